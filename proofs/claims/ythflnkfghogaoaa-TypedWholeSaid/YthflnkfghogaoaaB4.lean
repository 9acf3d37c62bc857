/- Walks, written by a program: what each function of the translation hands back. -/
import Derived.Test.YthflnkfghogaoaaB3
set_option linter.unusedVariables false
set_option linter.unusedSimpArgs false

namespace Go.Proofs.Ythflnkfghogaoaa
open Go.Gx Go.RowKit
attribute [local irreducible] wpList wpStill Code.wp Calls

theorem lkUpd {tv : Value} {D : List DTab} {l B : Nat} {F : Nat → Prop} {f : StF} {nv : Value} {w : World} (hT : TsRd w B tv D) (hD : D.length ≤ 1000000) (hsz : ∀ d ∈ D, d.t.cols.length ≤ 1000000 ∧ d.t.idx.length ≤ 1000000) (hB : B ≤ w.heap.size) (h : LookR w B l tv (.slice none 0 0) [] [] F) (hfv : XsRd w B f.vv f.vals) (hfw : XsRd w B f.wv f.wh) (hv1 : f.vals.length = 1) : Ret Try.prog 44 #[(ptr l 0), (Value.agg #[(Value.int .i64 f.kind), (Value.string (bs f.tb)), (Value.string (bs f.nm)), f.cv, f.gv, f.vv, f.iv, (Value.string (bs f.join)), f.ov, f.wv, f.rv, (Value.bool f.desc), nv])] w (fun v' w' => Gr w w' F ∧ v' = .int .i64 (match tabAt (D.map DTab.t) f.tb with | none => (9 : Int) | some t => updE t f)) := by
 have hR := hT.1
 have hltl := fun k hk => (h.lt k hk).2
 have hfvR := hfv.1
 have hfwR := hfw.1
 have hsz9 : ∀ t ∈ D.map DTab.t, t.cols.length ≤ 1000000 ∧ t.idx.length ≤ 1000000 := fun t ht => by obtain ⟨d, hd, rfl⟩ := List.mem_map.1 ht; exact hsz d hd
 have hb := Gr.refl w F
 refine enter (N := 58) Try.func44 rfl rfl (by simp) fun a0 hN hd hA => ?_
 have s0 : a0.tmps.getD 0 undef = (ptr l 0) := hA 0 (by simp)
 have s1 : a0.tmps.getD 1 undef = (Value.agg #[(Value.int .i64 f.kind), (Value.string (bs f.tb)), (Value.string (bs f.nm)), f.cv, f.gv, f.vv, f.iv, (Value.string (bs f.join)), f.ov, f.wv, f.rv, (Value.bool f.desc), nv]) := hA 1 (by simp)
 clear hA
 refine seq_any fun K1 hK1 => one_reg (op_box (cs := [(Value.int .i64 f.kind), (Value.string (bs f.tb)), (Value.string (bs f.nm)), f.cv, f.gv, f.vv, f.iv, (Value.string (bs f.join)), f.ov, f.wv, f.rv, (Value.bool f.desc), nv]) (ev_base hN rfl s1) rfl ?_)
 intro w2 b3 lo_b3 hi_b3 hB5 E4
 have dj6 : ¬ F b3 := fun hf => by have := (h.lt _ hf).2; omega
 have z_w2 := E4.size
 have hT := hT.keep0 E4
 have h := h.kz E4
 have hfv := hfv.keep0 E4
 have hfvR := hfvR.keep0 E4
 have hfw := hfw.keep0 E4
 have hb := hb.step0 E4
 refine op_assign rfl ?_
 refine reg_nil (hK1 _ _ (seq_any fun K7 hK7 => one_reg (op_move (ev_base hN rfl s0) (op_field fld45_1 (ev_hit hN rfl) (op_load1 (v := (Value.string (bs f.tb))) one9 (ev_hit hN rfl) (hB5.cell rfl) ?_)))))
 rcases Bool.eq_false_or_eq_true ((tabAt (D.map DTab.t) f.tb).isSome) with k13 | k13
 ·
  refine op_fn (vs := [(ptr l 0), (Value.string (bs f.tb))]) ok45 ⟨(ev_hit hN rfl), ⟨(ev_hit hN rfl), trivial⟩⟩ (lookTableT k13 (hT.mono (by omega)) hD hsz (by omega) h (by simp) (by simp)) ?_
  rintro _ w9 ⟨E10, d8, rfl, ht8, hO8, hP8, F8, hL8, hN8⟩
  have bd13 := hB5.lt
  have h_old := h
  have z_w9 := E10.size
  have hfv := hfv.keepG E10 (fun k hk => .inr (by have := h_old.lt k hk; omega))
  have hfvR := hfvR.keepG E10 (fun k hk => .inr (by have := h_old.lt k hk; omega))
  have hfw := hfw.keepG E10 (fun k hk => .inr (by have := h_old.lt k hk; omega))
  have hB5 := hB5.keepG E10 dj6
  have hb := hb.stepF E10 (fun _ _ q => q)
  have hO8 := hO8.mono (base' := w.heap.size) (by omega)
  have hP8 := hP8.mono (base' := w.heap.size) (by omega)
  refine op_move (ev_hit hN rfl) (op_extract (ev_hit hN rfl) rfl ?_)
  refine op_extract (ev_hit hN rfl) rfl ?_
  refine op_alloc (cs := [(Value.string (bs [])), (Value.slice none 0 0), (Value.slice none 0 0)]) zero55 rfl ?_
  intro w15 b16 lo_b16 hi_b16 hB18 E17
  have dj19 : ¬ F8 b16 := fun hf => by have := (hL8.lt _ hf).2; omega
  have z_w15 := E17.size
  have hfv := hfv.keep0 E17
  have hfvR := hfvR.keep0 E17
  have hfw := hfw.keep0 E17
  have hB5 := hB5.keep0 E17
  have hL8 := hL8.kz E17
  have hO8 := hO8.keep0 E17
  have hP8 := hP8.keep0 E17
  have hb := hb.step0 E17
  have hB18_old := hB18
  refine op_store (vs := [(Value.string (bs d8.t.nm)), d8.cv, d8.iv]) (cs' := [(Value.string (bs d8.t.nm)), d8.cv, d8.iv]) size55 (ev_hit hN rfl) (ev_hit hN rfl) rfl rfl (by simp only [List.all_cons, List.all_nil, Bool.true_and, Bool.and_true, hO8.one, hP8.one]; try rfl) hB18 (Nat.le_of_ble_eq_true rfl) rfl ?_
  intro w22 hB18 E23
  have z_w22 := E23.size
  have hfv := hfv.keep E23 (fun k hk => .inr (by simp at hk; omega))
  have hfvR := hfvR.keep E23 (fun k hk => .inr (by simp at hk; omega))
  have hfw := hfw.keep E23 (fun k hk => .inr (by simp at hk; omega))
  have hB5 := hB5.keep E23 (fun hh => hB5.ne hB18_old (by decide) (Option.some.inj hh))
  have hL8 := hL8.keepG (Gr.of E23) (Dj.one dj19)
  have hO8 := hO8.keepX hB18_old E23 (by decide)
  have hb := hb.step1 E23 (by omega)
  refine op_assign (ev_hit hN rfl) (reg_nil (hK7 _ _ (seq_any fun K24 hK24 => one_reg (op_loadA (cs := [(Value.string (bs d8.t.nm)), d8.cv, d8.iv]) agg55 rfl (ev_hit hN rfl) (fun j u hu => by rw [Nat.zero_add]; exact hB18.cell hu) ?_))))
  refine op_field fld45_2 (ev_hit hN rfl) (op_load1 (v := (Value.string (bs f.nm))) one9 (ev_hit hN rfl) (hB5.cell rfl) (op_fn (vs := [(Value.agg #[(Value.string (bs d8.t.nm)), d8.cv, d8.iv]), (Value.string (bs f.nm))]) ok58 ⟨(ev_hit hN rfl), ⟨(ev_hit hN rfl), trivial⟩⟩ (Column_ret d8.t.nm d8.t.cols _ d8.iv f.nm _ (hO8.rdw.mono (Nat.zero_le _) (by omega))) ?_))
  rintro _ w25 ⟨E26, rfl⟩
  have E26 := grown_of_below E26
  have z_w25 := E26.size
  have hfv := hfv.keep0 E26
  have hfvR := hfvR.keep0 E26
  have hfw := hfw.keep0 E26
  have hB5 := hB5.keep0 E26
  have hL8 := hL8.kz E26
  have hO8 := hO8.keep0 E26
  have hB18 := hB18.keep0 E26
  have hb := hb.step0 E26
  refine op_assign (ev_hit hN rfl) (reg_nil (hK24 _ _ (seq_any fun K27 hK27 => wp_block ?_)))
  refine seq_any fun K28 hK28 => one_reg (op_move (ev_hit hN rfl) ?_)
  refine op_bin (v := .bool false) (ev_hit hN rfl) rfl (by rw [binOp_neq]; rfl) (op_assign (ev_hit hN rfl) (reg_nil (hK28 _ _ (wp_cond_false (ev_hit hN rfl) (seq_any fun K29 hK29 => one_reg ?_)))))
  have hdl := (hsz9 _ (tab_mem ht8)).1
  have hcl9 : ([] ++ colsOf f.tb d8.t.cols).length = d8.t.cols.length := by rw [List.nil_append, cols_len]
  have hkl9 : ([] ++ kindsOf d8.t.cols).length = d8.t.cols.length := by rw [List.nil_append, kinds_len]
  refine op_move (ev_hit hN rfl) (op_lss (ev_hit hN rfl) rfl (fun c26 => ?_) (fun c26 => ?_))
  ·
   refine op_assign (ev_hit hN rfl) (reg_nil (hK29 _ _ ?_))
   refine wp_cond_true (ev_hit hN rfl) (seq_any fun K30 hK30 => one_reg (op_assign rfl (reg_nil (hK30 _ _ (wp_ret (blk_ret (then_ret ( ?_))))))))
   refine ret1 rfl hd (ev_hit hN rfl) ⟨_, rfl, ?_⟩
   rw [show tabAt (D.map DTab.t) f.tb = some d8.t from ht8]
   have e9 : updE d8.t f = 10 := updE_1 c26
   simp only []; rw [e9]; exact ⟨hb, rfl⟩
  ·
   refine op_assign (ev_hit hN rfl) (reg_nil (hK29 _ _ (wp_cond_false (ev_hit hN rfl) (seq_any fun K31 hK31 => one_reg ?_))))
   have hci := colIx_lt c26
   refine op_move (ev_hit hN rfl) (op_eql (ev_hit hN rfl) rfl (fun c29 => ?_) (fun c29 => ?_))
   ·
    refine op_move (ev_hit hN rfl) (g_false (j := 2) (dj := 30) (b := false) rfl rfl rfl (ev_hit hN rfl) rfl rfl ?_)
    refine g_false (j := 2) (dj := 30) (b := false) rfl rfl rfl (ev_hit hN rfl) rfl rfl (g_false (j := 2) (dj := 30) (b := false) rfl rfl rfl (ev_hit hN rfl) rfl rfl (g_false (j := 2) (dj := 30) (b := false) rfl rfl rfl (ev_hit hN rfl) rfl rfl (g_false (j := 2) (dj := 30) (b := false) rfl rfl rfl (ev_hit hN rfl) rfl rfl (g_false (j := 2) (dj := 30) (b := false) rfl rfl rfl (ev_hit hN rfl) rfl rfl (g_false (j := 2) (dj := 30) (b := false) rfl rfl rfl (ev_hit hN rfl) rfl rfl (op_pick_t (ev_hit hN rfl) rfl ?_))))))
    refine op_assign (ev_hit hN rfl) (reg_nil (hK31 _ _ ?_))
    refine wp_cond_true (ev_hit hN rfl) (seq_any fun K32 hK32 => one_reg (op_assign rfl (reg_nil (hK32 _ _ (wp_ret (blk_ret (then_ret ( ?_))))))))
    refine ret1 rfl hd (ev_hit hN rfl) ⟨_, rfl, ?_⟩
    rw [show tabAt (D.map DTab.t) f.tb = some d8.t from ht8]
    have e9 : updE d8.t f = 24 := updE_2 c26 (.inl c29)
    simp only []; rw [e9]; exact ⟨hb, rfl⟩
   ·
    refine op_move (ev_hit hN rfl) (g_true (j := 2) (dj := 30) (b := false) rfl rfl rfl (ev_hit hN rfl) ?_)
    refine op_field fld55_1 (ev_hit hN rfl) (g_true (j := 2) (dj := 30) (b := false) rfl rfl rfl (ev_hit hN rfl) (op_load1 (v := d8.cv) one41 (ev_hit hN rfl) (hB18.cell rfl) (g_true (j := 2) (dj := 30) (b := false) rfl rfl rfl (ev_hit hN rfl) (op_move (ev_hit hN rfl) (g_true (j := 2) (dj := 30) (b := false) rfl rfl rfl (ev_hit hN rfl) (op_index_rd slt41 (ev_hit hN rfl) hO8.rdw (ev_hit hN rfl) (by omega) (by omega) ?_))))))
    intro b33 o34 h0b33 h1b33 hc35
    refine g_true (j := 2) (dj := 30) (b := false) rfl rfl rfl (ev_hit hN rfl) (op_field fld68_2 (ev_hit hN rfl) (g_true (j := 2) (dj := 30) (b := false) rfl rfl rfl (ev_hit hN rfl) (op_load1 (v := (Value.string (bs (d8.t.cols.getD (colIx d8.t.cols f.nm).toNat default).ref))) one9 (ev_hit hN rfl) (hc35 2 ((Value.string (bs (d8.t.cols.getD (colIx d8.t.cols f.nm).toNat default).ref))) (by decide) ((el_pc (i := (colIx d8.t.cols f.nm).toNat) (by omega) (by omega)) 2 ((Value.string (bs (d8.t.cols.getD (colIx d8.t.cols f.nm).toNat default).ref))) rfl)) (g_true (j := 2) (dj := 30) (b := false) rfl rfl rfl (ev_hit hN rfl) (op_sneq (ev_hit hN rfl) rfl (fun c37 => ?_) (fun c37 => ?_))))))
    ·
     refine op_pick_f (ev_hit hN rfl) (ev_hit hN rfl) ?_
     refine op_assign (ev_hit hN rfl) (reg_nil (hK31 _ _ ?_))
     refine wp_cond_true (ev_hit hN rfl) (seq_any fun K36 hK36 => one_reg (op_assign rfl (reg_nil (hK36 _ _ (wp_ret (blk_ret (then_ret ( ?_))))))))
     refine ret1 rfl hd (ev_hit hN rfl) ⟨_, rfl, ?_⟩
     rw [show tabAt (D.map DTab.t) f.tb = some d8.t from ht8]
     have e9 : updE d8.t f = 24 := updE_2 c26 (.inr c37)
     simp only []; rw [e9]; exact ⟨hb, rfl⟩
    ·
     refine op_pick_f (ev_hit hN rfl) (ev_hit hN rfl) ?_
     refine op_assign (ev_hit hN rfl) ?_
     refine reg_nil (hK31 _ _ (wp_cond_false (ev_hit hN rfl) (wp_skip (hK27 _ _ (seq_any fun K37 hK37 => seq_any fun K38 hK38 => ?_)))))
     refine reg_quiet (Φ := phiL [(fun uz _ => uz = (ptr l 0)), (fun uz _ => uz = (ptr b3 5)), (fun uz _ => uz = f.vv), (fun uz w' => ∃ (b39 : (Nat)) (o40 : (Nat)), uz = (ptr b39 o40) ∧ PtC w' 0 B b39 o40 [(Value.int .i64 (f.vals.getD 0 default).op), (Value.int .i64 (f.vals.getD 0 default).vk), (Value.int .i64 (f.vals.getD 0 default).vi), (Value.string (bs (f.vals.getD 0 default).vt)), (Value.string (bs (f.vals.getD 0 default).tb)), (Value.string (bs (f.vals.getD 0 default).nm)), (f.vals.getD 0 default).av]), (fun uz _ => uz = (Value.agg #[(Value.int .i64 (f.vals.getD 0 default).op), (Value.int .i64 (f.vals.getD 0 default).vk), (Value.int .i64 (f.vals.getD 0 default).vi), (Value.string (bs (f.vals.getD 0 default).vt)), (Value.string (bs (f.vals.getD 0 default).tb)), (Value.string (bs (f.vals.getD 0 default).nm)), (f.vals.getD 0 default).av])), (fun uz _ => uz = (ptr b16 1)), (fun uz _ => uz = d8.cv), (fun uz _ => uz = (Value.int .i64 (colIx d8.t.cols f.nm))), (fun uz w' => ∃ (b43 : (Nat)) (o44 : (Nat)), uz = (ptr b43 o44) ∧ PtC w' b43 (b43 + 1) b43 o44 [(Value.string (bs (d8.t.cols.getD (colIx d8.t.cols f.nm).toNat default).nm)), (Value.int .i64 (d8.t.cols.getD (colIx d8.t.cols f.nm).toNat default).kind), (Value.string (bs (d8.t.cols.getD (colIx d8.t.cols f.nm).toNat default).ref))]), (fun uz w' => ∃ (y39 : (Nat)) (y40 : (Nat)), uz = (ptr y39 (y40 + 1)) ∧ PtC w' y39 (y39 + 1) y39 y40 [(Value.string (bs (d8.t.cols.getD (colIx d8.t.cols f.nm).toNat default).nm)), (Value.int .i64 (d8.t.cols.getD (colIx d8.t.cols f.nm).toNat default).kind), (Value.string (bs (d8.t.cols.getD (colIx d8.t.cols f.nm).toNat default).ref))]), (fun uz _ => uz = (Value.int .i64 (d8.t.cols.getD (colIx d8.t.cols f.nm).toNat default).kind)), (fun uz _ => uz = (Value.int .i64 (mustX (([] : List PItm) ++ colsOf f.tb d8.t.cols) (([] : List Int) ++ kindsOf d8.t.cols) (f.vals.getD 0 default) ((d8.t.cols.getD (colIx d8.t.cols f.nm).toNat default).kind)))), (fun uz _ => uz = (Value.int .i64 (mustX (([] : List PItm) ++ colsOf f.tb d8.t.cols) (([] : List Int) ++ kindsOf d8.t.cols) (f.vals.getD 0 default) ((d8.t.cols.getD (colIx d8.t.cols f.nm).toNat default).kind))))]) mixed (by kernel_rfl) (by kernel_rfl) (by kernel_rfl) hN (StL.get (StL.eq (StL.eq (StL.eq (StL.cons (fun u w1 w2 E h => by obtain ⟨x0, x1, hv, f0⟩ := h; exact ⟨x0, x1, hv, f0.keep0 E⟩) (StL.eq (StL.eq (StL.eq (StL.eq (StL.cons (fun u w1 w2 E h => by obtain ⟨x0, x1, hv, f0⟩ := h; exact ⟨x0, x1, hv, f0.keep0 E⟩) (StL.cons (fun u w1 w2 E h => by obtain ⟨x0, x1, hv, f0⟩ := h; exact ⟨x0, x1, hv, f0.keep0 E⟩) (StL.eq (StL.eq (StL.eq (StL.nil _))))))))))))))) (ObL.get (s := 13) (ObL.cons ?_ (ObL.cons ?_ (ObL.cons ?_ (ObL.cons ?_ (ObL.cons ?_ (ObL.cons ?_ (ObL.cons ?_ (ObL.cons ?_ (ObL.cons ?_ (ObL.cons ?_ (ObL.cons ?_ (ObL.cons ?_ (ObL.cons ?_ (ObL.nil)))))))))))))) rfl) ?_
     ·
      intro aA wA hNA hRA hbsA hdpA
      have qA_0 := (hbsA 0 rfl).trans (sl_base hN rfl s0)
      refine op_move (ev_base hNA rfl qA_0) ?_
      exact obN_end rfl rfl (grown_refl _ _)
     ·
      intro aA wA hNA hRA hbsA hdpA
      have qA_3 := (hbsA 3 rfl).trans (sl_hit hN rfl)
      refine op_field fld45_5 (ev_base hNA rfl qA_3) ?_
      exact obN_end rfl rfl (grown_refl _ _)
     ·
      intro aA wA hNA hRA hbsA hdpA
      have hRA : w25.grownBy wA none := hRA
      have z_wA := hRA.size
      have hB5 := hB5.keep0 hRA
      have qA_40 : Sl aA 40 (ptr b3 5) := hdpA 1 _ 40 (by kernel_rfl) rfl rfl
      clear hbsA hdpA
      refine op_load1 (v := f.vv) one26 (ev_base hNA rfl qA_40) (hB5.cell rfl) ?_
      exact obN_end rfl rfl (grown_refl _ _)
     ·
      intro aA wA hNA hRA hbsA hdpA
      have hRA : w25.grownBy wA none := hRA
      have z_wA := hRA.size
      have hfvR := hfvR.keep0 hRA
      have qA_41 : Sl aA 41 f.vv := hdpA 2 _ 41 (by kernel_rfl) rfl rfl
      clear hbsA hdpA
      refine op_index_rd slt26 (ev_base hNA rfl qA_41) hfvR rfl (by omega) (by omega) ?_
      intro b42 o43 h0b42 h1b42 hc44
      have hp45 : PtC wA 0 B b42 o43 [(Value.int .i64 (f.vals.getD 0 default).op), (Value.int .i64 (f.vals.getD 0 default).vk), (Value.int .i64 (f.vals.getD 0 default).vi), (Value.string (bs (f.vals.getD 0 default).vt)), (Value.string (bs (f.vals.getD 0 default).tb)), (Value.string (bs (f.vals.getD 0 default).nm)), (f.vals.getD 0 default).av] := ⟨by omega, by omega, fun j u hu => hc44 j u (by have := (List.getElem?_eq_some_iff.1 hu).1; simpa using this) ((el_xe (i := 0) (by omega) (by omega)) j u hu)⟩
      exact obN_end rfl ⟨b42, o43, rfl, hp45⟩ (grown_refl _ _)
     ·
      intro aA wA hNA hRA hbsA hdpA
      have hRA : w25.grownBy wA none := hRA
      have z_wA := hRA.size
      obtain ⟨b39, o40, qA_42, hp42⟩ := hdpA 3 _ 42 (by kernel_rfl) rfl rfl
      have hp42 : PtC wA 0 B b39 o40 [(Value.int .i64 (f.vals.getD 0 default).op), (Value.int .i64 (f.vals.getD 0 default).vk), (Value.int .i64 (f.vals.getD 0 default).vi), (Value.string (bs (f.vals.getD 0 default).vt)), (Value.string (bs (f.vals.getD 0 default).tb)), (Value.string (bs (f.vals.getD 0 default).nm)), (f.vals.getD 0 default).av] := hp42
      clear hbsA hdpA
      refine op_loadA (cs := [(Value.int .i64 (f.vals.getD 0 default).op), (Value.int .i64 (f.vals.getD 0 default).vk), (Value.int .i64 (f.vals.getD 0 default).vi), (Value.string (bs (f.vals.getD 0 default).vt)), (Value.string (bs (f.vals.getD 0 default).tb)), (Value.string (bs (f.vals.getD 0 default).nm)), (f.vals.getD 0 default).av]) agg28 rfl (ev_base hNA rfl qA_42) (fun j u hu => hp42.2.2 j u hu) ?_
      exact obN_end rfl rfl (grown_refl _ _)
     ·
      intro aA wA hNA hRA hbsA hdpA
      have qA_5 := (hbsA 5 rfl).trans (sl_hit hN rfl)
      refine op_field fld55_1 (ev_base hNA rfl qA_5) ?_
      exact obN_end rfl rfl (grown_refl _ _)
     ·
      intro aA wA hNA hRA hbsA hdpA
      have hRA : w25.grownBy wA none := hRA
      have z_wA := hRA.size
      have hB18 := hB18.keep0 hRA
      have qA_44 : Sl aA 44 (ptr b16 1) := hdpA 5 _ 44 (by kernel_rfl) rfl rfl
      clear hbsA hdpA
      refine op_load1 (v := d8.cv) one41 (ev_base hNA rfl qA_44) (hB18.cell rfl) ?_
      exact obN_end rfl rfl (grown_refl _ _)
     ·
      intro aA wA hNA hRA hbsA hdpA
      have qA_7 := (hbsA 7 rfl).trans (sl_hit hN rfl)
      refine op_move (ev_base hNA rfl qA_7) ?_
      exact obN_end rfl rfl (grown_refl _ _)
     ·
      intro aA wA hNA hRA hbsA hdpA
      have hRA : w25.grownBy wA none := hRA
      have z_wA := hRA.size
      have hO8 := hO8.keep0 hRA
      have qA_45 : Sl aA 45 d8.cv := hdpA 6 _ 45 (by kernel_rfl) rfl rfl
      have qA_46 : Sl aA 46 (Value.int .i64 (colIx d8.t.cols f.nm)) := hdpA 7 _ 46 (by kernel_rfl) rfl rfl
      clear hbsA hdpA
      refine op_index_rd slt41 (ev_base hNA rfl qA_45) hO8.rdw (ev_base hNA rfl qA_46) (by omega) (by omega) ?_
      intro b46 o47 h0b46 h1b46 hc48
      have hp49 : PtC wA b46 (b46 + 1) b46 o47 [(Value.string (bs (d8.t.cols.getD (colIx d8.t.cols f.nm).toNat default).nm)), (Value.int .i64 (d8.t.cols.getD (colIx d8.t.cols f.nm).toNat default).kind), (Value.string (bs (d8.t.cols.getD (colIx d8.t.cols f.nm).toNat default).ref))] := ⟨by omega, by omega, fun j u hu => hc48 j u (by have := (List.getElem?_eq_some_iff.1 hu).1; simpa using this) ((el_pc (i := (colIx d8.t.cols f.nm).toNat) (by omega) (by omega)) j u hu)⟩
      exact obN_end rfl ⟨b46, o47, rfl, hp49⟩ (grown_refl _ _)
     ·
      intro aA wA hNA hRA hbsA hdpA
      obtain ⟨b43, o44, qA_47, hp46⟩ := hdpA 8 _ 47 (by kernel_rfl) rfl rfl
      have hp46 : PtC wA b43 (b43 + 1) b43 o44 [(Value.string (bs (d8.t.cols.getD (colIx d8.t.cols f.nm).toNat default).nm)), (Value.int .i64 (d8.t.cols.getD (colIx d8.t.cols f.nm).toNat default).kind), (Value.string (bs (d8.t.cols.getD (colIx d8.t.cols f.nm).toNat default).ref))] := hp46
      refine op_field fld68_1 (ev_base hNA rfl qA_47) ?_
      exact obN_end rfl ⟨b43, o44, rfl, hp46⟩ (grown_refl _ _)
     ·
      intro aA wA hNA hRA hbsA hdpA
      have hRA : w25.grownBy wA none := hRA
      have z_wA := hRA.size
      obtain ⟨y39, y40, qA_48, hy41⟩ := hdpA 9 _ 48 (by kernel_rfl) rfl rfl
      have hy41 : PtC wA y39 (y39 + 1) y39 y40 [(Value.string (bs (d8.t.cols.getD (colIx d8.t.cols f.nm).toNat default).nm)), (Value.int .i64 (d8.t.cols.getD (colIx d8.t.cols f.nm).toNat default).kind), (Value.string (bs (d8.t.cols.getD (colIx d8.t.cols f.nm).toNat default).ref))] := hy41
      clear hbsA hdpA
      refine op_load1 (v := (Value.int .i64 (d8.t.cols.getD (colIx d8.t.cols f.nm).toNat default).kind)) one3 (ev_base hNA rfl qA_48) (hy41.2.2 1 _ rfl) ?_
      exact obN_end rfl rfl (grown_refl _ _)
     ·
      intro aA wA hNA hRA hbsA hdpA
      have hRA : w25.grownBy wA none := hRA
      have z_wA := hRA.size
      have hfv := hfv.keep0 hRA
      have hL8 := hL8.keepG (Gr.of0 hRA NoB) (fun _ _ h => h)
      have qA_39 : Sl aA 39 (ptr l 0) := hdpA 0 _ 39 (by kernel_rfl) rfl rfl
      have qA_43 : Sl aA 43 (Value.agg #[(Value.int .i64 (f.vals.getD 0 default).op), (Value.int .i64 (f.vals.getD 0 default).vk), (Value.int .i64 (f.vals.getD 0 default).vi), (Value.string (bs (f.vals.getD 0 default).vt)), (Value.string (bs (f.vals.getD 0 default).tb)), (Value.string (bs (f.vals.getD 0 default).nm)), (f.vals.getD 0 default).av]) := hdpA 4 _ 43 (by kernel_rfl) rfl rfl
      have qA_49 : Sl aA 49 (Value.int .i64 (d8.t.cols.getD (colIx d8.t.cols f.nm).toNat default).kind) := hdpA 10 _ 49 (by kernel_rfl) rfl rfl
      clear hbsA hdpA
      refine op_fn (vs := [(ptr l 0), (Value.agg #[(Value.int .i64 (f.vals.getD 0 default).op), (Value.int .i64 (f.vals.getD 0 default).vk), (Value.int .i64 (f.vals.getD 0 default).vi), (Value.string (bs (f.vals.getD 0 default).vt)), (Value.string (bs (f.vals.getD 0 default).tb)), (Value.string (bs (f.vals.getD 0 default).nm)), (f.vals.getD 0 default).av]), (Value.int .i64 (d8.t.cols.getD (colIx d8.t.cols f.nm).toNat default).kind)]) ok70 ⟨(ev_base hNA rfl qA_39), ⟨(ev_base hNA rfl qA_43), ⟨(ev_base hNA rfl qA_49), trivial⟩⟩⟩ (lkMust (f.vals.getD 0 default) ((d8.t.cols.getD (colIx d8.t.cols f.nm).toNat default).kind) (by omega) hL8 (by omega) (by omega) ((hfv.2 (f.vals.getD 0 default) (getD_mem (by omega))).mono (by omega))) ?_
      rintro _ w50 ⟨E51, rfl⟩
      have E51 := grown_of_below E51
      have z_w50 := E51.size
      exact obN_end rfl rfl (E51)
     ·
      intro aA wA hNA hRA hbsA hdpA
      have qA_50 : Sl aA 50 (Value.int .i64 (mustX (([] : List PItm) ++ colsOf f.tb d8.t.cols) (([] : List Int) ++ kindsOf d8.t.cols) (f.vals.getD 0 default) ((d8.t.cols.getD (colIx d8.t.cols f.nm).toNat default).kind))) := hdpA 11 _ 50 (by kernel_rfl) rfl rfl
      refine op_assign (ev_base hNA rfl qA_50) ?_
      exact obN_end rfl rfl (grown_refl _ _)
     ·
      intro a52 w52 hN52 hd52 hbs52 hph52 E52
      have hd52 := hd52.trans hd
      have s52_0 := (hbs52 0 rfl).trans (sl_base hN rfl s0)
      have s52_3 := (hbs52 3 rfl).trans (sl_hit hN rfl)
      have s52_8 : Sl a52 8 (Value.int .i64 (mustX (([] : List PItm) ++ colsOf f.tb d8.t.cols) (([] : List Int) ++ kindsOf d8.t.cols) (f.vals.getD 0 default) ((d8.t.cols.getD (colIx d8.t.cols f.nm).toNat default).kind))) := hph52 12 _ 8 rfl rfl
      clear hbs52 hph52
      have E52 : w25.grownBy w52 none := E52
      have z_w52 := E52.size
      have hfw := hfw.keep0 E52
      have hB5 := hB5.keep0 E52
      have hL8 := hL8.kz E52
      have hb := hb.step0 E52
      refine hK38 _ _ (seq_any fun K53 hK53 => ?_)
      refine one_reg (op_move (ev_base hN52 rfl s52_8) (op_neq (ev_hit hN52 rfl) rfl (fun c52 => ?_) (fun c52 => ?_)))
      ·
       refine reg_nil (hK53 _ _ (wp_cond_true (ev_hit hN52 rfl) ?_))
       refine seq_any fun K54 hK54 => one_reg (op_move (ev_base hN52 rfl s52_8) (op_assign (ev_hit hN52 rfl) (reg_nil (hK54 _ _ (wp_ret (then_ret ( ?_)))))))
       refine ret1 rfl hd52 (ev_hit hN52 rfl) ⟨_, rfl, ?_⟩
       rw [show tabAt (D.map DTab.t) f.tb = some d8.t from ht8]
       have e9 : updE d8.t f = (mustX (colsOf f.tb d8.t.cols) (kindsOf d8.t.cols) (f.vals.getD 0 default) (d8.t.cols.getD (colIx d8.t.cols f.nm).toNat default).kind) := updE_3 c26 (fun g => g.elim (fun g => c29 g) fun g => g c37) c52
       simp only []; rw [e9]; exact ⟨hb, rfl⟩
      ·
       refine reg_nil (hK53 _ _ (wp_cond_false (ev_hit hN52 rfl) (wp_skip ?_)))
       refine hK37 _ _ (seq_any fun K55 hK55 => one_reg (op_move (ev_base hN52 rfl s52_0) (op_field fld45_9 (ev_base hN52 rfl s52_3) (op_load1 (v := f.wv) one26 (ev_hit hN52 rfl) (hB5.cell rfl) (op_fn (vs := [(ptr l 0), f.wv]) ok46 ⟨(ev_hit hN52 rfl), ⟨(ev_hit hN52 rfl), trivial⟩⟩ (lkWhere (by omega) hL8 (by omega) (by omega) (hfw.mono (by omega))) ?_)))))
       rintro _ w56 ⟨E57, rfl⟩
       have E57 := grown_of_below E57
       have z_w56 := E57.size
       have hb := hb.step0 E57
       refine op_assign (ev_hit hN52 rfl) (reg_nil (hK55 _ _ (wp_ret ?_)))
       refine ret1 rfl hd52 (ev_hit hN52 rfl) ⟨_, rfl, ?_⟩
       rw [show tabAt (D.map DTab.t) f.tb = some d8.t from ht8]
       have e9 : updE d8.t f = (whereX (colsOf f.tb d8.t.cols) (kindsOf d8.t.cols) f.wh) := updE_4 c26 (fun g => g.elim (fun g => c29 g) fun g => g c37) c52
       simp only []; rw [e9]; exact ⟨hb, rfl⟩
 ·
  refine op_fn (vs := [(ptr l 0), (Value.string (bs f.tb))]) ok45 ⟨(ev_hit hN rfl), ⟨(ev_hit hN rfl), trivial⟩⟩ (lookTableF k13 (hT.mono (by omega)) hD hsz (by omega) h (by simp) (by simp)) ?_
  rintro _ w59 ⟨E60, rfl, F58, hL58, hN58⟩
  have bd61 := hB5.lt
  have z_w59 := E60.size
  have hB5 := hB5.keepG E60 dj6
  have hb := hb.stepF E60 (fun _ _ q => q)
  refine op_move (ev_hit hN rfl) (op_extract (ev_hit hN rfl) rfl ?_)
  refine op_extract (ev_hit hN rfl) rfl ?_
  refine op_alloc (cs := [(Value.string (bs [])), (Value.slice none 0 0), (Value.slice none 0 0)]) zero55 rfl ?_
  intro w63 b64 lo_b64 hi_b64 hB66 E65
  have z_w63 := E65.size
  have hB5 := hB5.keep0 E65
  have hb := hb.step0 E65
  have hB66_old := hB66
  refine op_store (vs := [(Value.string (bs [])), (Value.slice none 0 0), (Value.slice none 0 0)]) (cs' := [(Value.string (bs [])), (Value.slice none 0 0), (Value.slice none 0 0)]) size55 (ev_hit hN rfl) (ev_hit hN rfl) rfl rfl rfl hB66 (Nat.le_of_ble_eq_true rfl) rfl ?_
  intro w70 hB66 E71
  have z_w70 := E71.size
  have hB5 := hB5.keep E71 (fun hh => hB5.ne hB66_old (by decide) (Option.some.inj hh))
  have hb := hb.step1 E71 (by omega)
  refine op_assign (ev_hit hN rfl) (reg_nil (hK7 _ _ (seq_any fun K72 hK72 => one_reg (op_loadA (cs := [(Value.string (bs [])), (Value.slice none 0 0), (Value.slice none 0 0)]) agg55 rfl (ev_hit hN rfl) (fun j u hu => by rw [Nat.zero_add]; exact hB66.cell hu) ?_))))
  refine op_field fld45_2 (ev_hit hN rfl) (op_load1 (v := (Value.string (bs f.nm))) one9 (ev_hit hN rfl) (hB5.cell rfl) (op_fn (vs := [(Value.agg #[(Value.string (bs [])), (Value.slice none 0 0), (Value.slice none 0 0)]), (Value.string (bs f.nm))]) ok58 ⟨(ev_hit hN rfl), ⟨(ev_hit hN rfl), trivial⟩⟩ (Column_ret [] [] _ (Value.slice none 0 0) f.nm _ ((RdC.nil _ 0 0 1).mono (Nat.zero_le _) (by omega))) ?_))
  rintro _ w73 ⟨E74, rfl⟩
  have E74 := grown_of_below E74
  have z_w73 := E74.size
  have hb := hb.step0 E74
  refine op_assign (ev_hit hN rfl) (reg_nil (hK72 _ _ (seq_any fun K75 hK75 => wp_block ?_)))
  refine seq_any fun K76 hK76 => ?_
  refine one_reg (op_move (ev_hit hN rfl) (op_bin (v := .bool true) (ev_hit hN rfl) rfl (by rw [binOp_neq]; rfl) (op_assign (ev_hit hN rfl) (reg_nil (hK76 _ _ (wp_cond_true (ev_hit hN rfl) ?_))))))
  refine seq_any fun K77 hK77 => one_reg (op_move (ev_hit hN rfl) (op_assign (ev_hit hN rfl) (reg_nil (hK77 _ _ (wp_ret (blk_ret (then_ret ( ?_))))))))
  refine ret1 rfl hd (ev_hit hN rfl) ⟨_, rfl, ?_⟩
  have hn9 : tabAt (D.map DTab.t) f.tb = none := by cases hh : tabAt (D.map DTab.t) f.tb with
    | none => rfl
    | some u => rw [hh] at k13; cases k13
  rw [hn9]; exact ⟨hb, rfl⟩

theorem lkSel {tv : Value} {D : List DTab} {l B : Nat} {F : Nat → Prop} {f : StF} {nv : Value} {w : World} (hT : TsRd w B tv D) (hD : D.length ≤ 1000000) (hsz : ∀ d ∈ D, d.t.cols.length ≤ 1000000 ∧ d.t.idx.length ≤ 1000000) (hB : B ≤ w.heap.size) (h : LookR w B l tv (.slice none 0 0) [] [] F) (hfo : XsRd w B f.ov f.on) (hfw : XsRd w B f.wv f.wh) (hfr : XsRd w B f.rv f.ord) (hfi : RdC w 0 B 3 f.iv f.items.length (f.items.flatMap cellsI)) (hon : ¬ f.join = [] → f.on.length = 2) : Ret Try.prog 43 #[(ptr l 0), (Value.agg #[(Value.int .i64 f.kind), (Value.string (bs f.tb)), (Value.string (bs f.nm)), f.cv, f.gv, f.vv, f.iv, (Value.string (bs f.join)), f.ov, f.wv, f.rv, (Value.bool f.desc), nv])] w (fun v' w' => Gr w w' F ∧ v' = .int .i64 (selsE (D.map DTab.t) f)) := by
 have hR := hT.1
 have hltl := fun k hk => (h.lt k hk).2
 have hfoR := hfo.1
 have hfwR := hfw.1
 have hfrR := hfr.1
 have hsz9 : ∀ t ∈ D.map DTab.t, t.cols.length ≤ 1000000 ∧ t.idx.length ≤ 1000000 := fun t ht => by obtain ⟨d, hd, rfl⟩ := List.mem_map.1 ht; exact hsz d hd
 have hfil := rd_len hfi
 have hfrl := rd_len hfrR
 have hb := Gr.refl w F
 refine enter (N := 64) Try.func43 rfl rfl (by simp) fun a0 hN hd hA => ?_
 have s0 : a0.tmps.getD 0 undef = (ptr l 0) := hA 0 (by simp)
 have s1 : a0.tmps.getD 1 undef = (Value.agg #[(Value.int .i64 f.kind), (Value.string (bs f.tb)), (Value.string (bs f.nm)), f.cv, f.gv, f.vv, f.iv, (Value.string (bs f.join)), f.ov, f.wv, f.rv, (Value.bool f.desc), nv]) := hA 1 (by simp)
 clear hA
 refine seq_any fun K78 hK78 => one_reg (op_box (cs := [(ptr l 0)]) (ev_base hN rfl s0) rfl ?_)
 intro w79 b80 lo_b80 hi_b80 hB82 E81
 have dj83 : ¬ F b80 := fun hf => by have := (h.lt _ hf).2; omega
 have z_w79 := E81.size
 have hT := hT.keep0 E81
 have h := h.kz E81
 have hfo := hfo.keep0 E81
 have hfw := hfw.keep0 E81
 have hfr := hfr.keep0 E81
 have hfrR := hfrR.keep0 E81
 have hfi := hfi.keep0 E81
 have hb := hb.step0 E81
 refine op_box (cs := [(Value.int .i64 f.kind), (Value.string (bs f.tb)), (Value.string (bs f.nm)), f.cv, f.gv, f.vv, f.iv, (Value.string (bs f.join)), f.ov, f.wv, f.rv, (Value.bool f.desc), nv]) (ev_base hN rfl s1) rfl ?_
 intro w84 b85 lo_b85 hi_b85 hB87 E86
 have dj88 : ¬ F b85 := fun hf => by have := (h.lt _ hf).2; omega
 have z_w84 := E86.size
 have hT := hT.keep0 E86
 have h := h.kz E86
 have hfo := hfo.keep0 E86
 have hfw := hfw.keep0 E86
 have hfr := hfr.keep0 E86
 have hfrR := hfrR.keep0 E86
 have hfi := hfi.keep0 E86
 have hB82 := hB82.keep0 E86
 have hb := hb.step0 E86
 refine op_assign rfl (reg_nil ?_)
 refine hK78 _ _ (seq_any fun K89 hK89 => seq_any fun K90 hK90 => one_reg (op_load1 (v := (ptr l 0)) one90 (ev_hit hN rfl) (hB82.cell rfl) (op_field fld45_1 (ev_hit hN rfl) (op_load1 (v := (Value.string (bs f.tb))) one9 (ev_hit hN rfl) (hB87.cell rfl) ?_))))
 rcases Bool.eq_false_or_eq_true ((tabAt (D.map DTab.t) f.tb).isSome) with k15 | k15
 ·
  refine op_fn (vs := [(ptr l 0), (Value.string (bs f.tb))]) ok45 ⟨(ev_hit hN rfl), ⟨(ev_hit hN rfl), trivial⟩⟩ (lookTableT k15 (hT.mono (by omega)) hD hsz (by omega) h (by simp) (by simp)) ?_
  rintro _ w92 ⟨E93, d91, rfl, ht91, hO91, hP91, F91, hL91, hN91⟩
  have bd96 := hB82.lt
  have bd97 := hB87.lt
  have h_old := h
  have z_w92 := E93.size
  have hT := hT.keepG E93 (fun k hk => .inr (by have := h_old.lt k hk; omega))
  have hfo := hfo.keepG E93 (fun k hk => .inr (by have := h_old.lt k hk; omega))
  have hfw := hfw.keepG E93 (fun k hk => .inr (by have := h_old.lt k hk; omega))
  have hfr := hfr.keepG E93 (fun k hk => .inr (by have := h_old.lt k hk; omega))
  have hfrR := hfrR.keepG E93 (fun k hk => .inr (by have := h_old.lt k hk; omega))
  have hfi := hfi.keepG E93 (fun k hk => .inr (by have := h_old.lt k hk; omega))
  have hB82 := hB82.keepG E93 dj83
  have hB87 := hB87.keepG E93 dj88
  have hb := hb.stepF E93 (fun _ _ q => q)
  have dj98 : ¬ F91 b80 := ne_stepF hN91 bd96 dj83
  have dj99 : ¬ F91 b85 := ne_stepF hN91 bd97 dj88
  have hO91 := hO91.mono (base' := w.heap.size) (by omega)
  have hP91 := hP91.mono (base' := w.heap.size) (by omega)
  refine op_move (ev_hit hN rfl) (op_extract (ev_hit hN rfl) rfl ?_)
  refine op_extract (ev_hit hN rfl) rfl ?_
  refine op_alloc (cs := [(Value.string (bs [])), (Value.slice none 0 0), (Value.slice none 0 0)]) zero55 rfl ?_
  intro w100 b101 lo_b101 hi_b101 hB103 E102
  have dj104 : ¬ F91 b101 := fun hf => by have := (hL91.lt _ hf).2; omega
  have z_w100 := E102.size
  have hT := hT.keep0 E102
  have hfo := hfo.keep0 E102
  have hfw := hfw.keep0 E102
  have hfr := hfr.keep0 E102
  have hfrR := hfrR.keep0 E102
  have hfi := hfi.keep0 E102
  have hB82 := hB82.keep0 E102
  have hB87 := hB87.keep0 E102
  have hL91 := hL91.kz E102
  have hO91 := hO91.keep0 E102
  have hP91 := hP91.keep0 E102
  have hb := hb.step0 E102
  have hB103_old := hB103
  refine op_store (vs := [(Value.string (bs d91.t.nm)), d91.cv, d91.iv]) (cs' := [(Value.string (bs d91.t.nm)), d91.cv, d91.iv]) size55 (ev_hit hN rfl) (ev_hit hN rfl) rfl rfl (by simp only [List.all_cons, List.all_nil, Bool.true_and, Bool.and_true, hO91.one, hP91.one]; try rfl) hB103 (Nat.le_of_ble_eq_true rfl) rfl ?_
  intro w107 hB103 E108
  have z_w107 := E108.size
  have hT := hT.keep E108 (fun k hk => .inr (by simp at hk; omega))
  have hfo := hfo.keep E108 (fun k hk => .inr (by simp at hk; omega))
  have hfw := hfw.keep E108 (fun k hk => .inr (by simp at hk; omega))
  have hfr := hfr.keep E108 (fun k hk => .inr (by simp at hk; omega))
  have hfrR := hfrR.keep E108 (fun k hk => .inr (by simp at hk; omega))
  have hfi := hfi.keep E108 (fun k hk => .inr (by simp at hk; omega))
  have hB82 := hB82.keep E108 (fun hh => hB82.ne hB103_old (by decide) (Option.some.inj hh))
  have hB87 := hB87.keep E108 (fun hh => hB87.ne hB103_old (by decide) (Option.some.inj hh))
  have hL91 := hL91.keepG (Gr.of E108) (Dj.one dj104)
  have hO91 := hO91.keepX hB103_old E108 (by decide)
  have hP91 := hP91.keepX hB103_old E108 (by decide)
  have hb := hb.step1 E108 (by omega)
  refine op_assign (ev_hit hN rfl) ?_
  refine reg_nil (hK90 _ _ (seq_any fun K109 hK109 => one_reg (op_move (ev_hit hN rfl) (op_bin (v := .bool false) (ev_hit hN rfl) rfl (by rw [binOp_neq]; rfl) (reg_nil ?_)))))
  refine hK109 _ _ (wp_cond_false (ev_hit hN rfl) (wp_skip (hK89 _ _ (seq_any fun K110 hK110 => seq_any fun K111 hK111 => one_reg ?_))))
  have hdl := (hsz9 _ (tab_mem ht91)).1
  have hcl9 : ([] ++ colsOf f.tb d91.t.cols).length = d91.t.cols.length := by rw [List.nil_append, cols_len]
  have hkl9 : ([] ++ kindsOf d91.t.cols).length = d91.t.cols.length := by rw [List.nil_append, kinds_len]
  refine op_load1 (v := (ptr l 0)) one90 (ev_hit hN rfl) (hB82.cell rfl) (op_loadA (cs := [(Value.int .i64 f.kind), (Value.string (bs f.tb)), (Value.string (bs f.nm)), f.cv, f.gv, f.vv, f.iv, (Value.string (bs f.join)), f.ov, f.wv, f.rv, (Value.bool f.desc), nv]) agg45 rfl (ev_hit hN rfl) (fun j u hu => by rw [Nat.zero_add]; exact hB87.cell hu) ?_)
  refine op_fn (vs := [(ptr l 0), (Value.agg #[(Value.int .i64 f.kind), (Value.string (bs f.tb)), (Value.string (bs f.nm)), f.cv, f.gv, f.vv, f.iv, (Value.string (bs f.join)), f.ov, f.wv, f.rv, (Value.bool f.desc), nv])]) ok71 ⟨(ev_hit hN rfl), ⟨(ev_hit hN rfl), trivial⟩⟩ (lkJoin (hT.mono (by omega)) hD hsz (by omega) hL91 (by omega) (by omega) (hfo.mono (by omega)) hon) ?_
  rintro _ w113 ⟨E114, rfl, C112, K112, F112, hL112, hN112, hE112⟩
  have bd115 := hB82.lt
  have bd116 := hB87.lt
  have bd117 := hO91.lt
  have bd118 := hP91.lt
  have bd119 := hB103.lt
  have hL91_old := hL91
  have z_w113 := E114.size
  have hfw := hfw.keepG E114 (fun k hk => .inr (by have := hL91_old.lt k hk; omega))
  have hfr := hfr.keepG E114 (fun k hk => .inr (by have := hL91_old.lt k hk; omega))
  have hfrR := hfrR.keepG E114 (fun k hk => .inr (by have := hL91_old.lt k hk; omega))
  have hfi := hfi.keepG E114 (fun k hk => .inr (by have := hL91_old.lt k hk; omega))
  have hB82 := hB82.keepG E114 dj98
  have hB87 := hB87.keepG E114 dj99
  have hb := hb.stepF E114 (fun k hk h => (hN91 k h).elim (fun h => (fun _ _ q => q) k hk h) fun q => absurd q (by omega))
  refine op_assign (ev_hit hN rfl) (reg_nil (hK111 _ _ (seq_any fun K125 hK125 => ?_)))
  refine one_reg (op_move (ev_hit hN rfl) (op_neq (ev_hit hN rfl) rfl (fun c25 => ?_) (fun c25 => ?_)))
  ·
   refine reg_nil (hK125 _ _ (wp_cond_true (ev_hit hN rfl) ?_))
   refine seq_any fun K126 hK126 => one_reg (op_move (ev_hit hN rfl) (op_assign (ev_hit hN rfl) (reg_nil (hK126 _ _ (wp_ret (then_ret ( ?_)))))))
   refine ret1 rfl hd (ev_hit hN rfl) ⟨_, rfl, ?_⟩
   have e9 : selsE (D.map DTab.t) f = (joinE (D.map DTab.t) f (colsOf f.tb d91.t.cols) (kindsOf d91.t.cols)) := by rw [selsE_some ht91, if_pos (show (joinE (D.map DTab.t) f (colsOf f.tb d91.t.cols) (kindsOf d91.t.cols)) ≠ 0 from c25)]
   rw [e9]; exact ⟨hb, rfl⟩
  ·
   refine reg_nil ?_
   refine hK125 _ _ (wp_cond_false (ev_hit hN rfl) (wp_skip (hK110 _ _ (seq_any fun K127 hK127 => seq_any fun K128 hK128 => one_reg ?_))))
   obtain ⟨hC9, hK9⟩ := hE112 c25
   simp only [List.nil_append] at hC9 hK9 c25
   subst hC9; subst hK9
   have hcl8 := @joinC_le (D.map DTab.t) f (colsOf f.tb d91.t.cols) _ (fun t ht => (hsz9 t ht).1)
   have hkl8 := @joinK_le (D.map DTab.t) f (kindsOf d91.t.cols) _ (fun t ht => (hsz9 t ht).1)
   have hcl7 := @cols_len f.tb d91.t.cols
   have hkl7 := @kinds_len d91.t.cols
   refine op_field fld45_6 (ev_hit hN rfl) (op_load1 (v := f.iv) one22 (ev_hit hN rfl) (hB87.cell rfl) (op_load1 (v := (ptr l 0)) one90 (ev_hit hN rfl) (hB82.cell rfl) (op_mkfn1 (fv := [(ptr l 0)]) (cv := []) ⟨(ev_hit hN rfl), trivial⟩ trivial ?_)))
   refine op_fn (vs := [f.iv, (Value.func (.func 73) #[(ptr l 0)] #[])]) ok72 ⟨(ev_hit hN rfl), ⟨(ev_hit hN rfl), trivial⟩⟩ (FoldI (g := 73) (fs := [(ptr l 0)]) (cs := []) (R := (itemE (joinC (D.map DTab.t) f (colsOf f.tb d91.t.cols)) (joinK (D.map DTab.t) f (kindsOf d91.t.cols)))) (hfi.mono (Nat.zero_le _) (by omega)) ok73 (fun i hi w1 E9 => lkItem (f.items.getD i default) (by have := E9.size; omega) (hL112.keepG (Gr.of0 (grown_of_below E9) NoB) (fun _ _ h => h)) (by omega) (by omega))) ?_
   rintro _ w129 ⟨E130, rfl⟩
   have E130 := grown_of_below E130
   have z_w129 := E130.size
   have hfw := hfw.keep0 E130
   have hfr := hfr.keep0 E130
   have hfrR := hfrR.keep0 E130
   have hfi := hfi.keep0 E130
   have hB82 := hB82.keep0 E130
   have hB87 := hB87.keep0 E130
   have hL112 := hL112.kz E130
   have hb := hb.step0 E130
   refine op_assign (ev_hit hN rfl) (reg_nil (hK128 _ _ (seq_any fun K131 hK131 => ?_)))
   refine one_reg (op_move (ev_hit hN rfl) (op_neq (ev_hit hN rfl) rfl (fun c33 => ?_) (fun c33 => ?_)))
   ·
    refine reg_nil (hK131 _ _ (wp_cond_true (ev_hit hN rfl) ?_))
    refine seq_any fun K132 hK132 => one_reg (op_move (ev_hit hN rfl) (op_assign (ev_hit hN rfl) (reg_nil (hK132 _ _ (wp_ret (then_ret ( ?_)))))))
    refine ret1 rfl hd (ev_hit hN rfl) ⟨_, rfl, ?_⟩
    have e9 : selsE (D.map DTab.t) f = (firstE (f.items.map (itemE (joinC (D.map DTab.t) f (colsOf f.tb d91.t.cols)) (joinK (D.map DTab.t) f (kindsOf d91.t.cols))))) := by rw [selsE_some ht91, if_neg (fun g => g c25)]; exact selE_1 c33
    rw [e9]; exact ⟨hb, rfl⟩
   ·
    refine reg_nil (hK131 _ _ (wp_cond_false (ev_hit hN rfl) (wp_skip ?_)))
    refine hK127 _ _ (seq_any fun K133 hK133 => seq_any fun K134 hK134 => one_reg (op_field fld45_6 (ev_hit hN rfl) (op_load1 (v := f.iv) one22 (ev_hit hN rfl) (hB87.cell rfl) (op_fn (vs := [f.iv]) ok74 ⟨(ev_hit hN rfl), trivial⟩ (aggs_ret (hfi.mono (Nat.zero_le _) (by omega))) ?_))))
    rintro _ w135 ⟨E136, rfl⟩
    have E136 := grown_of_below E136
    have z_w135 := E136.size
    have hfw := hfw.keep0 E136
    have hfr := hfr.keep0 E136
    have hfrR := hfrR.keep0 E136
    have hfi := hfi.keep0 E136
    have hB82 := hB82.keep0 E136
    have hB87 := hB87.keep0 E136
    have hL112 := hL112.kz E136
    have hb := hb.step0 E136
    refine op_assign (ev_hit hN rfl) (reg_nil (hK134 _ _ (seq_any fun K137 hK137 => ?_)))
    refine one_reg (op_move (ev_hit hN rfl) (op_gtr (ev_hit hN rfl) rfl (fun c39 => ?_) (fun c39 => ?_)))
    ·
     refine op_move (ev_hit hN rfl) (g_true (j := 2) (dj := 40) (b := true) rfl rfl rfl (ev_hit hN rfl) ?_)
     refine op_move (ev_hit hN rfl) (g_true (j := 2) (dj := 40) (b := true) rfl rfl rfl (ev_hit hN rfl) (op_field fld45_6 (ev_hit hN rfl) (g_true (j := 2) (dj := 40) (b := true) rfl rfl rfl (ev_hit hN rfl) (op_load1 (v := f.iv) one22 (ev_hit hN rfl) (hB87.cell rfl) (g_true (j := 2) (dj := 40) (b := true) rfl rfl rfl (ev_hit hN rfl) (op_len_rd Try.underlying22 (ev_hit hN rfl) hfi ?_))))))
     refine g_true (j := 2) (dj := 40) (b := true) rfl rfl rfl (ev_hit hN rfl) (op_lss (ev_hit hN rfl) (ev_hit hN rfl) (fun c45 => ?_) (fun c45 => ?_))
     ·
      refine g_true (j := 2) (dj := 40) (b := true) rfl rfl rfl (ev_hit hN rfl) ?_
      refine op_move (ev_hit hN rfl) (g_false (j := 8) (dj := 46) (b := false) rfl rfl rfl (ev_hit hN rfl) rfl rfl (g_false (j := 8) (dj := 46) (b := false) rfl rfl rfl (ev_hit hN rfl) rfl rfl (g_false (j := 8) (dj := 46) (b := false) rfl rfl rfl (ev_hit hN rfl) rfl rfl (g_false (j := 8) (dj := 46) (b := false) rfl rfl rfl (ev_hit hN rfl) rfl rfl (g_true (j := 2) (dj := 40) (b := true) rfl rfl rfl (ev_hit hN rfl) (op_pick_t (ev_hit hN rfl) rfl ?_))))))
      refine op_pick_t (ev_hit hN rfl) (ev_hit hN rfl) ?_
      refine reg_nil (hK137 _ _ ?_)
      refine wp_cond_true (ev_hit hN rfl) (seq_any fun K138 hK138 => one_reg (op_assign rfl (reg_nil (hK138 _ _ (wp_ret (then_ret ( ?_)))))))
      refine ret1 rfl hd (ev_hit hN rfl) ⟨_, rfl, ?_⟩
      have e9 : selsE (D.map DTab.t) f = 11 := by rw [selsE_some ht91, if_neg (fun g => g c25)]; exact selE_2 c33 (by omega)
      rw [e9]; exact ⟨hb, rfl⟩
     ·
      refine g_true (j := 2) (dj := 40) (b := true) rfl rfl rfl (ev_hit hN rfl) ?_
      refine op_move (ev_hit hN rfl) (g_true (j := 8) (dj := 46) (b := false) rfl rfl rfl (ev_hit hN rfl) (op_field fld45_10 (ev_hit hN rfl) (g_true (j := 8) (dj := 46) (b := false) rfl rfl rfl (ev_hit hN rfl) (op_load1 (v := f.rv) one26 (ev_hit hN rfl) (hB87.cell rfl) (g_true (j := 8) (dj := 46) (b := false) rfl rfl rfl (ev_hit hN rfl) (op_len_rd Try.underlying26 (ev_hit hN rfl) hfrR ?_))))))
      refine g_true (j := 8) (dj := 46) (b := false) rfl rfl rfl (ev_hit hN rfl) (op_gtr (ev_hit hN rfl) rfl (fun c50 => ?_) (fun c50 => ?_))
      ·
       refine g_true (j := 2) (dj := 40) (b := true) rfl rfl rfl (ev_hit hN rfl) (op_pick_f (ev_hit hN rfl) (ev_hit hN rfl) ?_)
       refine op_pick_t (ev_hit hN rfl) (ev_hit hN rfl) ?_
       refine reg_nil (hK137 _ _ ?_)
       refine wp_cond_true (ev_hit hN rfl) (seq_any fun K139 hK139 => one_reg (op_assign rfl (reg_nil (hK139 _ _ (wp_ret (then_ret ( ?_)))))))
       refine ret1 rfl hd (ev_hit hN rfl) ⟨_, rfl, ?_⟩
       have e9 : selsE (D.map DTab.t) f = 11 := by rw [selsE_some ht91, if_neg (fun g => g c25)]; exact selE_2 c33 (by omega)
       rw [e9]; exact ⟨hb, rfl⟩
      ·
       refine g_true (j := 2) (dj := 40) (b := true) rfl rfl rfl (ev_hit hN rfl) (op_pick_f (ev_hit hN rfl) (ev_hit hN rfl) ?_)
       refine op_pick_t (ev_hit hN rfl) (ev_hit hN rfl) ?_
       refine reg_nil (hK137 _ _ (wp_cond_false (ev_hit hN rfl) (wp_skip (hK133 _ _ ?_))))
       refine seq_any fun K140 hK140 => seq_any fun K141 hK141 => one_reg (op_load1 (v := (ptr l 0)) one90 (ev_hit hN rfl) (hB82.cell rfl) (op_field fld45_9 (ev_hit hN rfl) (op_load1 (v := f.wv) one26 (ev_hit hN rfl) (hB87.cell rfl) (op_fn (vs := [(ptr l 0), f.wv]) ok46 ⟨(ev_hit hN rfl), ⟨(ev_hit hN rfl), trivial⟩⟩ (lkWhere (by omega) hL112 (by omega) (by omega) (hfw.mono (by omega))) ?_))))
       rintro _ w142 ⟨E143, rfl⟩
       have E143 := grown_of_below E143
       have z_w142 := E143.size
       have hfr := hfr.keep0 E143
       have hB82 := hB82.keep0 E143
       have hB87 := hB87.keep0 E143
       have hL112 := hL112.kz E143
       have hb := hb.step0 E143
       refine op_assign (ev_hit hN rfl) (reg_nil (hK141 _ _ (seq_any fun K144 hK144 => ?_)))
       refine one_reg (op_move (ev_hit hN rfl) (op_neq (ev_hit hN rfl) rfl (fun c58 => ?_) (fun c58 => ?_)))
       ·
        refine reg_nil (hK144 _ _ (wp_cond_true (ev_hit hN rfl) ?_))
        refine seq_any fun K145 hK145 => one_reg (op_move (ev_hit hN rfl) (op_assign (ev_hit hN rfl) (reg_nil (hK145 _ _ (wp_ret (then_ret ( ?_)))))))
        refine ret1 rfl hd (ev_hit hN rfl) ⟨_, rfl, ?_⟩
        have e9 : selsE (D.map DTab.t) f = (whereX (joinC (D.map DTab.t) f (colsOf f.tb d91.t.cols)) (joinK (D.map DTab.t) f (kindsOf d91.t.cols)) f.wh) := by rw [selsE_some ht91, if_neg (fun g => g c25)]; exact selE_3 c33 (by omega) c58
        rw [e9]; exact ⟨hb, rfl⟩
       ·
        refine reg_nil (hK144 _ _ (wp_cond_false (ev_hit hN rfl) ?_))
        refine wp_skip (hK140 _ _ (seq_any fun K146 hK146 => one_reg (op_field fld45_10 (ev_hit hN rfl) (op_load1 (v := f.rv) one26 (ev_hit hN rfl) (hB87.cell rfl) (op_mkfn (cv := [(ptr b80 0)]) ⟨(ev_hit hN rfl), trivial⟩ ?_)))))
        refine op_fn (vs := [f.rv, (Value.func (.func 75) #[] #[(ptr b80 0)])]) ok31 ⟨(ev_hit hN rfl), ⟨(ev_hit hN rfl), trivial⟩⟩ (FoldX (g := 75) (fs := []) (cs := [(ptr b80 0)]) (R := (fun e => (colAt (joinC (D.map DTab.t) f (colsOf f.tb d91.t.cols)) (joinK (D.map DTab.t) f (kindsOf d91.t.cols)) e.tb e.nm).2)) (hfr.mono (by omega)) ok75 (fun i hi w1 E9 => lkSel1 (f.ord.getD i default) (by have := E9.size; omega) (hL112.keepG (Gr.of0 (grown_of_below E9) NoB) (fun _ _ h => h)) (by omega) (by omega) (((hfr.2 _ (getD_mem hi)).keep0 (grown_of_below E9)).mono (by have := E9.size; omega)) (hB82.keep0 (grown_of_below E9)))) ?_
        rintro _ w147 ⟨E148, rfl⟩
        have E148 := grown_of_below E148
        have z_w147 := E148.size
        have hb := hb.step0 E148
        refine op_assign (ev_hit hN rfl) (reg_nil (hK146 _ _ (wp_ret ?_)))
        refine ret1 rfl hd (ev_hit hN rfl) ⟨_, rfl, ?_⟩
        have e9 : selsE (D.map DTab.t) f = (firstE (f.ord.map fun e => (colAt (joinC (D.map DTab.t) f (colsOf f.tb d91.t.cols)) (joinK (D.map DTab.t) f (kindsOf d91.t.cols)) e.tb e.nm).2)) := by rw [selsE_some ht91, if_neg (fun g => g c25)]; exact selE_4 c33 (by omega) c58
        rw [e9]; exact ⟨hb, rfl⟩
    ·
     refine op_move (ev_hit hN rfl) ?_
     refine g_false (j := 2) (dj := 40) (b := true) rfl rfl rfl (ev_hit hN rfl) rfl rfl (g_false (j := 2) (dj := 40) (b := true) rfl rfl rfl (ev_hit hN rfl) rfl rfl (g_false (j := 2) (dj := 40) (b := true) rfl rfl rfl (ev_hit hN rfl) rfl rfl (g_false (j := 2) (dj := 40) (b := true) rfl rfl rfl (ev_hit hN rfl) rfl rfl (g_false (j := 2) (dj := 40) (b := true) rfl rfl rfl (ev_hit hN rfl) rfl rfl (g_false (j := 2) (dj := 40) (b := true) rfl rfl rfl (ev_hit hN rfl) rfl rfl (g_undef (j := 8) (dj := 46) (b := false) rfl rfl rfl (ev_hit hN rfl) rfl ?_))))))
     refine g_undef (j := 8) (dj := 46) (b := false) rfl rfl rfl (ev_hit hN rfl) rfl ?_
     refine g_undef (j := 8) (dj := 46) (b := false) rfl rfl rfl (ev_hit hN rfl) rfl ?_
     refine g_undef (j := 8) (dj := 46) (b := false) rfl rfl rfl (ev_hit hN rfl) rfl ?_
     refine g_false (j := 2) (dj := 40) (b := true) rfl rfl rfl (ev_hit hN rfl) rfl rfl (op_pick_f (ev_hit hN rfl) rfl ?_)
     refine reg_nil (hK137 _ _ (wp_cond_false (ev_hit hN rfl) (wp_skip (hK133 _ _ ?_))))
     refine seq_any fun K149 hK149 => seq_any fun K150 hK150 => one_reg (op_load1 (v := (ptr l 0)) one90 (ev_hit hN rfl) (hB82.cell rfl) (op_field fld45_9 (ev_hit hN rfl) (op_load1 (v := f.wv) one26 (ev_hit hN rfl) (hB87.cell rfl) (op_fn (vs := [(ptr l 0), f.wv]) ok46 ⟨(ev_hit hN rfl), ⟨(ev_hit hN rfl), trivial⟩⟩ (lkWhere (by omega) hL112 (by omega) (by omega) (hfw.mono (by omega))) ?_))))
     rintro _ w151 ⟨E152, rfl⟩
     have E152 := grown_of_below E152
     have z_w151 := E152.size
     have hfr := hfr.keep0 E152
     have hB82 := hB82.keep0 E152
     have hB87 := hB87.keep0 E152
     have hL112 := hL112.kz E152
     have hb := hb.step0 E152
     refine op_assign (ev_hit hN rfl) (reg_nil (hK150 _ _ (seq_any fun K153 hK153 => ?_)))
     refine one_reg (op_move (ev_hit hN rfl) (op_neq (ev_hit hN rfl) rfl (fun c58 => ?_) (fun c58 => ?_)))
     ·
      refine reg_nil (hK153 _ _ (wp_cond_true (ev_hit hN rfl) ?_))
      refine seq_any fun K154 hK154 => one_reg (op_move (ev_hit hN rfl) (op_assign (ev_hit hN rfl) (reg_nil (hK154 _ _ (wp_ret (then_ret ( ?_)))))))
      refine ret1 rfl hd (ev_hit hN rfl) ⟨_, rfl, ?_⟩
      have e9 : selsE (D.map DTab.t) f = (whereX (joinC (D.map DTab.t) f (colsOf f.tb d91.t.cols)) (joinK (D.map DTab.t) f (kindsOf d91.t.cols)) f.wh) := by rw [selsE_some ht91, if_neg (fun g => g c25)]; exact selE_3 c33 (by omega) c58
      rw [e9]; exact ⟨hb, rfl⟩
     ·
      refine reg_nil (hK153 _ _ (wp_cond_false (ev_hit hN rfl) ?_))
      refine wp_skip (hK149 _ _ (seq_any fun K155 hK155 => one_reg (op_field fld45_10 (ev_hit hN rfl) (op_load1 (v := f.rv) one26 (ev_hit hN rfl) (hB87.cell rfl) (op_mkfn (cv := [(ptr b80 0)]) ⟨(ev_hit hN rfl), trivial⟩ ?_)))))
      refine op_fn (vs := [f.rv, (Value.func (.func 75) #[] #[(ptr b80 0)])]) ok31 ⟨(ev_hit hN rfl), ⟨(ev_hit hN rfl), trivial⟩⟩ (FoldX (g := 75) (fs := []) (cs := [(ptr b80 0)]) (R := (fun e => (colAt (joinC (D.map DTab.t) f (colsOf f.tb d91.t.cols)) (joinK (D.map DTab.t) f (kindsOf d91.t.cols)) e.tb e.nm).2)) (hfr.mono (by omega)) ok75 (fun i hi w1 E9 => lkSel1 (f.ord.getD i default) (by have := E9.size; omega) (hL112.keepG (Gr.of0 (grown_of_below E9) NoB) (fun _ _ h => h)) (by omega) (by omega) (((hfr.2 _ (getD_mem hi)).keep0 (grown_of_below E9)).mono (by have := E9.size; omega)) (hB82.keep0 (grown_of_below E9)))) ?_
      rintro _ w156 ⟨E157, rfl⟩
      have E157 := grown_of_below E157
      have z_w156 := E157.size
      have hb := hb.step0 E157
      refine op_assign (ev_hit hN rfl) (reg_nil (hK155 _ _ (wp_ret ?_)))
      refine ret1 rfl hd (ev_hit hN rfl) ⟨_, rfl, ?_⟩
      have e9 : selsE (D.map DTab.t) f = (firstE (f.ord.map fun e => (colAt (joinC (D.map DTab.t) f (colsOf f.tb d91.t.cols)) (joinK (D.map DTab.t) f (kindsOf d91.t.cols)) e.tb e.nm).2)) := by rw [selsE_some ht91, if_neg (fun g => g c25)]; exact selE_4 c33 (by omega) c58
      rw [e9]; exact ⟨hb, rfl⟩
 ·
  refine op_fn (vs := [(ptr l 0), (Value.string (bs f.tb))]) ok45 ⟨(ev_hit hN rfl), ⟨(ev_hit hN rfl), trivial⟩⟩ (lookTableF k15 (hT.mono (by omega)) hD hsz (by omega) h (by simp) (by simp)) ?_
  rintro _ w159 ⟨E160, rfl, F158, hL158, hN158⟩
  have bd161 := hB82.lt
  have bd162 := hB87.lt
  have z_w159 := E160.size
  have hb := hb.stepF E160 (fun _ _ q => q)
  refine op_move (ev_hit hN rfl) (op_extract (ev_hit hN rfl) rfl ?_)
  refine op_extract (ev_hit hN rfl) rfl ?_
  refine op_alloc (cs := [(Value.string (bs [])), (Value.slice none 0 0), (Value.slice none 0 0)]) zero55 rfl ?_
  intro w165 b166 lo_b166 hi_b166 hB168 E167
  have z_w165 := E167.size
  have hb := hb.step0 E167
  refine op_store (vs := [(Value.string (bs [])), (Value.slice none 0 0), (Value.slice none 0 0)]) (cs' := [(Value.string (bs [])), (Value.slice none 0 0), (Value.slice none 0 0)]) size55 (ev_hit hN rfl) (ev_hit hN rfl) rfl rfl rfl hB168 (Nat.le_of_ble_eq_true rfl) rfl ?_
  intro w172 hB168 E173
  have z_w172 := E173.size
  have hb := hb.step1 E173 (by omega)
  refine op_assign (ev_hit hN rfl) (reg_nil (hK90 _ _ ?_))
  refine seq_any fun K174 hK174 => one_reg (op_move (ev_hit hN rfl) (op_bin (v := .bool true) (ev_hit hN rfl) rfl (by rw [binOp_neq]; rfl) (reg_nil (hK174 _ _ (wp_cond_true (ev_hit hN rfl) ?_)))))
  refine seq_any fun K175 hK175 => one_reg (op_move (ev_hit hN rfl) (op_assign (ev_hit hN rfl) (reg_nil (hK175 _ _ (wp_ret (then_ret ( ?_)))))))
  refine ret1 rfl hd (ev_hit hN rfl) ⟨_, rfl, ?_⟩
  rw [selsE_none k15]; exact ⟨hb, rfl⟩

end Go.Proofs.Ythflnkfghogaoaa

namespace Go.Gx
structure DVw where
  nm : List UInt8
  sv : Value
  strip : List UInt16
  act : XS
instance : Inhabited DVw := ⟨⟨[], .slice none 0 0, [], default⟩⟩
def cellsW (d : DVw) : List Value := [.string (bs d.nm), d.sv, .int .i64 d.act.f.kind, .string (bs d.act.f.tb), .string (bs d.act.f.nm), d.act.f.cv, d.act.f.gv, d.act.f.vv, d.act.f.iv, .string (bs d.act.f.join), d.act.f.ov, d.act.f.wv, d.act.f.rv, .bool d.act.f.desc, d.act.nv]
theorem el_dv {l : List DVw} {e : Int} {i : Nat} (he : e = (i : Int)) (h : i < l.length) : ∀ j u, (cellsW (l.getD i default))[j]? = some u → (l.flatMap cellsW)[e.toNat * 15 + j]? = some u :=
  el_flat (f := cellsW) (d := default) (by decide) (fun _ _ => rfl) he h
theorem lists_on {f : StF} {n : Nat} (h : listsOk f n = true) (hk : f.kind = 6) : ¬ f.join = [] → f.on.length = 2 := fun hj => by
  unfold listsOk at h; rw [if_pos hk, if_neg hj] at h
  simp only [Bool.and_eq_true, decide_eq_true_eq] at h
  exact h.1.1.2
theorem lists_upd {f : StF} {n : Nat} (h : listsOk f n = true) (hk : f.kind = 7) : f.vals.length = 1 := by
  unfold listsOk at h; rw [if_neg (by omega), if_pos hk] at h
  simp only [Bool.and_eq_true, decide_eq_true_eq] at h
  exact h.2
theorem lists_in {f : StF} {n : Nat} (h : listsOk f n = true) (hk : f.kind = 3 ∨ f.kind = 4) : n = 1 := by
  unfold listsOk at h; rw [if_neg (by omega), if_neg (by omega), if_neg (by omega), if_pos hk] at h
  simpa using h
theorem check_bad {T : List PTab} {D : List (List UInt8)} {s : XS} (h : listsOk s.f s.inner.length = false) : checkE T D s = 1 := by rw [checkE_eq, if_pos h]
theorem check_flat {T : List PTab} {D : List (List UInt8)} {s : XS} (h : listsOk s.f s.inner.length = true) (hk : ¬ (s.f.kind = 3 ∨ s.f.kind = 4)) : checkE T D s = flatE T D s.f := by rw [checkE_eq, if_neg (by rw [h]; simp), if_neg hk]
theorem check_in {T : List PTab} {D : List (List UInt8)} {s : XS} (h : listsOk s.f s.inner.length = true) (hk : s.f.kind = 3 ∨ s.f.kind = 4) : checkE T D s = checkE T D (s.inner.getD 0 default) := by rw [checkE_eq, if_neg (by rw [h]; simp), if_pos hk]
end Go.Gx
namespace Go.Gx
theorem flat_ins {T : List PTab} {D : List (List UInt8)} {f : StF} (h : f.kind = 5) : flatE T D f = (match tabAt T f.tb with | none => 9 | some t => insE t f) := by unfold flatE; rw [if_pos h]; cases tabAt T f.tb <;> rfl
theorem flat_sel {T : List PTab} {D : List (List UInt8)} {f : StF} (h : f.kind = 6) : flatE T D f = selsE T f := by unfold flatE; rw [if_neg (by omega), if_pos h]
theorem flat_upd {T : List PTab} {D : List (List UInt8)} {f : StF} (h : f.kind = 7) : flatE T D f = (match tabAt T f.tb with | none => 9 | some t => updE t f) := by unfold flatE; rw [if_neg (by omega), if_neg (by omega), if_pos h]; cases tabAt T f.tb <;> rfl
theorem flat_del0 {T : List PTab} {D : List (List UInt8)} {f : StF} (h : f.kind = 8) (h2 : (tabAt T f.tb).isSome = false) : flatE T D f = 9 := by
  unfold flatE; rw [if_neg (by omega), if_neg (by omega), if_neg (by omega), if_pos h]
  cases hh : tabAt T f.tb with
  | none => rfl
  | some t => rw [hh] at h2; cases h2
theorem flat_del {T : List PTab} {D : List (List UInt8)} {f : StF} {t : PTab} (h : f.kind = 8) (h2 : tabAt T f.tb = some t) : flatE T D f = whereX (colsOf f.tb t.cols) (kindsOf t.cols) f.wh := by
  unfold flatE; rw [if_neg (by omega), if_neg (by omega), if_neg (by omega), if_pos h, h2]
theorem flat_call {T : List PTab} {f : StF} (h : f.kind = 13) : flatE T [] f = 22 := by
  unfold flatE; rw [if_neg (by omega), if_neg (by omega), if_neg (by omega), if_neg (by omega), if_pos h]; rfl
theorem flat_else {T : List PTab} {D : List (List UInt8)} {f : StF} (h : f.kind ≠ 5 ∧ f.kind ≠ 6 ∧ f.kind ≠ 7 ∧ f.kind ≠ 8 ∧ f.kind ≠ 13) : flatE T D f = 0 := by
  unfold flatE; rw [if_neg h.1, if_neg h.2.1, if_neg h.2.2.1, if_neg h.2.2.2.1, if_neg h.2.2.2.2]
end Go.Gx
namespace Go.Gx
def SsRd (w : World) (B : Nat) (L : List XS) : Prop := ∀ a ∈ L, SRd w B a
section
variable {w w' : World} {B B' : Nat} {L : List XS} {row : Option Nat} {F : Nat → Prop}
theorem SsRd.keep (h : SsRd w B L) (E : w.grownBy w' row) (hne : ∀ k, row = some k → k < 0 ∨ B ≤ k) : SsRd w' B L := fun a ha => (h a ha).keep E hne
theorem SsRd.keep0 (h : SsRd w B L) (E : w.grownBy w' none) : SsRd w' B L := h.keep E (by simp)
theorem SsRd.keepG (h : SsRd w B L) (E : Gr w w' F) (hn : ∀ k, F k → k < 0 ∨ B ≤ k) : SsRd w' B L := fun a ha => (h a ha).keepG E hn
theorem SsRd.keepO {base e sz n : Nat} {u : Value} {ws : List Value} (h : SsRd w B L) (O : Own w base e sz u n ws) (E' : w.grownBy w' u.ownBlock) (hne : B ≤ base) : SsRd w' B L := fun a ha => (h a ha).keepO O E' hne
theorem SsRd.mono (h : SsRd w B L) (hB : B ≤ B') : SsRd w B' L := fun a ha => (h a ha).mono hB
end
end Go.Gx

namespace Go.Proofs.Ythflnkfghogaoaa
open Go.Gx Go.RowKit
attribute [local irreducible] wpList wpStill Code.wp Calls

theorem lists_ret {f : StF} {nv : Value} {inner : List XS} {B : Nat} {w : World} (hfv : XsRd w B f.vv f.vals) (hfo : XsRd w B f.ov f.on) (hfw : XsRd w B f.wv f.wh) (hfr : XsRd w B f.rv f.ord) (hfn : RdC w 0 B 13 nv inner.length (inner.flatMap cellsS)) (hB : B ≤ w.heap.size) : Ret Try.prog 41 #[(Value.agg #[(Value.int .i64 f.kind), (Value.string (bs f.tb)), (Value.string (bs f.nm)), f.cv, f.gv, f.vv, f.iv, (Value.string (bs f.join)), f.ov, f.wv, f.rv, (Value.bool f.desc), nv])] w (fun v' w' => Below w.heap.size w w' ∧ v' = .bool (listsOk f inner.length)) := by
 have hfvR := hfv.1
 have hfoR := hfo.1
 have hfwR := hfw.1
 have hfrR := hfr.1
 have hb := Below.refl w.heap.size w
 refine enter (N := 67) Try.func41 rfl rfl (by simp) fun a0 hN hd hA => ?_
 have s0 : a0.tmps.getD 0 undef = (Value.agg #[(Value.int .i64 f.kind), (Value.string (bs f.tb)), (Value.string (bs f.nm)), f.cv, f.gv, f.vv, f.iv, (Value.string (bs f.join)), f.ov, f.wv, f.rv, (Value.bool f.desc), nv]) := hA 0 (by simp)
 clear hA
 refine seq_any fun K1 hK1 => one_reg (op_box (cs := [(Value.int .i64 f.kind), (Value.string (bs f.tb)), (Value.string (bs f.nm)), f.cv, f.gv, f.vv, f.iv, (Value.string (bs f.join)), f.ov, f.wv, f.rv, (Value.bool f.desc), nv]) (ev_base hN rfl s0) rfl ?_)
 intro w2 b3 lo_b3 hi_b3 hB5 E4
 have z_w2 := E4.size
 have hfvR := hfvR.keep0 E4
 have hfo := hfo.keep0 E4
 have hfoR := hfoR.keep0 E4
 have hfwR := hfwR.keep0 E4
 have hfr := hfr.keep0 E4
 have hfrR := hfrR.keep0 E4
 have hfn := hfn.keep0 E4
 have hb := below_step0 hb E4 hb.size
 refine op_assign rfl ?_
 refine reg_nil (hK1 _ _ (seq_any fun K6 hK6 => one_reg (op_field fld45_9 (ev_hit hN rfl) (op_load1 (v := f.wv) one26 (ev_hit hN rfl) (hB5.cell rfl) (op_len_rd Try.underlying26 (ev_hit hN rfl) hfwR ?_)))))
 refine op_leq (ev_hit hN rfl) rfl (fun c8 => ?_) (fun c8 => ?_)
 ·
  refine op_assign (ev_hit hN rfl) (reg_nil (hK6 _ _ (seq_any fun K7 hK7 => ?_)))
  refine seq_any fun K8 hK8 => one_reg (op_field fld45_0 (ev_hit hN rfl) (op_load1 (v := (Value.int .i64 f.kind)) one3 (ev_hit hN rfl) (hB5.cell rfl) (reg_nil (hK8 _ _ (wp_block ?_)))))
  refine seq_any fun K9 hK9 => ?_
  refine one_reg (op_eql (ev_hit hN rfl) rfl (fun c12 => ?_) (fun c12 => ?_))
  ·
   refine op_assign (ev_hit hN rfl) (reg_nil (hK9 _ _ (wp_cond_true (ev_hit hN rfl) (seq_any fun K10 hK10 => ?_))))
   refine one_reg (op_assign rfl (reg_nil (hK10 _ _ (seq_any fun K11 hK11 => seq_any fun K12 hK12 => ?_))))
   refine one_reg (op_field fld45_7 (ev_hit hN rfl) (op_load1 (v := (Value.string (bs f.join))) one9 (ev_hit hN rfl) (hB5.cell rfl) (op_sneq (ev_hit hN rfl) rfl (fun c15 => ?_) (fun c15 => ?_))))
   ·
    refine reg_nil (hK12 _ _ (wp_cond_true (ev_hit hN rfl) ?_))
    refine one_reg (op_assign rfl (reg_nil (hK11 _ _ (seq_any fun K13 hK13 => one_reg (op_move (ev_hit hN rfl) ?_)))))
    refine op_move (ev_hit hN rfl) (g_true (j := 1) (dj := 17) (b := true) rfl rfl rfl (ev_hit hN rfl) (op_field fld45_10 (ev_hit hN rfl) (g_true (j := 1) (dj := 17) (b := true) rfl rfl rfl (ev_hit hN rfl) (op_load1 (v := f.rv) one26 (ev_hit hN rfl) (hB5.cell rfl) (g_true (j := 1) (dj := 17) (b := true) rfl rfl rfl (ev_hit hN rfl) (op_len_rd Try.underlying26 (ev_hit hN rfl) hfrR ?_))))))
    refine g_true (j := 1) (dj := 17) (b := true) rfl rfl rfl (ev_hit hN rfl) (op_leq (ev_hit hN rfl) rfl (fun c21 => ?_) (fun c21 => ?_))
    ·
     refine op_pick_t (ev_hit hN rfl) (ev_hit hN rfl) ?_
     refine op_move (ev_hit hN rfl) (g_true (j := 7) (dj := 23) (b := true) rfl rfl rfl (ev_hit hN rfl) (op_field fld45_8 (ev_hit hN rfl) (g_true (j := 7) (dj := 23) (b := true) rfl rfl rfl (ev_hit hN rfl) (op_load1 (v := f.ov) one26 (ev_hit hN rfl) (hB5.cell rfl) (g_true (j := 7) (dj := 23) (b := true) rfl rfl rfl (ev_hit hN rfl) (op_len_rd Try.underlying26 (ev_hit hN rfl) hfoR ?_))))))
     refine g_true (j := 7) (dj := 23) (b := true) rfl rfl rfl (ev_hit hN rfl) (op_move (ev_hit hN rfl) (g_true (j := 7) (dj := 23) (b := true) rfl rfl rfl (ev_hit hN rfl) (op_eql (ev_hit hN rfl) (ev_hit hN rfl) (fun c28 => ?_) (fun c28 => ?_))))
     ·
      refine op_pick_t (ev_hit hN rfl) (ev_hit hN rfl) ?_
      refine op_move (ev_hit hN rfl) (g_true (j := 14) (dj := 30) (b := true) rfl rfl rfl (ev_hit hN rfl) (op_field fld45_8 (ev_hit hN rfl) (g_true (j := 14) (dj := 30) (b := true) rfl rfl rfl (ev_hit hN rfl) (op_load1 (v := f.ov) one26 (ev_hit hN rfl) (hB5.cell rfl) (g_true (j := 14) (dj := 30) (b := true) rfl rfl rfl (ev_hit hN rfl) (op_fn (vs := [f.ov]) ok68 ⟨(ev_hit hN rfl), trivial⟩ (cols_ret (hfo.mono (by omega))) ?_))))))
      rintro _ w14 ⟨E15, rfl⟩
      have E15 := grown_of_below E15
      have z_w14 := E15.size
      have hfr := hfr.keep0 E15
      have hB5 := hB5.keep0 E15
      have hb := below_step0 hb E15 hb.size
      rcases Bool.eq_false_or_eq_true ((colsOk f.on)) with c33 | c33
      ·
       rw [c33]
       refine op_pick_t (ev_hit hN rfl) (ev_hit hN rfl) ?_
       refine op_move (ev_hit hN rfl) (g_true (j := 19) (dj := 35) (b := true) rfl rfl rfl (ev_hit hN rfl) (op_field fld45_10 (ev_hit hN rfl) (g_true (j := 19) (dj := 35) (b := true) rfl rfl rfl (ev_hit hN rfl) (op_load1 (v := f.rv) one26 (ev_hit hN rfl) (hB5.cell rfl) (g_true (j := 19) (dj := 35) (b := true) rfl rfl rfl (ev_hit hN rfl) (op_fn (vs := [f.rv]) ok68 ⟨(ev_hit hN rfl), trivial⟩ (cols_ret (hfr.mono (by omega))) ?_))))))
       rintro _ w16 ⟨E17, rfl⟩
       have E17 := grown_of_below E17
       have z_w16 := E17.size
       have hb := below_step0 hb E17 hb.size
       rcases Bool.eq_false_or_eq_true ((colsOk f.ord)) with c38 | c38
       ·
        rw [c38]
        refine op_pick_t (ev_hit hN rfl) (ev_hit hN rfl) ?_
        refine op_assign (ev_hit hN rfl) (reg_nil (hK13 _ _ (wp_ret (blk_ret (then_ret ( ?_))))))
        refine ret1 rfl hd (ev_hit hN rfl) ⟨_, rfl, ?_⟩
        have e8 : decide (f.wh.length ≤ 1) = true := decide_eq_true (by omega)
        have e21 : decide (f.ord.length ≤ 1) = true := decide_eq_true (by omega)
        have e28 : decide (f.on.length = if f.join = [] then 0 else 2) = true := decide_eq_true (by rw [if_neg c15]; omega)
        have e9 : listsOk f inner.length = true := by unfold listsOk; rw [if_pos c12]; (simp only [e8, e21, e28, c33, c38]) <;> rfl
        rw [e9]; exact ⟨hb, rfl⟩
       ·
        rw [c38]
        refine op_pick_t (ev_hit hN rfl) (ev_hit hN rfl) ?_
        refine op_assign (ev_hit hN rfl) (reg_nil (hK13 _ _ (wp_ret (blk_ret (then_ret ( ?_))))))
        refine ret1 rfl hd (ev_hit hN rfl) ⟨_, rfl, ?_⟩
        have e8 : decide (f.wh.length ≤ 1) = true := decide_eq_true (by omega)
        have e21 : decide (f.ord.length ≤ 1) = true := decide_eq_true (by omega)
        have e28 : decide (f.on.length = if f.join = [] then 0 else 2) = true := decide_eq_true (by rw [if_neg c15]; omega)
        have e9 : listsOk f inner.length = false := by unfold listsOk; rw [if_pos c12]; (simp only [e8, e21, e28, c33, c38]) <;> rfl
        rw [e9]; exact ⟨hb, rfl⟩
      ·
       rw [c33]
       refine op_pick_t (ev_hit hN rfl) (ev_hit hN rfl) ?_
       refine op_move (ev_hit hN rfl) (g_false (j := 19) (dj := 35) (b := true) rfl rfl rfl (ev_hit hN rfl) rfl rfl (g_false (j := 19) (dj := 35) (b := true) rfl rfl rfl (ev_hit hN rfl) rfl rfl (g_false (j := 19) (dj := 35) (b := true) rfl rfl rfl (ev_hit hN rfl) rfl rfl (op_pick_f (ev_hit hN rfl) rfl ?_))))
       refine op_assign (ev_hit hN rfl) (reg_nil (hK13 _ _ (wp_ret (blk_ret (then_ret ( ?_))))))
       refine ret1 rfl hd (ev_hit hN rfl) ⟨_, rfl, ?_⟩
       have e8 : decide (f.wh.length ≤ 1) = true := decide_eq_true (by omega)
       have e21 : decide (f.ord.length ≤ 1) = true := decide_eq_true (by omega)
       have e28 : decide (f.on.length = if f.join = [] then 0 else 2) = true := decide_eq_true (by rw [if_neg c15]; omega)
       have e9 : listsOk f inner.length = false := by unfold listsOk; rw [if_pos c12]; (simp only [e8, e21, e28, c33]) <;> rfl
       rw [e9]; exact ⟨hb, rfl⟩
     ·
      refine op_pick_t (ev_hit hN rfl) (ev_hit hN rfl) ?_
      refine op_move (ev_hit hN rfl) (g_false (j := 14) (dj := 30) (b := true) rfl rfl rfl (ev_hit hN rfl) rfl rfl (g_false (j := 14) (dj := 30) (b := true) rfl rfl rfl (ev_hit hN rfl) rfl rfl (g_false (j := 14) (dj := 30) (b := true) rfl rfl rfl (ev_hit hN rfl) rfl rfl (op_pick_f (ev_hit hN rfl) rfl ?_))))
      refine op_move (ev_hit hN rfl) (g_false (j := 19) (dj := 35) (b := true) rfl rfl rfl (ev_hit hN rfl) rfl rfl (g_false (j := 19) (dj := 35) (b := true) rfl rfl rfl (ev_hit hN rfl) rfl rfl (g_false (j := 19) (dj := 35) (b := true) rfl rfl rfl (ev_hit hN rfl) rfl rfl (op_pick_f (ev_hit hN rfl) rfl ?_))))
      refine op_assign (ev_hit hN rfl) (reg_nil (hK13 _ _ (wp_ret (blk_ret (then_ret ( ?_))))))
      refine ret1 rfl hd (ev_hit hN rfl) ⟨_, rfl, ?_⟩
      have e8 : decide (f.wh.length ≤ 1) = true := decide_eq_true (by omega)
      have e21 : decide (f.ord.length ≤ 1) = true := decide_eq_true (by omega)
      have e28 : decide (f.on.length = if f.join = [] then 0 else 2) = false := decide_eq_false (fun g => by rw [if_neg c15] at g; omega)
      have e9 : listsOk f inner.length = false := by unfold listsOk; rw [if_pos c12]; (simp only [e8, e21, e28]) <;> rfl
      rw [e9]; exact ⟨hb, rfl⟩
    ·
     refine op_pick_t (ev_hit hN rfl) (ev_hit hN rfl) ?_
     refine op_move (ev_hit hN rfl) (g_false (j := 7) (dj := 23) (b := true) rfl rfl rfl (ev_hit hN rfl) rfl rfl (g_false (j := 7) (dj := 23) (b := true) rfl rfl rfl (ev_hit hN rfl) rfl rfl (g_false (j := 7) (dj := 23) (b := true) rfl rfl rfl (ev_hit hN rfl) rfl rfl (g_false (j := 7) (dj := 23) (b := true) rfl rfl rfl (ev_hit hN rfl) rfl rfl (g_false (j := 7) (dj := 23) (b := true) rfl rfl rfl (ev_hit hN rfl) rfl rfl (op_pick_f (ev_hit hN rfl) rfl ?_))))))
     refine op_move (ev_hit hN rfl) (g_false (j := 14) (dj := 30) (b := true) rfl rfl rfl (ev_hit hN rfl) rfl rfl (g_false (j := 14) (dj := 30) (b := true) rfl rfl rfl (ev_hit hN rfl) rfl rfl (g_false (j := 14) (dj := 30) (b := true) rfl rfl rfl (ev_hit hN rfl) rfl rfl (op_pick_f (ev_hit hN rfl) rfl ?_))))
     refine op_move (ev_hit hN rfl) (g_false (j := 19) (dj := 35) (b := true) rfl rfl rfl (ev_hit hN rfl) rfl rfl (g_false (j := 19) (dj := 35) (b := true) rfl rfl rfl (ev_hit hN rfl) rfl rfl (g_false (j := 19) (dj := 35) (b := true) rfl rfl rfl (ev_hit hN rfl) rfl rfl (op_pick_f (ev_hit hN rfl) rfl ?_))))
     refine op_assign (ev_hit hN rfl) (reg_nil (hK13 _ _ (wp_ret (blk_ret (then_ret ( ?_))))))
     refine ret1 rfl hd (ev_hit hN rfl) ⟨_, rfl, ?_⟩
     have e8 : decide (f.wh.length ≤ 1) = true := decide_eq_true (by omega)
     have e21 : decide (f.ord.length ≤ 1) = false := decide_eq_false (by omega)
     have e9 : listsOk f inner.length = false := by unfold listsOk; rw [if_pos c12]; (simp only [e8, e21]) <;> rfl
     rw [e9]; exact ⟨hb, rfl⟩
   ·
    refine reg_nil ?_
    refine hK12 _ _ (wp_cond_false (ev_hit hN rfl) (wp_skip (hK11 _ _ (seq_any fun K18 hK18 => one_reg (op_move (ev_hit hN rfl) ?_)))))
    refine op_move (ev_hit hN rfl) (g_true (j := 1) (dj := 17) (b := true) rfl rfl rfl (ev_hit hN rfl) (op_field fld45_10 (ev_hit hN rfl) (g_true (j := 1) (dj := 17) (b := true) rfl rfl rfl (ev_hit hN rfl) (op_load1 (v := f.rv) one26 (ev_hit hN rfl) (hB5.cell rfl) (g_true (j := 1) (dj := 17) (b := true) rfl rfl rfl (ev_hit hN rfl) (op_len_rd Try.underlying26 (ev_hit hN rfl) hfrR ?_))))))
    refine g_true (j := 1) (dj := 17) (b := true) rfl rfl rfl (ev_hit hN rfl) (op_leq (ev_hit hN rfl) rfl (fun c21 => ?_) (fun c21 => ?_))
    ·
     refine op_pick_t (ev_hit hN rfl) (ev_hit hN rfl) ?_
     refine op_move (ev_hit hN rfl) (g_true (j := 7) (dj := 23) (b := true) rfl rfl rfl (ev_hit hN rfl) (op_field fld45_8 (ev_hit hN rfl) (g_true (j := 7) (dj := 23) (b := true) rfl rfl rfl (ev_hit hN rfl) (op_load1 (v := f.ov) one26 (ev_hit hN rfl) (hB5.cell rfl) (g_true (j := 7) (dj := 23) (b := true) rfl rfl rfl (ev_hit hN rfl) (op_len_rd Try.underlying26 (ev_hit hN rfl) hfoR ?_))))))
     refine g_true (j := 7) (dj := 23) (b := true) rfl rfl rfl (ev_hit hN rfl) (op_move (ev_hit hN rfl) (g_true (j := 7) (dj := 23) (b := true) rfl rfl rfl (ev_hit hN rfl) (op_eql (ev_hit hN rfl) (ev_hit hN rfl) (fun c28 => ?_) (fun c28 => ?_))))
     ·
      refine op_pick_t (ev_hit hN rfl) (ev_hit hN rfl) ?_
      refine op_move (ev_hit hN rfl) (g_true (j := 14) (dj := 30) (b := true) rfl rfl rfl (ev_hit hN rfl) (op_field fld45_8 (ev_hit hN rfl) (g_true (j := 14) (dj := 30) (b := true) rfl rfl rfl (ev_hit hN rfl) (op_load1 (v := f.ov) one26 (ev_hit hN rfl) (hB5.cell rfl) (g_true (j := 14) (dj := 30) (b := true) rfl rfl rfl (ev_hit hN rfl) (op_fn (vs := [f.ov]) ok68 ⟨(ev_hit hN rfl), trivial⟩ (cols_ret (hfo.mono (by omega))) ?_))))))
      rintro _ w19 ⟨E20, rfl⟩
      have E20 := grown_of_below E20
      have z_w19 := E20.size
      have hfr := hfr.keep0 E20
      have hB5 := hB5.keep0 E20
      have hb := below_step0 hb E20 hb.size
      rcases Bool.eq_false_or_eq_true ((colsOk f.on)) with c33 | c33
      ·
       rw [c33]
       refine op_pick_t (ev_hit hN rfl) (ev_hit hN rfl) ?_
       refine op_move (ev_hit hN rfl) (g_true (j := 19) (dj := 35) (b := true) rfl rfl rfl (ev_hit hN rfl) (op_field fld45_10 (ev_hit hN rfl) (g_true (j := 19) (dj := 35) (b := true) rfl rfl rfl (ev_hit hN rfl) (op_load1 (v := f.rv) one26 (ev_hit hN rfl) (hB5.cell rfl) (g_true (j := 19) (dj := 35) (b := true) rfl rfl rfl (ev_hit hN rfl) (op_fn (vs := [f.rv]) ok68 ⟨(ev_hit hN rfl), trivial⟩ (cols_ret (hfr.mono (by omega))) ?_))))))
       rintro _ w21 ⟨E22, rfl⟩
       have E22 := grown_of_below E22
       have z_w21 := E22.size
       have hb := below_step0 hb E22 hb.size
       rcases Bool.eq_false_or_eq_true ((colsOk f.ord)) with c38 | c38
       ·
        rw [c38]
        refine op_pick_t (ev_hit hN rfl) (ev_hit hN rfl) ?_
        refine op_assign (ev_hit hN rfl) (reg_nil (hK18 _ _ (wp_ret (blk_ret (then_ret ( ?_))))))
        refine ret1 rfl hd (ev_hit hN rfl) ⟨_, rfl, ?_⟩
        have e8 : decide (f.wh.length ≤ 1) = true := decide_eq_true (by omega)
        have e21 : decide (f.ord.length ≤ 1) = true := decide_eq_true (by omega)
        have e28 : decide (f.on.length = if f.join = [] then 0 else 2) = true := decide_eq_true (by rw [if_pos c15]; omega)
        have e9 : listsOk f inner.length = true := by unfold listsOk; rw [if_pos c12]; (simp only [e8, e21, e28, c33, c38]) <;> rfl
        rw [e9]; exact ⟨hb, rfl⟩
       ·
        rw [c38]
        refine op_pick_t (ev_hit hN rfl) (ev_hit hN rfl) ?_
        refine op_assign (ev_hit hN rfl) (reg_nil (hK18 _ _ (wp_ret (blk_ret (then_ret ( ?_))))))
        refine ret1 rfl hd (ev_hit hN rfl) ⟨_, rfl, ?_⟩
        have e8 : decide (f.wh.length ≤ 1) = true := decide_eq_true (by omega)
        have e21 : decide (f.ord.length ≤ 1) = true := decide_eq_true (by omega)
        have e28 : decide (f.on.length = if f.join = [] then 0 else 2) = true := decide_eq_true (by rw [if_pos c15]; omega)
        have e9 : listsOk f inner.length = false := by unfold listsOk; rw [if_pos c12]; (simp only [e8, e21, e28, c33, c38]) <;> rfl
        rw [e9]; exact ⟨hb, rfl⟩
      ·
       rw [c33]
       refine op_pick_t (ev_hit hN rfl) (ev_hit hN rfl) ?_
       refine op_move (ev_hit hN rfl) (g_false (j := 19) (dj := 35) (b := true) rfl rfl rfl (ev_hit hN rfl) rfl rfl (g_false (j := 19) (dj := 35) (b := true) rfl rfl rfl (ev_hit hN rfl) rfl rfl (g_false (j := 19) (dj := 35) (b := true) rfl rfl rfl (ev_hit hN rfl) rfl rfl (op_pick_f (ev_hit hN rfl) rfl ?_))))
       refine op_assign (ev_hit hN rfl) (reg_nil (hK18 _ _ (wp_ret (blk_ret (then_ret ( ?_))))))
       refine ret1 rfl hd (ev_hit hN rfl) ⟨_, rfl, ?_⟩
       have e8 : decide (f.wh.length ≤ 1) = true := decide_eq_true (by omega)
       have e21 : decide (f.ord.length ≤ 1) = true := decide_eq_true (by omega)
       have e28 : decide (f.on.length = if f.join = [] then 0 else 2) = true := decide_eq_true (by rw [if_pos c15]; omega)
       have e9 : listsOk f inner.length = false := by unfold listsOk; rw [if_pos c12]; (simp only [e8, e21, e28, c33]) <;> rfl
       rw [e9]; exact ⟨hb, rfl⟩
     ·
      refine op_pick_t (ev_hit hN rfl) (ev_hit hN rfl) ?_
      refine op_move (ev_hit hN rfl) (g_false (j := 14) (dj := 30) (b := true) rfl rfl rfl (ev_hit hN rfl) rfl rfl (g_false (j := 14) (dj := 30) (b := true) rfl rfl rfl (ev_hit hN rfl) rfl rfl (g_false (j := 14) (dj := 30) (b := true) rfl rfl rfl (ev_hit hN rfl) rfl rfl (op_pick_f (ev_hit hN rfl) rfl ?_))))
      refine op_move (ev_hit hN rfl) (g_false (j := 19) (dj := 35) (b := true) rfl rfl rfl (ev_hit hN rfl) rfl rfl (g_false (j := 19) (dj := 35) (b := true) rfl rfl rfl (ev_hit hN rfl) rfl rfl (g_false (j := 19) (dj := 35) (b := true) rfl rfl rfl (ev_hit hN rfl) rfl rfl (op_pick_f (ev_hit hN rfl) rfl ?_))))
      refine op_assign (ev_hit hN rfl) (reg_nil (hK18 _ _ (wp_ret (blk_ret (then_ret ( ?_))))))
      refine ret1 rfl hd (ev_hit hN rfl) ⟨_, rfl, ?_⟩
      have e8 : decide (f.wh.length ≤ 1) = true := decide_eq_true (by omega)
      have e21 : decide (f.ord.length ≤ 1) = true := decide_eq_true (by omega)
      have e28 : decide (f.on.length = if f.join = [] then 0 else 2) = false := decide_eq_false (fun g => by rw [if_pos c15] at g; omega)
      have e9 : listsOk f inner.length = false := by unfold listsOk; rw [if_pos c12]; (simp only [e8, e21, e28]) <;> rfl
      rw [e9]; exact ⟨hb, rfl⟩
    ·
     refine op_pick_t (ev_hit hN rfl) (ev_hit hN rfl) ?_
     refine op_move (ev_hit hN rfl) (g_false (j := 7) (dj := 23) (b := true) rfl rfl rfl (ev_hit hN rfl) rfl rfl (g_false (j := 7) (dj := 23) (b := true) rfl rfl rfl (ev_hit hN rfl) rfl rfl (g_false (j := 7) (dj := 23) (b := true) rfl rfl rfl (ev_hit hN rfl) rfl rfl (g_false (j := 7) (dj := 23) (b := true) rfl rfl rfl (ev_hit hN rfl) rfl rfl (g_false (j := 7) (dj := 23) (b := true) rfl rfl rfl (ev_hit hN rfl) rfl rfl (op_pick_f (ev_hit hN rfl) rfl ?_))))))
     refine op_move (ev_hit hN rfl) (g_false (j := 14) (dj := 30) (b := true) rfl rfl rfl (ev_hit hN rfl) rfl rfl (g_false (j := 14) (dj := 30) (b := true) rfl rfl rfl (ev_hit hN rfl) rfl rfl (g_false (j := 14) (dj := 30) (b := true) rfl rfl rfl (ev_hit hN rfl) rfl rfl (op_pick_f (ev_hit hN rfl) rfl ?_))))
     refine op_move (ev_hit hN rfl) (g_false (j := 19) (dj := 35) (b := true) rfl rfl rfl (ev_hit hN rfl) rfl rfl (g_false (j := 19) (dj := 35) (b := true) rfl rfl rfl (ev_hit hN rfl) rfl rfl (g_false (j := 19) (dj := 35) (b := true) rfl rfl rfl (ev_hit hN rfl) rfl rfl (op_pick_f (ev_hit hN rfl) rfl ?_))))
     refine op_assign (ev_hit hN rfl) (reg_nil (hK18 _ _ (wp_ret (blk_ret (then_ret ( ?_))))))
     refine ret1 rfl hd (ev_hit hN rfl) ⟨_, rfl, ?_⟩
     have e8 : decide (f.wh.length ≤ 1) = true := decide_eq_true (by omega)
     have e21 : decide (f.ord.length ≤ 1) = false := decide_eq_false (by omega)
     have e9 : listsOk f inner.length = false := by unfold listsOk; rw [if_pos c12]; (simp only [e8, e21]) <;> rfl
     rw [e9]; exact ⟨hb, rfl⟩
  ·
   refine op_assign (ev_hit hN rfl) (reg_nil (hK9 _ _ (wp_cond_false (ev_hit hN rfl) (seq_any fun K23 hK23 => ?_))))
   refine one_reg (op_eql (ev_hit hN rfl) rfl (fun c41 => ?_) (fun c41 => ?_))
   ·
    refine op_assign (ev_hit hN rfl) (reg_nil (hK23 _ _ (wp_cond_true (ev_hit hN rfl) (seq_any fun K24 hK24 => one_reg (op_move (ev_hit hN rfl) ?_)))))
    refine op_move (ev_hit hN rfl) (g_true (j := 1) (dj := 43) (b := true) rfl rfl rfl (ev_hit hN rfl) (op_field fld45_5 (ev_hit hN rfl) (g_true (j := 1) (dj := 43) (b := true) rfl rfl rfl (ev_hit hN rfl) (op_load1 (v := f.vv) one26 (ev_hit hN rfl) (hB5.cell rfl) (g_true (j := 1) (dj := 43) (b := true) rfl rfl rfl (ev_hit hN rfl) (op_len_rd Try.underlying26 (ev_hit hN rfl) hfvR ?_))))))
    refine g_true (j := 1) (dj := 43) (b := true) rfl rfl rfl (ev_hit hN rfl) (op_eql (ev_hit hN rfl) rfl (fun c47 => ?_) (fun c47 => ?_))
    ·
     refine op_pick_t (ev_hit hN rfl) (ev_hit hN rfl) ?_
     refine op_assign (ev_hit hN rfl) (reg_nil (hK24 _ _ (wp_ret (blk_ret (then_ret ( ?_))))))
     refine ret1 rfl hd (ev_hit hN rfl) ⟨_, rfl, ?_⟩
     have e8 : decide (f.wh.length ≤ 1) = true := decide_eq_true (by omega)
     have e47 : decide (f.vals.length = 1) = true := decide_eq_true (by omega)
     have e9 : listsOk f inner.length = true := by unfold listsOk; rw [if_neg c12, if_pos c41]; (simp only [e8, e47]) <;> rfl
     rw [e9]; exact ⟨hb, rfl⟩
    ·
     refine op_pick_t (ev_hit hN rfl) (ev_hit hN rfl) ?_
     refine op_assign (ev_hit hN rfl) (reg_nil (hK24 _ _ (wp_ret (blk_ret (then_ret ( ?_))))))
     refine ret1 rfl hd (ev_hit hN rfl) ⟨_, rfl, ?_⟩
     have e8 : decide (f.wh.length ≤ 1) = true := decide_eq_true (by omega)
     have e47 : decide (f.vals.length = 1) = false := decide_eq_false (by omega)
     have e9 : listsOk f inner.length = false := by unfold listsOk; rw [if_neg c12, if_pos c41]; (simp only [e8, e47]) <;> rfl
     rw [e9]; exact ⟨hb, rfl⟩
   ·
    refine op_assign (ev_hit hN rfl) (reg_nil (hK23 _ _ (wp_cond_false (ev_hit hN rfl) (seq_any fun K25 hK25 => ?_))))
    refine one_reg (op_eql (ev_hit hN rfl) rfl (fun c50 => ?_) (fun c50 => ?_))
    ·
     refine op_assign (ev_hit hN rfl) (reg_nil (hK25 _ _ (wp_cond_true (ev_hit hN rfl) ?_)))
     refine seq_any fun K26 hK26 => one_reg (op_move (ev_hit hN rfl) (op_assign (ev_hit hN rfl) (reg_nil (hK26 _ _ (wp_ret (blk_ret (then_ret ( ?_))))))))
     refine ret1 rfl hd (ev_hit hN rfl) ⟨_, rfl, ?_⟩
     have e8 : decide (f.wh.length ≤ 1) = true := decide_eq_true (by omega)
     have e9 : listsOk f inner.length = true := by unfold listsOk; rw [if_neg c12, if_neg c41, if_pos c50]; (simp only [e8]) <;> rfl
     rw [e9]; exact ⟨hb, rfl⟩
    ·
     refine op_assign (ev_hit hN rfl) (reg_nil (hK25 _ _ (wp_cond_false (ev_hit hN rfl) (seq_any fun K27 hK27 => seq_any fun K28 hK28 => ?_))))
     refine one_reg (op_eql (ev_hit hN rfl) rfl (fun c53 => ?_) (fun c53 => ?_))
     ·
      refine op_assign (ev_hit hN rfl) (reg_nil (hK28 _ _ (wp_cond_true (ev_hit hN rfl) (wp_skip ?_))))
      refine hK27 _ _ (wp_cond_true (ev_hit hN rfl) (seq_any fun K29 hK29 => one_reg (op_field fld45_12 (ev_hit hN rfl) (op_load1 (v := nv) one43 (ev_hit hN rfl) (hB5.cell rfl) (op_len_rd Try.underlying43 (ev_hit hN rfl) hfn ?_)))))
      refine op_eql (ev_hit hN rfl) rfl (fun c58 => ?_) (fun c58 => ?_)
      ·
       refine op_assign (ev_hit hN rfl) (reg_nil (hK29 _ _ (wp_ret (blk_ret (then_ret ( ?_))))))
       refine ret1 rfl hd (ev_hit hN rfl) ⟨_, rfl, ?_⟩
       have e8 : decide (f.wh.length ≤ 1) = true := decide_eq_true (by omega)
       have e58 : decide (inner.length = 1) = true := decide_eq_true (by omega)
       have e9 : listsOk f inner.length = true := by unfold listsOk; rw [if_neg c12, if_neg c41, if_neg c50, if_pos (.inl c53)]; (simp only [e8, e58]) <;> rfl
       rw [e9]; exact ⟨hb, rfl⟩
      ·
       refine op_assign (ev_hit hN rfl) (reg_nil (hK29 _ _ (wp_ret (blk_ret (then_ret ( ?_))))))
       refine ret1 rfl hd (ev_hit hN rfl) ⟨_, rfl, ?_⟩
       have e8 : decide (f.wh.length ≤ 1) = true := decide_eq_true (by omega)
       have e58 : decide (inner.length = 1) = false := decide_eq_false (by omega)
       have e9 : listsOk f inner.length = false := by unfold listsOk; rw [if_neg c12, if_neg c41, if_neg c50, if_pos (.inl c53)]; (simp only [e8, e58]) <;> rfl
       rw [e9]; exact ⟨hb, rfl⟩
     ·
      refine op_assign (ev_hit hN rfl) (reg_nil (hK28 _ _ (wp_cond_false (ev_hit hN rfl) (one_reg (op_eql (ev_hit hN rfl) rfl (fun c54 => ?_) (fun c54 => ?_))))))
      ·
       refine op_assign (ev_hit hN rfl) (reg_nil ?_)
       refine hK27 _ _ (wp_cond_true (ev_hit hN rfl) (seq_any fun K30 hK30 => one_reg (op_field fld45_12 (ev_hit hN rfl) (op_load1 (v := nv) one43 (ev_hit hN rfl) (hB5.cell rfl) (op_len_rd Try.underlying43 (ev_hit hN rfl) hfn ?_)))))
       refine op_eql (ev_hit hN rfl) rfl (fun c58 => ?_) (fun c58 => ?_)
       ·
        refine op_assign (ev_hit hN rfl) (reg_nil (hK30 _ _ (wp_ret (blk_ret (then_ret ( ?_))))))
        refine ret1 rfl hd (ev_hit hN rfl) ⟨_, rfl, ?_⟩
        have e8 : decide (f.wh.length ≤ 1) = true := decide_eq_true (by omega)
        have e58 : decide (inner.length = 1) = true := decide_eq_true (by omega)
        have e9 : listsOk f inner.length = true := by unfold listsOk; rw [if_neg c12, if_neg c41, if_neg c50, if_pos (.inr c54)]; (simp only [e8, e58]) <;> rfl
        rw [e9]; exact ⟨hb, rfl⟩
       ·
        refine op_assign (ev_hit hN rfl) (reg_nil (hK30 _ _ (wp_ret (blk_ret (then_ret ( ?_))))))
        refine ret1 rfl hd (ev_hit hN rfl) ⟨_, rfl, ?_⟩
        have e8 : decide (f.wh.length ≤ 1) = true := decide_eq_true (by omega)
        have e58 : decide (inner.length = 1) = false := decide_eq_false (by omega)
        have e9 : listsOk f inner.length = false := by unfold listsOk; rw [if_neg c12, if_neg c41, if_neg c50, if_pos (.inr c54)]; (simp only [e8, e58]) <;> rfl
        rw [e9]; exact ⟨hb, rfl⟩
      ·
       refine op_assign (ev_hit hN rfl) (reg_nil (hK27 _ _ (wp_cond_false (ev_hit hN rfl) (wp_skip (hK7 _ _ (seq_any fun K31 hK31 => ?_))))))
       refine one_reg (op_field fld45_0 (ev_hit hN rfl) (op_load1 (v := (Value.int .i64 f.kind)) one3 (ev_hit hN rfl) (hB5.cell rfl) (op_geq (ev_hit hN rfl) rfl (fun c61 => ?_) (fun c61 => ?_))))
       ·
        refine op_move (ev_hit hN rfl) (g_true (j := 3) (dj := 62) (b := true) rfl rfl rfl (ev_hit hN rfl) (op_field fld45_0 (ev_hit hN rfl) (g_true (j := 3) (dj := 62) (b := true) rfl rfl rfl (ev_hit hN rfl) (op_load1 (v := (Value.int .i64 f.kind)) one3 (ev_hit hN rfl) (hB5.cell rfl) (g_true (j := 3) (dj := 62) (b := true) rfl rfl rfl (ev_hit hN rfl) (op_leq (ev_hit hN rfl) rfl (fun c65 => ?_) (fun c65 => ?_)))))))
        ·
         refine op_pick_t (ev_hit hN rfl) (ev_hit hN rfl) ?_
         refine op_assign (ev_hit hN rfl) (reg_nil (hK31 _ _ (wp_ret ?_)))
         refine ret1 rfl hd (ev_hit hN rfl) ⟨_, rfl, ?_⟩
         have e8 : decide (f.wh.length ≤ 1) = true := decide_eq_true (by omega)
         have e61 : decide (1 ≤ f.kind) = true := decide_eq_true (by omega)
         have e65 : decide (f.kind ≤ 13) = true := decide_eq_true (by omega)
         have e9 : listsOk f inner.length = true := by unfold listsOk; rw [if_neg c12, if_neg c41, if_neg c50, if_neg (fun g => g.elim c53 c54)]; (simp only [e8, e61, e65]) <;> rfl
         rw [e9]; exact ⟨hb, rfl⟩
        ·
         refine op_pick_t (ev_hit hN rfl) (ev_hit hN rfl) ?_
         refine op_assign (ev_hit hN rfl) (reg_nil (hK31 _ _ (wp_ret ?_)))
         refine ret1 rfl hd (ev_hit hN rfl) ⟨_, rfl, ?_⟩
         have e8 : decide (f.wh.length ≤ 1) = true := decide_eq_true (by omega)
         have e61 : decide (1 ≤ f.kind) = true := decide_eq_true (by omega)
         have e65 : decide (f.kind ≤ 13) = false := decide_eq_false (by omega)
         have e9 : listsOk f inner.length = false := by unfold listsOk; rw [if_neg c12, if_neg c41, if_neg c50, if_neg (fun g => g.elim c53 c54)]; (simp only [e8, e61, e65]) <;> rfl
         rw [e9]; exact ⟨hb, rfl⟩
       ·
        refine op_move (ev_hit hN rfl) (g_false (j := 3) (dj := 62) (b := true) rfl rfl rfl (ev_hit hN rfl) rfl rfl (g_false (j := 3) (dj := 62) (b := true) rfl rfl rfl (ev_hit hN rfl) rfl rfl (g_false (j := 3) (dj := 62) (b := true) rfl rfl rfl (ev_hit hN rfl) rfl rfl (op_pick_f (ev_hit hN rfl) rfl ?_))))
        refine op_assign (ev_hit hN rfl) (reg_nil (hK31 _ _ (wp_ret ?_)))
        refine ret1 rfl hd (ev_hit hN rfl) ⟨_, rfl, ?_⟩
        have e8 : decide (f.wh.length ≤ 1) = true := decide_eq_true (by omega)
        have e61 : decide (1 ≤ f.kind) = false := decide_eq_false (by omega)
        have e9 : listsOk f inner.length = false := by unfold listsOk; rw [if_neg c12, if_neg c41, if_neg c50, if_neg (fun g => g.elim c53 c54)]; (simp only [e8, e61]) <;> rfl
        rw [e9]; exact ⟨hb, rfl⟩
 ·
  refine op_assign (ev_hit hN rfl) (reg_nil (hK6 _ _ (seq_any fun K32 hK32 => ?_)))
  refine seq_any fun K33 hK33 => one_reg (op_field fld45_0 (ev_hit hN rfl) (op_load1 (v := (Value.int .i64 f.kind)) one3 (ev_hit hN rfl) (hB5.cell rfl) (reg_nil (hK33 _ _ (wp_block ?_)))))
  refine seq_any fun K34 hK34 => ?_
  refine one_reg (op_eql (ev_hit hN rfl) rfl (fun c12 => ?_) (fun c12 => ?_))
  ·
   refine op_assign (ev_hit hN rfl) (reg_nil (hK34 _ _ (wp_cond_true (ev_hit hN rfl) (seq_any fun K35 hK35 => ?_))))
   refine one_reg (op_assign rfl (reg_nil (hK35 _ _ (seq_any fun K36 hK36 => seq_any fun K37 hK37 => ?_))))
   refine one_reg (op_field fld45_7 (ev_hit hN rfl) (op_load1 (v := (Value.string (bs f.join))) one9 (ev_hit hN rfl) (hB5.cell rfl) (op_sneq (ev_hit hN rfl) rfl (fun c15 => ?_) (fun c15 => ?_))))
   ·
    refine reg_nil (hK37 _ _ ?_)
    refine wp_cond_true (ev_hit hN rfl) (one_reg (op_assign rfl (reg_nil (hK36 _ _ (seq_any fun K38 hK38 => one_reg ?_)))))
    refine op_move (ev_hit hN rfl) (op_move (ev_hit hN rfl) (g_false (j := 1) (dj := 17) (b := true) rfl rfl rfl (ev_hit hN rfl) rfl rfl (g_false (j := 1) (dj := 17) (b := true) rfl rfl rfl (ev_hit hN rfl) rfl rfl (g_false (j := 1) (dj := 17) (b := true) rfl rfl rfl (ev_hit hN rfl) rfl rfl (g_false (j := 1) (dj := 17) (b := true) rfl rfl rfl (ev_hit hN rfl) rfl rfl (op_pick_f (ev_hit hN rfl) rfl ?_))))))
    refine op_move (ev_hit hN rfl) (g_false (j := 7) (dj := 23) (b := true) rfl rfl rfl (ev_hit hN rfl) rfl rfl (g_false (j := 7) (dj := 23) (b := true) rfl rfl rfl (ev_hit hN rfl) rfl rfl (g_false (j := 7) (dj := 23) (b := true) rfl rfl rfl (ev_hit hN rfl) rfl rfl (g_false (j := 7) (dj := 23) (b := true) rfl rfl rfl (ev_hit hN rfl) rfl rfl (g_false (j := 7) (dj := 23) (b := true) rfl rfl rfl (ev_hit hN rfl) rfl rfl (op_pick_f (ev_hit hN rfl) rfl ?_))))))
    refine op_move (ev_hit hN rfl) (g_false (j := 14) (dj := 30) (b := true) rfl rfl rfl (ev_hit hN rfl) rfl rfl (g_false (j := 14) (dj := 30) (b := true) rfl rfl rfl (ev_hit hN rfl) rfl rfl (g_false (j := 14) (dj := 30) (b := true) rfl rfl rfl (ev_hit hN rfl) rfl rfl (op_pick_f (ev_hit hN rfl) rfl ?_))))
    refine op_move (ev_hit hN rfl) (g_false (j := 19) (dj := 35) (b := true) rfl rfl rfl (ev_hit hN rfl) rfl rfl (g_false (j := 19) (dj := 35) (b := true) rfl rfl rfl (ev_hit hN rfl) rfl rfl (g_false (j := 19) (dj := 35) (b := true) rfl rfl rfl (ev_hit hN rfl) rfl rfl (op_pick_f (ev_hit hN rfl) rfl ?_))))
    refine op_assign (ev_hit hN rfl) (reg_nil (hK38 _ _ (wp_ret (blk_ret (then_ret ( ?_))))))
    refine ret1 rfl hd (ev_hit hN rfl) ⟨_, rfl, ?_⟩
    have e8 : decide (f.wh.length ≤ 1) = false := decide_eq_false (by omega)
    have e9 : listsOk f inner.length = false := by unfold listsOk; rw [if_pos c12]; (simp only [e8]) <;> rfl
    rw [e9]; exact ⟨hb, rfl⟩
   ·
    refine reg_nil (hK37 _ _ (wp_cond_false (ev_hit hN rfl) (wp_skip (hK36 _ _ (seq_any fun K39 hK39 => one_reg ?_)))))
    refine op_move (ev_hit hN rfl) (op_move (ev_hit hN rfl) (g_false (j := 1) (dj := 17) (b := true) rfl rfl rfl (ev_hit hN rfl) rfl rfl (g_false (j := 1) (dj := 17) (b := true) rfl rfl rfl (ev_hit hN rfl) rfl rfl (g_false (j := 1) (dj := 17) (b := true) rfl rfl rfl (ev_hit hN rfl) rfl rfl (g_false (j := 1) (dj := 17) (b := true) rfl rfl rfl (ev_hit hN rfl) rfl rfl (op_pick_f (ev_hit hN rfl) rfl ?_))))))
    refine op_move (ev_hit hN rfl) (g_false (j := 7) (dj := 23) (b := true) rfl rfl rfl (ev_hit hN rfl) rfl rfl (g_false (j := 7) (dj := 23) (b := true) rfl rfl rfl (ev_hit hN rfl) rfl rfl (g_false (j := 7) (dj := 23) (b := true) rfl rfl rfl (ev_hit hN rfl) rfl rfl (g_false (j := 7) (dj := 23) (b := true) rfl rfl rfl (ev_hit hN rfl) rfl rfl (g_false (j := 7) (dj := 23) (b := true) rfl rfl rfl (ev_hit hN rfl) rfl rfl (op_pick_f (ev_hit hN rfl) rfl ?_))))))
    refine op_move (ev_hit hN rfl) (g_false (j := 14) (dj := 30) (b := true) rfl rfl rfl (ev_hit hN rfl) rfl rfl (g_false (j := 14) (dj := 30) (b := true) rfl rfl rfl (ev_hit hN rfl) rfl rfl (g_false (j := 14) (dj := 30) (b := true) rfl rfl rfl (ev_hit hN rfl) rfl rfl (op_pick_f (ev_hit hN rfl) rfl ?_))))
    refine op_move (ev_hit hN rfl) (g_false (j := 19) (dj := 35) (b := true) rfl rfl rfl (ev_hit hN rfl) rfl rfl (g_false (j := 19) (dj := 35) (b := true) rfl rfl rfl (ev_hit hN rfl) rfl rfl (g_false (j := 19) (dj := 35) (b := true) rfl rfl rfl (ev_hit hN rfl) rfl rfl (op_pick_f (ev_hit hN rfl) rfl ?_))))
    refine op_assign (ev_hit hN rfl) (reg_nil (hK39 _ _ (wp_ret (blk_ret (then_ret ( ?_))))))
    refine ret1 rfl hd (ev_hit hN rfl) ⟨_, rfl, ?_⟩
    have e8 : decide (f.wh.length ≤ 1) = false := decide_eq_false (by omega)
    have e9 : listsOk f inner.length = false := by unfold listsOk; rw [if_pos c12]; (simp only [e8]) <;> rfl
    rw [e9]; exact ⟨hb, rfl⟩
  ·
   refine op_assign (ev_hit hN rfl) (reg_nil (hK34 _ _ (wp_cond_false (ev_hit hN rfl) (seq_any fun K40 hK40 => ?_))))
   refine one_reg (op_eql (ev_hit hN rfl) rfl (fun c41 => ?_) (fun c41 => ?_))
   ·
    refine op_assign (ev_hit hN rfl) (reg_nil (hK40 _ _ (wp_cond_true (ev_hit hN rfl) (seq_any fun K41 hK41 => one_reg ?_))))
    refine op_move (ev_hit hN rfl) (op_move (ev_hit hN rfl) (g_false (j := 1) (dj := 43) (b := true) rfl rfl rfl (ev_hit hN rfl) rfl rfl (g_false (j := 1) (dj := 43) (b := true) rfl rfl rfl (ev_hit hN rfl) rfl rfl (g_false (j := 1) (dj := 43) (b := true) rfl rfl rfl (ev_hit hN rfl) rfl rfl (g_false (j := 1) (dj := 43) (b := true) rfl rfl rfl (ev_hit hN rfl) rfl rfl (op_pick_f (ev_hit hN rfl) rfl ?_))))))
    refine op_assign (ev_hit hN rfl) (reg_nil (hK41 _ _ (wp_ret (blk_ret (then_ret ( ?_))))))
    refine ret1 rfl hd (ev_hit hN rfl) ⟨_, rfl, ?_⟩
    have e8 : decide (f.wh.length ≤ 1) = false := decide_eq_false (by omega)
    have e9 : listsOk f inner.length = false := by unfold listsOk; rw [if_neg c12, if_pos c41]; (simp only [e8]) <;> rfl
    rw [e9]; exact ⟨hb, rfl⟩
   ·
    refine op_assign (ev_hit hN rfl) (reg_nil (hK40 _ _ (wp_cond_false (ev_hit hN rfl) (seq_any fun K42 hK42 => ?_))))
    refine one_reg (op_eql (ev_hit hN rfl) rfl (fun c50 => ?_) (fun c50 => ?_))
    ·
     refine op_assign (ev_hit hN rfl) (reg_nil (hK42 _ _ (wp_cond_true (ev_hit hN rfl) ?_)))
     refine seq_any fun K43 hK43 => one_reg (op_move (ev_hit hN rfl) (op_assign (ev_hit hN rfl) (reg_nil (hK43 _ _ (wp_ret (blk_ret (then_ret ( ?_))))))))
     refine ret1 rfl hd (ev_hit hN rfl) ⟨_, rfl, ?_⟩
     have e8 : decide (f.wh.length ≤ 1) = false := decide_eq_false (by omega)
     have e9 : listsOk f inner.length = false := by unfold listsOk; rw [if_neg c12, if_neg c41, if_pos c50]; (simp only [e8]) <;> rfl
     rw [e9]; exact ⟨hb, rfl⟩
    ·
     refine op_assign (ev_hit hN rfl) (reg_nil (hK42 _ _ (wp_cond_false (ev_hit hN rfl) (seq_any fun K44 hK44 => seq_any fun K45 hK45 => ?_))))
     refine one_reg (op_eql (ev_hit hN rfl) rfl (fun c53 => ?_) (fun c53 => ?_))
     ·
      refine op_assign (ev_hit hN rfl) (reg_nil (hK45 _ _ (wp_cond_true (ev_hit hN rfl) (wp_skip ?_))))
      refine hK44 _ _ (wp_cond_true (ev_hit hN rfl) (seq_any fun K46 hK46 => one_reg (op_field fld45_12 (ev_hit hN rfl) (op_load1 (v := nv) one43 (ev_hit hN rfl) (hB5.cell rfl) (op_len_rd Try.underlying43 (ev_hit hN rfl) hfn ?_)))))
      refine op_eql (ev_hit hN rfl) rfl (fun c58 => ?_) (fun c58 => ?_)
      ·
       refine op_assign (ev_hit hN rfl) (reg_nil (hK46 _ _ (wp_ret (blk_ret (then_ret ( ?_))))))
       refine ret1 rfl hd (ev_hit hN rfl) ⟨_, rfl, ?_⟩
       have e8 : decide (f.wh.length ≤ 1) = false := decide_eq_false (by omega)
       have e58 : decide (inner.length = 1) = true := decide_eq_true (by omega)
       have e9 : listsOk f inner.length = true := by unfold listsOk; rw [if_neg c12, if_neg c41, if_neg c50, if_pos (.inl c53)]; (simp only [e8, e58]) <;> rfl
       rw [e9]; exact ⟨hb, rfl⟩
      ·
       refine op_assign (ev_hit hN rfl) (reg_nil (hK46 _ _ (wp_ret (blk_ret (then_ret ( ?_))))))
       refine ret1 rfl hd (ev_hit hN rfl) ⟨_, rfl, ?_⟩
       have e8 : decide (f.wh.length ≤ 1) = false := decide_eq_false (by omega)
       have e58 : decide (inner.length = 1) = false := decide_eq_false (by omega)
       have e9 : listsOk f inner.length = false := by unfold listsOk; rw [if_neg c12, if_neg c41, if_neg c50, if_pos (.inl c53)]; (simp only [e8, e58]) <;> rfl
       rw [e9]; exact ⟨hb, rfl⟩
     ·
      refine op_assign (ev_hit hN rfl) (reg_nil (hK45 _ _ (wp_cond_false (ev_hit hN rfl) (one_reg (op_eql (ev_hit hN rfl) rfl (fun c54 => ?_) (fun c54 => ?_))))))
      ·
       refine op_assign (ev_hit hN rfl) (reg_nil ?_)
       refine hK44 _ _ (wp_cond_true (ev_hit hN rfl) (seq_any fun K47 hK47 => one_reg (op_field fld45_12 (ev_hit hN rfl) (op_load1 (v := nv) one43 (ev_hit hN rfl) (hB5.cell rfl) (op_len_rd Try.underlying43 (ev_hit hN rfl) hfn ?_)))))
       refine op_eql (ev_hit hN rfl) rfl (fun c58 => ?_) (fun c58 => ?_)
       ·
        refine op_assign (ev_hit hN rfl) (reg_nil (hK47 _ _ (wp_ret (blk_ret (then_ret ( ?_))))))
        refine ret1 rfl hd (ev_hit hN rfl) ⟨_, rfl, ?_⟩
        have e8 : decide (f.wh.length ≤ 1) = false := decide_eq_false (by omega)
        have e58 : decide (inner.length = 1) = true := decide_eq_true (by omega)
        have e9 : listsOk f inner.length = true := by unfold listsOk; rw [if_neg c12, if_neg c41, if_neg c50, if_pos (.inr c54)]; (simp only [e8, e58]) <;> rfl
        rw [e9]; exact ⟨hb, rfl⟩
       ·
        refine op_assign (ev_hit hN rfl) (reg_nil (hK47 _ _ (wp_ret (blk_ret (then_ret ( ?_))))))
        refine ret1 rfl hd (ev_hit hN rfl) ⟨_, rfl, ?_⟩
        have e8 : decide (f.wh.length ≤ 1) = false := decide_eq_false (by omega)
        have e58 : decide (inner.length = 1) = false := decide_eq_false (by omega)
        have e9 : listsOk f inner.length = false := by unfold listsOk; rw [if_neg c12, if_neg c41, if_neg c50, if_pos (.inr c54)]; (simp only [e8, e58]) <;> rfl
        rw [e9]; exact ⟨hb, rfl⟩
      ·
       refine op_assign (ev_hit hN rfl) (reg_nil (hK44 _ _ (wp_cond_false (ev_hit hN rfl) (wp_skip (hK32 _ _ (seq_any fun K48 hK48 => ?_))))))
       refine one_reg (op_field fld45_0 (ev_hit hN rfl) (op_load1 (v := (Value.int .i64 f.kind)) one3 (ev_hit hN rfl) (hB5.cell rfl) (op_geq (ev_hit hN rfl) rfl (fun c61 => ?_) (fun c61 => ?_))))
       ·
        refine op_move (ev_hit hN rfl) (g_true (j := 3) (dj := 62) (b := true) rfl rfl rfl (ev_hit hN rfl) (op_field fld45_0 (ev_hit hN rfl) (g_true (j := 3) (dj := 62) (b := true) rfl rfl rfl (ev_hit hN rfl) (op_load1 (v := (Value.int .i64 f.kind)) one3 (ev_hit hN rfl) (hB5.cell rfl) (g_true (j := 3) (dj := 62) (b := true) rfl rfl rfl (ev_hit hN rfl) (op_leq (ev_hit hN rfl) rfl (fun c65 => ?_) (fun c65 => ?_)))))))
        ·
         refine op_pick_t (ev_hit hN rfl) (ev_hit hN rfl) ?_
         refine op_assign (ev_hit hN rfl) (reg_nil (hK48 _ _ (wp_ret ?_)))
         refine ret1 rfl hd (ev_hit hN rfl) ⟨_, rfl, ?_⟩
         have e8 : decide (f.wh.length ≤ 1) = false := decide_eq_false (by omega)
         have e61 : decide (1 ≤ f.kind) = true := decide_eq_true (by omega)
         have e65 : decide (f.kind ≤ 13) = true := decide_eq_true (by omega)
         have e9 : listsOk f inner.length = true := by unfold listsOk; rw [if_neg c12, if_neg c41, if_neg c50, if_neg (fun g => g.elim c53 c54)]; (simp only [e8, e61, e65]) <;> rfl
         rw [e9]; exact ⟨hb, rfl⟩
        ·
         refine op_pick_t (ev_hit hN rfl) (ev_hit hN rfl) ?_
         refine op_assign (ev_hit hN rfl) (reg_nil (hK48 _ _ (wp_ret ?_)))
         refine ret1 rfl hd (ev_hit hN rfl) ⟨_, rfl, ?_⟩
         have e8 : decide (f.wh.length ≤ 1) = false := decide_eq_false (by omega)
         have e61 : decide (1 ≤ f.kind) = true := decide_eq_true (by omega)
         have e65 : decide (f.kind ≤ 13) = false := decide_eq_false (by omega)
         have e9 : listsOk f inner.length = false := by unfold listsOk; rw [if_neg c12, if_neg c41, if_neg c50, if_neg (fun g => g.elim c53 c54)]; (simp only [e8, e61, e65]) <;> rfl
         rw [e9]; exact ⟨hb, rfl⟩
       ·
        refine op_move (ev_hit hN rfl) (g_false (j := 3) (dj := 62) (b := true) rfl rfl rfl (ev_hit hN rfl) rfl rfl (g_false (j := 3) (dj := 62) (b := true) rfl rfl rfl (ev_hit hN rfl) rfl rfl (g_false (j := 3) (dj := 62) (b := true) rfl rfl rfl (ev_hit hN rfl) rfl rfl (op_pick_f (ev_hit hN rfl) rfl ?_))))
        refine op_assign (ev_hit hN rfl) (reg_nil (hK48 _ _ (wp_ret ?_)))
        refine ret1 rfl hd (ev_hit hN rfl) ⟨_, rfl, ?_⟩
        have e8 : decide (f.wh.length ≤ 1) = false := decide_eq_false (by omega)
        have e61 : decide (1 ≤ f.kind) = false := decide_eq_false (by omega)
        have e9 : listsOk f inner.length = false := by unfold listsOk; rw [if_neg c12, if_neg c41, if_neg c50, if_neg (fun g => g.elim c53 c54)]; (simp only [e8, e61]) <;> rfl
        rw [e9]; exact ⟨hb, rfl⟩

theorem IdxV {L : List DVw} {v : Value} {p : DVw → Bool} {w : World} (hl : RdC w 0 w.heap.size 15 v L.length (L.flatMap cellsW)) {g : Nat} {fs cs : List Value} (hokg : callOk Try.prog g = true) (hf : ∀ i, i < L.length → ∀ w1, Below w.heap.size w w1 → Ret Try.prog g (fs ++ [(Value.agg #[(Value.string (bs (L.getD i default).nm)), (L.getD i default).sv, (Value.int .i64 (L.getD i default).act.f.kind), (Value.string (bs (L.getD i default).act.f.tb)), (Value.string (bs (L.getD i default).act.f.nm)), (L.getD i default).act.f.cv, (L.getD i default).act.f.gv, (L.getD i default).act.f.vv, (L.getD i default).act.f.iv, (Value.string (bs (L.getD i default).act.f.join)), (L.getD i default).act.f.ov, (L.getD i default).act.f.wv, (L.getD i default).act.f.rv, (Value.bool (L.getD i default).act.f.desc), (L.getD i default).act.nv])] ++ cs).toArray w1 (fun v' w' => Below w1.heap.size w1 w' ∧ v' = .bool (p (L.getD i default)))) : Ret Try.prog 100 #[v, (Value.func (.func g) fs.toArray cs.toArray)] w (fun v' w' => Below w.heap.size w w' ∧ v' = .int .i64 (ixOf p L)) := by
 have hlm := rd_len hl
 have hb := Below.refl w.heap.size w
 refine enter (N := 19) Try.func100 rfl rfl (by simp) fun a0 hN hd hA => ?_
 have s0 : a0.tmps.getD 0 undef = v := hA 0 (by simp)
 have s1 : a0.tmps.getD 1 undef = (Value.func (.func g) fs.toArray cs.toArray) := hA 1 (by simp)
 clear hA
 refine seq_any fun K49 hK49 => one_reg (op_assign rfl ?_)
 refine reg_nil (hK49 _ _ (seq_any fun K50 hK50 => seq_any fun K51 hK51 => one_reg (op_move (ev_base hN rfl s0) (op_len_rd Try.underlying37 (ev_hit hN rfl) hl ?_))))
 refine op_move rfl (reg_nil (hK51 _ _ (wp_block ?_)))
 refine loop_m (fun mz_ az_ w' => ∃ (i : Nat), mz_ = L.length - i ∧ (az_.tmps.getD 0 undef = v) ∧ (az_.tmps.getD 1 undef = (Value.func (.func g) fs.toArray cs.toArray)) ∧ (az_.tmps.getD 7 undef = (Value.int .i64 ((L.length : Nat) : Int))) ∧ (az_.tmps.getD 8 undef = (Value.int .i64 ((i : Nat) : Int))) ∧ (i ≤ L.length) ∧ (∀ j, j < i → p (L.getD j default) = false) ∧ (Below w.heap.size w w') ∧ (w.heap.size ≤ w'.heap.size) ∧ (RdC w' 0 w.heap.size 15 v L.length (L.flatMap cellsW))) _ hN hd ⟨0, rfl, (sl_base hN rfl s0), (sl_base hN rfl s1), (sl_hit hN rfl), (sl_hit hN rfl), (Nat.zero_le _), (fun _ h => absurd h (Nat.not_lt_zero _)), hb, (Nat.le_refl _), hl⟩ ?_
 rintro _ a52 w52 hN52 hd52 ⟨i, rfl, s52_0, s52_1, s52_7, s52_8, hi, hall, hb, zl_w52, hl⟩
 have z_w52 := hb.size
 refine seq_any fun K53 hK53 => ?_
 refine one_reg (op_lss (ev_base hN52 rfl s52_8) (ev_base hN52 rfl s52_7) (fun c9 => ?_) (fun c9 => ?_))
 ·
  refine reg_nil ?_
  refine hK53 _ _ (seq_any fun K54 hK54 => wp_cond_true (ev_hit hN52 rfl) (wp_skip (hK54 _ _ (seq_any fun K55 hK55 => wp_block ?_))))
  refine seq_any fun K56 hK56 => one_reg (op_move (ev_base hN52 rfl s52_8) (op_assign (ev_hit hN52 rfl) (reg_nil ?_)))
  refine hK56 _ _ (seq_any fun K57 hK57 => one_reg (op_move (ev_base hN52 rfl s52_1) (op_move (ev_base hN52 rfl s52_0) (op_move (ev_hit hN52 rfl) (op_index_rd slt37 (ev_hit hN52 rfl) hl (ev_hit hN52 rfl) (by omega) (by omega) ?_)))))
  intro b58 o59 h0b58 h1b58 hc60
  refine op_loadA (cs := [(Value.string (bs (L.getD i default).nm)), (L.getD i default).sv, (Value.int .i64 (L.getD i default).act.f.kind), (Value.string (bs (L.getD i default).act.f.tb)), (Value.string (bs (L.getD i default).act.f.nm)), (L.getD i default).act.f.cv, (L.getD i default).act.f.gv, (L.getD i default).act.f.vv, (L.getD i default).act.f.iv, (Value.string (bs (L.getD i default).act.f.join)), (L.getD i default).act.f.ov, (L.getD i default).act.f.wv, (L.getD i default).act.f.rv, (Value.bool (L.getD i default).act.f.desc), (L.getD i default).act.nv]) agg98 rfl (ev_hit hN52 rfl) (fun j u hu => hc60 j u (by have := (List.getElem?_eq_some_iff.1 hu).1; simpa using this) ((el_dv (i := i) (by omega) (by omega)) j u hu)) ?_
  refine op_fnv (fs := fs) (vs := [(Value.agg #[(Value.string (bs (L.getD i default).nm)), (L.getD i default).sv, (Value.int .i64 (L.getD i default).act.f.kind), (Value.string (bs (L.getD i default).act.f.tb)), (Value.string (bs (L.getD i default).act.f.nm)), (L.getD i default).act.f.cv, (L.getD i default).act.f.gv, (L.getD i default).act.f.vv, (L.getD i default).act.f.iv, (Value.string (bs (L.getD i default).act.f.join)), (L.getD i default).act.f.ov, (L.getD i default).act.f.wv, (L.getD i default).act.f.rv, (Value.bool (L.getD i default).act.f.desc), (L.getD i default).act.nv])]) (cs := cs) (ev_hit hN52 rfl) hokg ⟨(ev_hit hN52 rfl), trivial⟩ (hf i (by omega) _ hb) ?_
  rintro _ w61 ⟨E62, rfl⟩
  have E62 := grown_of_below E62
  have z_w61 := E62.size
  have hl := hl.keep0 E62
  have hb := below_step0 hb E62 hb.size
  rcases Bool.eq_false_or_eq_true ((p (L.getD i default))) with c16 | c16
  ·
   rw [c16]
   refine reg_nil (hK57 _ _ (wp_cond_true (ev_hit hN52 rfl) ?_))
   refine seq_any fun K63 hK63 => one_reg (op_move (ev_hit hN52 rfl) (op_assign (ev_hit hN52 rfl) (reg_nil (hK63 _ _ (wp_ret (blk_ret (then_ret (then_ret (blk_ret (then_ret ( ?_)))))))))))
   refine ret1 rfl hd52 (ev_hit hN52 rfl) ⟨_, rfl, ?_⟩
   exact ⟨hb, congrArg (Value.int .i64) (ixOf_hit (by omega) hall c16).symm⟩
  ·
   rw [c16]
   refine reg_nil (hK57 _ _ (wp_cond_false (ev_hit hN52 rfl) (wp_skip (hK55 _ _ (one_reg (op_add (ev_base hN52 rfl s52_8) rfl (add64 (by omega)) ?_))))))
   refine op_move (ev_hit hN52 rfl) (reg_nil ?_)
   -- round 9T 16F
   exact loop_next _ hN52 hd52 ⟨(i + 1), rfl, (sl_base hN52 rfl s52_0), (sl_base hN52 rfl s52_1), (sl_base hN52 rfl s52_7), (sl_hit hN52 rfl).trans (congrArg (Value.int .i64) (by omega)), (by omega), (all_next hall c16), hb, (by omega), hl⟩ (by omega)
 ·
  refine reg_nil (hK53 _ _ (seq_any fun K64 hK64 => wp_cond_false (ev_hit hN52 rfl) (wp_exit (then_exit (then_exit (blk_hit ?_))))))
  refine hK50 _ _ (seq_any fun K65 hK65 => one_reg (op_assign rfl (reg_nil (hK65 _ _ (wp_ret ?_)))))
  refine ret1 rfl hd52 (ev_hit hN52 rfl) ⟨_, rfl, ?_⟩
  exact ⟨hb, congrArg (Value.int .i64) (ixOf_none (by omega) hall).symm⟩

theorem ofView_ret (d : DVw) (w : World) : Ret Try.prog 78 #[(Value.agg #[(Value.string (bs d.nm)), d.sv, (Value.int .i64 d.act.f.kind), (Value.string (bs d.act.f.tb)), (Value.string (bs d.act.f.nm)), d.act.f.cv, d.act.f.gv, d.act.f.vv, d.act.f.iv, (Value.string (bs d.act.f.join)), d.act.f.ov, d.act.f.wv, d.act.f.rv, (Value.bool d.act.f.desc), d.act.nv])] w (fun v' w' => Below w.heap.size w w' ∧ v' = .string (bs d.nm)) := by
 have hb := Below.refl w.heap.size w
 refine enter (N := 5) Try.func78 rfl rfl (by simp) fun a0 hN hd hA => ?_
 have s0 : a0.tmps.getD 0 undef = (Value.agg #[(Value.string (bs d.nm)), d.sv, (Value.int .i64 d.act.f.kind), (Value.string (bs d.act.f.tb)), (Value.string (bs d.act.f.nm)), d.act.f.cv, d.act.f.gv, d.act.f.vv, d.act.f.iv, (Value.string (bs d.act.f.join)), d.act.f.ov, d.act.f.wv, d.act.f.rv, (Value.bool d.act.f.desc), d.act.nv]) := hA 0 (by simp)
 clear hA
 refine seq_any fun K66 hK66 => one_reg (op_box (cs := [(Value.string (bs d.nm)), d.sv, (Value.int .i64 d.act.f.kind), (Value.string (bs d.act.f.tb)), (Value.string (bs d.act.f.nm)), d.act.f.cv, d.act.f.gv, d.act.f.vv, d.act.f.iv, (Value.string (bs d.act.f.join)), d.act.f.ov, d.act.f.wv, d.act.f.rv, (Value.bool d.act.f.desc), d.act.nv]) (ev_base hN rfl s0) rfl ?_)
 intro w67 b68 lo_b68 hi_b68 hB70 E69
 have z_w67 := E69.size
 have hb := below_step0 hb E69 hb.size
 refine op_assign rfl (reg_nil (hK66 _ _ (seq_any fun K71 hK71 => ?_)))
 refine one_reg (op_field fld98_0 (ev_hit hN rfl) (op_load1 (v := (Value.string (bs d.nm))) one9 (ev_hit hN rfl) (hB70.cell rfl) (op_assign (ev_hit hN rfl) (reg_nil (hK71 _ _ (wp_ret ?_))))))
 refine ret1 rfl hd (ev_hit hN rfl) ⟨_, rfl, ?_⟩
 exact ⟨hb, rfl⟩

theorem find1View (d : DVw) (x : List UInt8) {fb nb : Nat} {w : World} (hf9 : Bx w fb 125 [.func (.func 78) #[] #[]]) (hn9 : Bx w nb 9 [.string (bs x)]) : Ret Try.prog 101 #[(Value.agg #[(Value.string (bs d.nm)), d.sv, (Value.int .i64 d.act.f.kind), (Value.string (bs d.act.f.tb)), (Value.string (bs d.act.f.nm)), d.act.f.cv, d.act.f.gv, d.act.f.vv, d.act.f.iv, (Value.string (bs d.act.f.join)), d.act.f.ov, d.act.f.wv, d.act.f.rv, (Value.bool d.act.f.desc), d.act.nv]), (ptr fb 0), (ptr nb 0)] w (fun v' w' => Below w.heap.size w w' ∧ v' = .bool (decide (d.nm = x))) := by
 have hb := Below.refl w.heap.size w
 refine enter (N := 10) Try.func101 rfl rfl (by simp) fun a0 hN hd hA => ?_
 have s0 : a0.tmps.getD 0 undef = (Value.agg #[(Value.string (bs d.nm)), d.sv, (Value.int .i64 d.act.f.kind), (Value.string (bs d.act.f.tb)), (Value.string (bs d.act.f.nm)), d.act.f.cv, d.act.f.gv, d.act.f.vv, d.act.f.iv, (Value.string (bs d.act.f.join)), d.act.f.ov, d.act.f.wv, d.act.f.rv, (Value.bool d.act.f.desc), d.act.nv]) := hA 0 (by simp)
 have s1 : a0.tmps.getD 1 undef = (ptr fb 0) := hA 1 (by simp)
 have s2 : a0.tmps.getD 2 undef = (ptr nb 0) := hA 2 (by simp)
 clear hA
 refine seq_any fun K72 hK72 => one_reg (op_box (cs := [(Value.string (bs d.nm)), d.sv, (Value.int .i64 d.act.f.kind), (Value.string (bs d.act.f.tb)), (Value.string (bs d.act.f.nm)), d.act.f.cv, d.act.f.gv, d.act.f.vv, d.act.f.iv, (Value.string (bs d.act.f.join)), d.act.f.ov, d.act.f.wv, d.act.f.rv, (Value.bool d.act.f.desc), d.act.nv]) (ev_base hN rfl s0) rfl ?_)
 intro w73 b74 lo_b74 hi_b74 hB76 E75
 have z_w73 := E75.size
 have hf9 := hf9.keep0 E75
 have hn9 := hn9.keep0 E75
 have hb := below_step0 hb E75 hb.size
 refine op_assign rfl (reg_nil (hK72 _ _ (seq_any fun K77 hK77 => reg_split (hd := [_, _, _, _]) (tl := _) 4 mixed (by kernel_rfl) rfl rfl ?_)))
 refine any_env (φ := phiV [(fun uz => uz = (Value.func (.func 78) #[] #[])), (fun uz => uz = (Value.agg #[(Value.string (bs d.nm)), d.sv, (Value.int .i64 d.act.f.kind), (Value.string (bs d.act.f.tb)), (Value.string (bs d.act.f.nm)), d.act.f.cv, d.act.f.gv, d.act.f.vv, d.act.f.iv, (Value.string (bs d.act.f.join)), d.act.f.ov, d.act.f.wv, d.act.f.rv, (Value.bool d.act.f.desc), d.act.nv])), (fun _ => True), (fun uz => uz = (Value.string (bs x)))]) (G := fun w' => Bx w' fb 125 [(Value.func (.func 78) #[] #[])] ∧ Bx w' b74 98 [(Value.string (bs d.nm)), d.sv, (Value.int .i64 d.act.f.kind), (Value.string (bs d.act.f.tb)), (Value.string (bs d.act.f.nm)), d.act.f.cv, d.act.f.gv, d.act.f.vv, d.act.f.iv, (Value.string (bs d.act.f.join)), d.act.f.ov, d.act.f.wv, d.act.f.rv, (Value.bool d.act.f.desc), d.act.nv] ∧ Bx w' nb 9 [(Value.string (bs x))]) [2] (by kernel_rfl) (by kernel_rfl) (by kernel_rfl) (by kernel_rfl) hN (fun w1 w2 E h => by obtain ⟨h0, h1, h2⟩ := h; exact ⟨h0.keep0 E, h1.keep0 E, h2.keep0 E⟩) ⟨hf9, hB76, hn9⟩ (ObEs.cons ?_ (ObEs.cons ?_ (ObEs.pass rfl (ObEs.cons ?_ (ObEs.nil))))) (by simp only [putsL_defers]) ?_
 ·
  intro eA aA wA hNA hGA hbsA hdpA
  have qA_1 := (hbsA 1 rfl).trans (sl_base hN rfl s1)
  obtain ⟨hf9, hB76, hn9⟩ := hGA
  refine op_load1 (v := (Value.func (.func 78) #[] #[])) one125 (ev_base hNA rfl qA_1) (hf9.cell rfl) ?_
  exact obE_end rfl rfl rfl
 ·
  intro eA aA wA hNA hGA hbsA hdpA
  have qA_3 := (hbsA 3 rfl).trans (sl_hit hN rfl)
  obtain ⟨hf9, hB76, hn9⟩ := hGA
  refine op_loadA (cs := [(Value.string (bs d.nm)), d.sv, (Value.int .i64 d.act.f.kind), (Value.string (bs d.act.f.tb)), (Value.string (bs d.act.f.nm)), d.act.f.cv, d.act.f.gv, d.act.f.vv, d.act.f.iv, (Value.string (bs d.act.f.join)), d.act.f.ov, d.act.f.wv, d.act.f.rv, (Value.bool d.act.f.desc), d.act.nv]) agg98 rfl (ev_base hNA rfl qA_3) (fun j u hu => by rw [Nat.zero_add]; exact hB76.cell hu) ?_
  exact obE_end rfl rfl rfl
 ·
  intro eA aA wA hNA hGA hbsA hdpA
  have qA_2 := (hbsA 2 rfl).trans (sl_base hN rfl s2)
  obtain ⟨hf9, hB76, hn9⟩ := hGA
  refine op_load1 (v := (Value.string (bs x))) one9 (ev_base hNA rfl qA_2) (hn9.cell rfl) ?_
  exact obE_end rfl rfl rfl
 ·
  intro w78 E78 _ a78 hN78 hbs78 hdp78 o_ ho_; obtain rfl := Option.some.inj ho_
  have z_w78 := E78.size
  have hf9 := hf9.keep0 E78
  have hn9 := hn9.keep0 E78
  have hB76 := hB76.keep0 E78
  have hb := below_step0 hb E78 hb.size
  have q78_5 : Sl a78 5 (Value.func (.func 78) #[] #[]) := (hdp78 0 _ 5 (by kernel_rfl) rfl rfl).2 rfl
  have q78_6 : Sl a78 6 (Value.agg #[(Value.string (bs d.nm)), d.sv, (Value.int .i64 d.act.f.kind), (Value.string (bs d.act.f.tb)), (Value.string (bs d.act.f.nm)), d.act.f.cv, d.act.f.gv, d.act.f.vv, d.act.f.iv, (Value.string (bs d.act.f.join)), d.act.f.ov, d.act.f.wv, d.act.f.rv, (Value.bool d.act.f.desc), d.act.nv]) := (hdp78 1 _ 6 (by kernel_rfl) rfl rfl).2 rfl
  refine op_fnv (fs := []) (vs := [(Value.agg #[(Value.string (bs d.nm)), d.sv, (Value.int .i64 d.act.f.kind), (Value.string (bs d.act.f.tb)), (Value.string (bs d.act.f.nm)), d.act.f.cv, d.act.f.gv, d.act.f.vv, d.act.f.iv, (Value.string (bs d.act.f.join)), d.act.f.ov, d.act.f.wv, d.act.f.rv, (Value.bool d.act.f.desc), d.act.nv])]) (cs := []) (ev_base hN78 rfl q78_5) ok78 ⟨(ev_base hN78 rfl q78_6), trivial⟩ (ofView_ret d _) ?_
  rintro _ w79 ⟨E80, rfl⟩
  have E80 := grown_of_below E80
  have z_w79 := E80.size
  have hf9 := hf9.keep0 E80
  have hn9 := hn9.keep0 E80
  have hB76 := hB76.keep0 E80
  have hb := below_step0 hb E80 hb.size
  refine ke_end rfl (by decide) rfl ⟨hf9, hB76, hn9⟩ ?_
  intro w81 E81 a81 hN81 hd81 hbs81 hph81
  have hd81 := hd81.trans ((by simp only [putsL_defers] : _ = _).trans hd)
  have z_w81 := E81.size
  have hn9 := hn9.keep0 E81
  have hb := below_step0 hb E81 hb.size
  have s81_7 : Sl a81 7 (Value.string (bs d.nm)) := (Option.some.inj ((hph81 2 _ 7 rfl rfl).1 0 rfl)).symm
  have s81_8 : Sl a81 8 (Value.string (bs x)) := (hph81 3 _ 8 rfl rfl).2 rfl
  refine split_end ?_
  refine from_seq (tl := [_, _]) (by decide) (by kernel_rfl) rfl ?_
  refine op_seql (ev_base hN81 rfl s81_7) (ev_base hN81 rfl s81_8) (fun c9 => ?_) (fun c9 => ?_)
  ·
   refine op_assign (ev_hit hN81 rfl) (reg_nil (hK77 _ _ (wp_ret ?_)))
   refine ret1 rfl hd81 (ev_hit hN81 rfl) ⟨_, rfl, ?_⟩
   exact ⟨hb, congrArg Value.bool (decide_eq_true c9).symm⟩
  ·
   refine op_assign (ev_hit hN81 rfl) (reg_nil (hK77 _ _ (wp_ret ?_)))
   refine ret1 rfl hd81 (ev_hit hN81 rfl) ⟨_, rfl, ?_⟩
   exact ⟨hb, congrArg Value.bool (decide_eq_false c9).symm⟩

theorem findView {L : List DVw} {v : Value} (x : List UInt8) {w : World} (hl : RdC w 0 w.heap.size 15 v L.length (L.flatMap cellsW)) : Ret Try.prog 77 #[v, (Value.string (bs x)), (Value.func (.func 78) #[] #[])] w (fun v' w' => Below w.heap.size w w' ∧ v' = .int .i64 (ixOf (fun d => decide (d.nm = x)) L)) := by
 have hb := Below.refl w.heap.size w
 refine enter (N := 10) Try.func77 rfl rfl (by simp) fun a0 hN hd hA => ?_
 have s0 : a0.tmps.getD 0 undef = v := hA 0 (by simp)
 have s1 : a0.tmps.getD 1 undef = (Value.string (bs x)) := hA 1 (by simp)
 have s2 : a0.tmps.getD 2 undef = (Value.func (.func 78) #[] #[]) := hA 2 (by simp)
 clear hA
 refine seq_any fun K82 hK82 => one_reg (op_box (cs := [(Value.string (bs x))]) (ev_base hN rfl s1) rfl ?_)
 intro w83 b84 lo_b84 hi_b84 hB86 E85
 have z_w83 := E85.size
 have hl := hl.keep0 E85
 have hb := below_step0 hb E85 hb.size
 refine op_box (cs := [(Value.func (.func 78) #[] #[])]) (ev_base hN rfl s2) rfl ?_
 intro w87 b88 lo_b88 hi_b88 hB90 E89
 have z_w87 := E89.size
 have hl := hl.keep0 E89
 have hB86 := hB86.keep0 E89
 have hb := below_step0 hb E89 hb.size
 refine op_assign rfl (reg_nil (hK82 _ _ (seq_any fun K91 hK91 => one_reg (op_move (ev_base hN rfl s0) (op_mkfn (cv := [(ptr b88 0), (ptr b84 0)]) ⟨(ev_hit hN rfl), ⟨(ev_hit hN rfl), trivial⟩⟩ ?_)))))
 refine op_fn (vs := [v, (Value.func (.func 101) #[] #[(ptr b88 0), (ptr b84 0)])]) ok100 ⟨(ev_hit hN rfl), ⟨(ev_hit hN rfl), trivial⟩⟩ (IdxV (g := 101) (fs := []) (cs := [(ptr b88 0), (ptr b84 0)]) (p := (fun d => decide (d.nm = x))) (hl.mono (Nat.zero_le _) (by omega)) ok101 (fun i hi w1 E9 => find1View (L.getD i default) x (hB90.keep0 (grown_of_below E9)) (hB86.keep0 (grown_of_below E9)))) ?_
 rintro _ w92 ⟨E93, rfl⟩
 have E93 := grown_of_below E93
 have z_w92 := E93.size
 have hl := hl.keep0 E93
 have hb := below_step0 hb E93 hb.size
 refine op_assign (ev_hit hN rfl) (reg_nil (hK91 _ _ (wp_ret ?_)))
 refine ret1 rfl hd (ev_hit hN rfl) ⟨_, rfl, ?_⟩
 exact ⟨hb, rfl⟩

theorem View0 (tv : Value) (x : List UInt8) (w : World) : Ret Try.prog 47 #[(Value.agg #[tv, (Value.slice none 0 0)]), (Value.string (bs x))] w (fun v' w' => Below w.heap.size w w' ∧ v' = .tuple #[(Value.agg #[(Value.string (bs [])), (Value.slice none 0 0), (Value.int .i64 0), (Value.string (bs [])), (Value.string (bs [])), (Value.slice none 0 0), (Value.slice none 0 0), (Value.slice none 0 0), (Value.slice none 0 0), (Value.string (bs [])), (Value.slice none 0 0), (Value.slice none 0 0), (Value.slice none 0 0), (Value.bool false), (Value.slice none 0 0)]), .bool false]) := by
 have hb := Below.refl w.heap.size w
 refine enter (N := 20) Try.func47 rfl rfl (by simp) fun a0 hN hd hA => ?_
 have s0 : a0.tmps.getD 0 undef = (Value.agg #[tv, (Value.slice none 0 0)]) := hA 0 (by simp)
 have s1 : a0.tmps.getD 1 undef = (Value.string (bs x)) := hA 1 (by simp)
 clear hA
 refine seq_any fun K94 hK94 => one_reg (op_box (cs := [tv, (Value.slice none 0 0)]) (ev_base hN rfl s0) rfl ?_)
 intro w95 b96 lo_b96 hi_b96 hB98 E97
 have z_w95 := E97.size
 have hb := below_step0 hb E97 hb.size
 refine op_alloc (cs := [(Value.string (bs [])), (Value.slice none 0 0), (Value.int .i64 0), (Value.string (bs [])), (Value.string (bs [])), (Value.slice none 0 0), (Value.slice none 0 0), (Value.slice none 0 0), (Value.slice none 0 0), (Value.string (bs [])), (Value.slice none 0 0), (Value.slice none 0 0), (Value.slice none 0 0), (Value.bool false), (Value.slice none 0 0)]) zero98 rfl ?_
 intro w99 b100 lo_b100 hi_b100 hB102 E101
 have z_w99 := E101.size
 have hB98 := hB98.keep0 E101
 have hb := below_step0 hb E101 hb.size
 refine op_assign rfl (reg_nil ?_)
 refine hK94 _ _ (seq_any fun K103 hK103 => one_reg (op_field fld39_1 (ev_hit hN rfl) (op_load1 (v := (Value.slice none 0 0)) one37 (ev_hit hN rfl) (hB98.cell rfl) (op_move (ev_base hN rfl s1) (op_fn (vs := [(Value.slice none 0 0), (Value.string (bs x)), (Value.func (.func 78) #[] #[])]) ok77 ⟨(ev_hit hN rfl), ⟨(ev_hit hN rfl), ⟨rfl, trivial⟩⟩⟩ (findView (L := ([] : List DVw)) x ((RdC.nil _ 0 0 _).mono (Nat.zero_le _) (by omega))) ?_)))))
 rintro _ w104 ⟨E105, rfl⟩
 have E105 := grown_of_below E105
 have z_w104 := E105.size
 have hB102 := hB102.keep0 E105
 have hb := below_step0 hb E105 hb.size
 refine op_assign (ev_hit hN rfl) (reg_nil (hK103 _ _ (seq_any fun K106 hK106 => seq_any fun K107 hK107 => ?_)))
 refine one_reg (op_move (ev_hit hN rfl) (op_lss (ev_hit hN rfl) rfl (fun c12 => ?_) (fun c12 => ?_)))
 ·
  refine reg_nil (hK107 _ _ (wp_cond_true (ev_hit hN rfl) (seq_any fun K108 hK108 => one_reg (op_build (pv := []) (v := (Value.agg #[(Value.string (bs [])), (Value.slice none 0 0), (Value.int .i64 0), (Value.string (bs [])), (Value.string (bs [])), (Value.slice none 0 0), (Value.slice none 0 0), (Value.slice none 0 0), (Value.slice none 0 0), (Value.string (bs [])), (Value.slice none 0 0), (Value.slice none 0 0), (Value.slice none 0 0), (Value.bool false), (Value.slice none 0 0)])) trivial (by kernel_rfl) ?_))))
  refine op_store (vs := [(Value.string (bs [])), (Value.slice none 0 0), (Value.int .i64 0), (Value.string (bs [])), (Value.string (bs [])), (Value.slice none 0 0), (Value.slice none 0 0), (Value.slice none 0 0), (Value.slice none 0 0), (Value.string (bs [])), (Value.slice none 0 0), (Value.slice none 0 0), (Value.slice none 0 0), (Value.bool false), (Value.slice none 0 0)]) (cs' := [(Value.string (bs [])), (Value.slice none 0 0), (Value.int .i64 0), (Value.string (bs [])), (Value.string (bs [])), (Value.slice none 0 0), (Value.slice none 0 0), (Value.slice none 0 0), (Value.slice none 0 0), (Value.string (bs [])), (Value.slice none 0 0), (Value.slice none 0 0), (Value.slice none 0 0), (Value.bool false), (Value.slice none 0 0)]) size98 (ev_hit hN rfl) (ev_hit hN rfl) rfl rfl rfl hB102 (Nat.le_of_ble_eq_true rfl) rfl ?_
  intro w111 hB102 E112
  have z_w111 := E112.size
  have hb := below_step1 hb E112 hb.size (by omega)
  refine op_assign rfl (reg_nil (hK108 _ _ (wp_ret (then_ret ( ?_)))))
  refine retN (rs := [.cell 4 98, .tmp 5]) (vs := [(Value.agg #[(Value.string (bs [])), (Value.slice none 0 0), (Value.int .i64 0), (Value.string (bs [])), (Value.string (bs [])), (Value.slice none 0 0), (Value.slice none 0 0), (Value.slice none 0 0), (Value.slice none 0 0), (Value.string (bs [])), (Value.slice none 0 0), (Value.slice none 0 0), (Value.slice none 0 0), (Value.bool false), (Value.slice none 0 0)]), (Value.bool false)]) rfl hd ⟨⟨_, (ev_hit hN rfl), run_loadA (cs := [(Value.string (bs [])), (Value.slice none 0 0), (Value.int .i64 0), (Value.string (bs [])), (Value.string (bs [])), (Value.slice none 0 0), (Value.slice none 0 0), (Value.slice none 0 0), (Value.slice none 0 0), (Value.string (bs [])), (Value.slice none 0 0), (Value.slice none 0 0), (Value.slice none 0 0), (Value.bool false), (Value.slice none 0 0)]) agg98 rfl (fun j u hu => by rw [Nat.zero_add]; exact hB102.cell hu)⟩, ⟨(ev_hit hN rfl), trivial⟩⟩ rfl ⟨_, rfl, ?_⟩
  exact ⟨hb, rfl⟩
 ·
  exact absurd (show (-1 : Int) < 0 by decide) c12
def CheckP (s : XS) : Prop := ∀ ⦃tv : Value⦄ ⦃D : List DTab⦄ ⦃w : World⦄, TsRd w w.heap.size tv D → D.length ≤ 1000000 → (∀ d ∈ D, d.t.cols.length ≤ 1000000 ∧ d.t.idx.length ≤ 1000000) → SRd w w.heap.size s →
  Ret Try.prog 19 #[.agg #[tv, .slice none 0 0], (Value.agg #[(Value.int .i64 s.f.kind), (Value.string (bs s.f.tb)), (Value.string (bs s.f.nm)), s.f.cv, s.f.gv, s.f.vv, s.f.iv, (Value.string (bs s.f.join)), s.f.ov, s.f.wv, s.f.rv, (Value.bool s.f.desc), s.nv])] w (fun v' w' => Below w.heap.size w w' ∧ v' = .int .i64 (checkE (D.map DTab.t) [] s))

theorem Check_in {tv : Value} {D : List DTab} (s : XS) {w : World} (ih : ∀ a ∈ s.inner, CheckP a) (hT : TsRd w w.heap.size tv D) (hD : D.length ≤ 1000000) (hsz : ∀ d ∈ D, d.t.cols.length ≤ 1000000 ∧ d.t.idx.length ≤ 1000000) (he : SRd w w.heap.size s) : Ret Try.prog 19 #[(Value.agg #[tv, (Value.slice none 0 0)]), (Value.agg #[(Value.int .i64 s.f.kind), (Value.string (bs s.f.tb)), (Value.string (bs s.f.nm)), s.f.cv, s.f.gv, s.f.vv, s.f.iv, (Value.string (bs s.f.join)), s.f.ov, s.f.wv, s.f.rv, (Value.bool s.f.desc), s.nv])] w (fun v' w' => Below w.heap.size w w' ∧ v' = .int .i64 (checkE (D.map DTab.t) [] s)) := by
 have hR := hT.1
 have hs := he.ff
 obtain ⟨hfc, hfg, hfv, hfi, hfo, hfw, hfr⟩ := hs
 have hfn := he.rd
 have hfvR := hfv.1
 have hfoR := hfo.1
 have hfwR := hfw.1
 have hfrR := hfr.1
 have hnall : SsRd w w.heap.size s.inner := he.all
 have hsz9 : ∀ t ∈ D.map DTab.t, t.cols.length ≤ 1000000 ∧ t.idx.length ≤ 1000000 := fun t ht => by obtain ⟨d, hd, rfl⟩ := List.mem_map.1 ht; exact hsz d hd
 have hb := Below.refl w.heap.size w
 refine enter (N := 69) Try.func19 rfl rfl (by simp) fun a0 hN hd hA => ?_
 have s0 : a0.tmps.getD 0 undef = (Value.agg #[tv, (Value.slice none 0 0)]) := hA 0 (by simp)
 have s1 : a0.tmps.getD 1 undef = (Value.agg #[(Value.int .i64 s.f.kind), (Value.string (bs s.f.tb)), (Value.string (bs s.f.nm)), s.f.cv, s.f.gv, s.f.vv, s.f.iv, (Value.string (bs s.f.join)), s.f.ov, s.f.wv, s.f.rv, (Value.bool s.f.desc), s.nv]) := hA 1 (by simp)
 clear hA
 refine seq_any fun K1 hK1 => one_reg (op_box (cs := [tv, (Value.slice none 0 0)]) (ev_base hN rfl s0) rfl ?_)
 intro w2 b3 lo_b3 hi_b3 hB5 E4
 have z_w2 := E4.size
 have hT := hT.keep0 E4
 have hR := hR.keep0 E4
 have hfv := hfv.keep0 E4
 have hfo := hfo.keep0 E4
 have hfw := hfw.keep0 E4
 have hfr := hfr.keep0 E4
 have hfi := hfi.keep0 E4
 have hfn := hfn.keep0 E4
 have hnall := hnall.keep0 E4
 have hb := below_step0 hb E4 hb.size
 refine op_box (cs := [(Value.int .i64 s.f.kind), (Value.string (bs s.f.tb)), (Value.string (bs s.f.nm)), s.f.cv, s.f.gv, s.f.vv, s.f.iv, (Value.string (bs s.f.join)), s.f.ov, s.f.wv, s.f.rv, (Value.bool s.f.desc), s.nv]) (ev_base hN rfl s1) rfl ?_
 intro w6 b7 lo_b7 hi_b7 hB9 E8
 have z_w6 := E8.size
 have hT := hT.keep0 E8
 have hR := hR.keep0 E8
 have hfv := hfv.keep0 E8
 have hfo := hfo.keep0 E8
 have hfw := hfw.keep0 E8
 have hfr := hfr.keep0 E8
 have hfi := hfi.keep0 E8
 have hfn := hfn.keep0 E8
 have hnall := hnall.keep0 E8
 have hB5 := hB5.keep0 E8
 have hb := below_step0 hb E8 hb.size
 refine op_assign rfl (reg_nil (hK1 _ _ (seq_any fun K10 hK10 => ?_)))
 refine seq_any fun K11 hK11 => one_reg (op_loadA (cs := [(Value.int .i64 s.f.kind), (Value.string (bs s.f.tb)), (Value.string (bs s.f.nm)), s.f.cv, s.f.gv, s.f.vv, s.f.iv, (Value.string (bs s.f.join)), s.f.ov, s.f.wv, s.f.rv, (Value.bool s.f.desc), s.nv]) agg45 rfl (ev_hit hN rfl) (fun j u hu => by rw [Nat.zero_add]; exact hB9.cell hu) ?_)
 refine op_fn (vs := [(Value.agg #[(Value.int .i64 s.f.kind), (Value.string (bs s.f.tb)), (Value.string (bs s.f.nm)), s.f.cv, s.f.gv, s.f.vv, s.f.iv, (Value.string (bs s.f.join)), s.f.ov, s.f.wv, s.f.rv, (Value.bool s.f.desc), s.nv])]) ok41 ⟨(ev_hit hN rfl), trivial⟩ (lists_ret hfv hfo hfw hfr hfn (by omega)) ?_
 rintro _ w12 ⟨E13, rfl⟩
 have E13 := grown_of_below E13
 have z_w12 := E13.size
 have hT := hT.keep0 E13
 have hR := hR.keep0 E13
 have hfv := hfv.keep0 E13
 have hfo := hfo.keep0 E13
 have hfw := hfw.keep0 E13
 have hfr := hfr.keep0 E13
 have hfi := hfi.keep0 E13
 have hfn := hfn.keep0 E13
 have hnall := hnall.keep0 E13
 have hB5 := hB5.keep0 E13
 have hB9 := hB9.keep0 E13
 have hb := below_step0 hb E13 hb.size
 rcases Bool.eq_false_or_eq_true ((listsOk s.f s.inner.length)) with c11 | c11
 ·
  rw [c11]
  refine op_not (ev_hit hN rfl) ?_
  refine reg_nil ?_
  refine hK11 _ _ (wp_cond_false (ev_hit hN rfl) (wp_skip (hK10 _ _ (seq_any fun K14 hK14 => one_reg (op_loadA (cs := [tv, (Value.slice none 0 0)]) agg39 rfl (ev_hit hN rfl) (fun j u hu => by rw [Nat.zero_add]; exact hB5.cell hu) ?_)))))
  refine op_build (pv := [(0, (Value.agg #[tv, (Value.slice none 0 0)]))]) (v := (Value.agg #[tv, (Value.slice none 0 0), (Value.slice none 0 0), (Value.slice none 0 0)])) ⟨rfl, (ev_hit hN rfl), trivial⟩ (by obtain ⟨_, _, _, rfl⟩ := hR.sl; kernel_rfl) ?_
  refine op_box (cs := [tv, (Value.slice none 0 0), (Value.slice none 0 0), (Value.slice none 0 0)]) (ev_hit hN rfl) rfl ?_
  intro w15 b16 lo_b16 hi_b16 hB18 E17
  have z_w15 := E17.size
  have hT := hT.keep0 E17
  have hfv := hfv.keep0 E17
  have hfo := hfo.keep0 E17
  have hfw := hfw.keep0 E17
  have hfr := hfr.keep0 E17
  have hfi := hfi.keep0 E17
  have hfn := hfn.keep0 E17
  have hnall := hnall.keep0 E17
  have hB5 := hB5.keep0 E17
  have hB9 := hB9.keep0 E17
  have hb := below_step0 hb E17 hb.size
  refine op_assign (ev_hit hN rfl) (reg_nil (hK14 _ _ (seq_any fun K19 hK19 => seq_any fun K20 hK20 => one_reg ?_)))
  have hL : LookR w15 w.heap.size b16 tv (.slice none 0 0) [] [] (fun y => y = b16 ∨ Bl (.slice none 0 0) y ∨ Bl (.slice none 0 0) y) := ⟨_, _, by omega, hB18, Own.nil _ _ _ _, Own.nil _ _ _ _, fun _ => Iff.rfl⟩
  generalize hFL : (fun y => y = b16 ∨ Bl (.slice none 0 0) y ∨ Bl (.slice none 0 0) y) = FL at hL
  have dj22 : ¬ FL b7 := fun h => by rw [← hFL] at h; exact h.elim (fun h => by omega) fun h => h.elim (fun h => (by cases h)) fun h => (by cases h)
  refine op_field fld45_0 (ev_hit hN rfl) (op_load1 (v := (Value.int .i64 s.f.kind)) one3 (ev_hit hN rfl) (hB9.cell rfl) (reg_nil (hK20 _ _ (wp_block ?_))))
  refine seq_any fun K23 hK23 => ?_
  refine one_reg (op_eql (ev_hit hN rfl) rfl (fun c19 => ?_) (fun c19 => ?_))
  ·
   refine op_assign (ev_hit hN rfl) ?_
   refine reg_nil (hK23 _ _ (wp_cond_true (ev_hit hN rfl) (seq_any fun K24 hK24 => one_reg (op_move (ev_hit hN rfl) (op_loadA (cs := [(Value.int .i64 s.f.kind), (Value.string (bs s.f.tb)), (Value.string (bs s.f.nm)), s.f.cv, s.f.gv, s.f.vv, s.f.iv, (Value.string (bs s.f.join)), s.f.ov, s.f.wv, s.f.rv, (Value.bool s.f.desc), s.nv]) agg45 rfl (ev_hit hN rfl) (fun j u hu => by rw [Nat.zero_add]; exact hB9.cell hu) ?_)))))
   refine op_fn (vs := [(ptr b16 0), (Value.agg #[(Value.int .i64 s.f.kind), (Value.string (bs s.f.tb)), (Value.string (bs s.f.nm)), s.f.cv, s.f.gv, s.f.vv, s.f.iv, (Value.string (bs s.f.join)), s.f.ov, s.f.wv, s.f.rv, (Value.bool s.f.desc), s.nv])]) ok42 ⟨(ev_hit hN rfl), ⟨(ev_hit hN rfl), trivial⟩⟩ (lkIns (f := s.f) (hT.mono (by omega)) hD hsz (by omega) hL (hfv.mono (by omega))) ?_
   rintro _ w25 ⟨E26, rfl⟩
   have hL_old := hL
   have z_w25 := E26.size
   have hnall := hnall.keepG E26 (fun k hk => .inr (by have := hL_old.lt k hk; omega))
   have hb := below_stepG hb E26 hb.size (fun k hk => (hL_old.lt k hk).1)
   refine op_assign (ev_hit hN rfl) (reg_nil (hK24 _ _ (wp_ret (blk_ret (then_ret ( ?_))))))
   refine ret1 rfl hd (ev_hit hN rfl) ⟨_, rfl, ?_⟩
   have e9 : checkE (D.map DTab.t) [] s = (match tabAt (D.map DTab.t) s.f.tb with | none => (9 : Int) | some t => insE t s.f) := (check_flat c11 (by omega)).trans (flat_ins c19)
   rw [e9]; exact ⟨hb, rfl⟩
  ·
   refine op_assign (ev_hit hN rfl) (reg_nil (hK23 _ _ (wp_cond_false (ev_hit hN rfl) (seq_any fun K27 hK27 => ?_))))
   refine one_reg (op_eql (ev_hit hN rfl) rfl (fun c24 => ?_) (fun c24 => ?_))
   ·
    refine op_assign (ev_hit hN rfl) ?_
    refine reg_nil (hK27 _ _ (wp_cond_true (ev_hit hN rfl) (seq_any fun K28 hK28 => one_reg (op_move (ev_hit hN rfl) (op_loadA (cs := [(Value.int .i64 s.f.kind), (Value.string (bs s.f.tb)), (Value.string (bs s.f.nm)), s.f.cv, s.f.gv, s.f.vv, s.f.iv, (Value.string (bs s.f.join)), s.f.ov, s.f.wv, s.f.rv, (Value.bool s.f.desc), s.nv]) agg45 rfl (ev_hit hN rfl) (fun j u hu => by rw [Nat.zero_add]; exact hB9.cell hu) ?_)))))
    refine op_fn (vs := [(ptr b16 0), (Value.agg #[(Value.int .i64 s.f.kind), (Value.string (bs s.f.tb)), (Value.string (bs s.f.nm)), s.f.cv, s.f.gv, s.f.vv, s.f.iv, (Value.string (bs s.f.join)), s.f.ov, s.f.wv, s.f.rv, (Value.bool s.f.desc), s.nv])]) ok43 ⟨(ev_hit hN rfl), ⟨(ev_hit hN rfl), trivial⟩⟩ (lkSel (f := s.f) (hT.mono (by omega)) hD hsz (by omega) hL (hfo.mono (by omega)) (hfw.mono (by omega)) (hfr.mono (by omega)) (hfi.mono (Nat.zero_le _) (by omega)) (lists_on c11 c24)) ?_
    rintro _ w29 ⟨E30, rfl⟩
    have hL_old := hL
    have z_w29 := E30.size
    have hnall := hnall.keepG E30 (fun k hk => .inr (by have := hL_old.lt k hk; omega))
    have hb := below_stepG hb E30 hb.size (fun k hk => (hL_old.lt k hk).1)
    refine op_assign (ev_hit hN rfl) (reg_nil (hK28 _ _ (wp_ret (blk_ret (then_ret ( ?_))))))
    refine ret1 rfl hd (ev_hit hN rfl) ⟨_, rfl, ?_⟩
    have e9 : checkE (D.map DTab.t) [] s = (selsE (D.map DTab.t) s.f) := (check_flat c11 (by omega)).trans (flat_sel c24)
    rw [e9]; exact ⟨hb, rfl⟩
   ·
    refine op_assign (ev_hit hN rfl) (reg_nil (hK27 _ _ (wp_cond_false (ev_hit hN rfl) (seq_any fun K31 hK31 => ?_))))
    refine one_reg (op_eql (ev_hit hN rfl) rfl (fun c29 => ?_) (fun c29 => ?_))
    ·
     refine op_assign (ev_hit hN rfl) ?_
     refine reg_nil (hK31 _ _ (wp_cond_true (ev_hit hN rfl) (seq_any fun K32 hK32 => one_reg (op_move (ev_hit hN rfl) (op_loadA (cs := [(Value.int .i64 s.f.kind), (Value.string (bs s.f.tb)), (Value.string (bs s.f.nm)), s.f.cv, s.f.gv, s.f.vv, s.f.iv, (Value.string (bs s.f.join)), s.f.ov, s.f.wv, s.f.rv, (Value.bool s.f.desc), s.nv]) agg45 rfl (ev_hit hN rfl) (fun j u hu => by rw [Nat.zero_add]; exact hB9.cell hu) ?_)))))
     refine op_fn (vs := [(ptr b16 0), (Value.agg #[(Value.int .i64 s.f.kind), (Value.string (bs s.f.tb)), (Value.string (bs s.f.nm)), s.f.cv, s.f.gv, s.f.vv, s.f.iv, (Value.string (bs s.f.join)), s.f.ov, s.f.wv, s.f.rv, (Value.bool s.f.desc), s.nv])]) ok44 ⟨(ev_hit hN rfl), ⟨(ev_hit hN rfl), trivial⟩⟩ (lkUpd (f := s.f) (hT.mono (by omega)) hD hsz (by omega) hL (hfv.mono (by omega)) (hfw.mono (by omega)) (lists_upd c11 c29)) ?_
     rintro _ w33 ⟨E34, rfl⟩
     have hL_old := hL
     have z_w33 := E34.size
     have hnall := hnall.keepG E34 (fun k hk => .inr (by have := hL_old.lt k hk; omega))
     have hb := below_stepG hb E34 hb.size (fun k hk => (hL_old.lt k hk).1)
     refine op_assign (ev_hit hN rfl) (reg_nil (hK32 _ _ (wp_ret (blk_ret (then_ret ( ?_))))))
     refine ret1 rfl hd (ev_hit hN rfl) ⟨_, rfl, ?_⟩
     have e9 : checkE (D.map DTab.t) [] s = (match tabAt (D.map DTab.t) s.f.tb with | none => (9 : Int) | some t => updE t s.f) := (check_flat c11 (by omega)).trans (flat_upd c29)
     rw [e9]; exact ⟨hb, rfl⟩
    ·
     refine op_assign (ev_hit hN rfl) (reg_nil (hK31 _ _ (wp_cond_false (ev_hit hN rfl) (seq_any fun K35 hK35 => ?_))))
     refine one_reg (op_eql (ev_hit hN rfl) rfl (fun c34 => ?_) (fun c34 => ?_))
     ·
      refine op_assign (ev_hit hN rfl) (reg_nil (hK35 _ _ ?_))
      refine wp_cond_true (ev_hit hN rfl) (seq_any fun K36 hK36 => seq_any fun K37 hK37 => one_reg (op_move (ev_hit hN rfl) (op_field fld45_1 (ev_hit hN rfl) (op_load1 (v := (Value.string (bs s.f.tb))) one9 (ev_hit hN rfl) (hB9.cell rfl) ?_))))
      rcases Bool.eq_false_or_eq_true ((tabAt (D.map DTab.t) s.f.tb).isSome) with k39 | k39
      ·
       refine op_fn (vs := [(ptr b16 0), (Value.string (bs s.f.tb))]) ok45 ⟨(ev_hit hN rfl), ⟨(ev_hit hN rfl), trivial⟩⟩ (lookTableT k39 (hT.mono (by omega)) hD hsz (by omega) hL (by simp) (by simp)) ?_
       rintro _ w39 ⟨E40, d38, rfl, ht38, hO38, hP38, F38, hL38, hN38⟩
       have bd43 := hB5.lt
       have bd44 := hB9.lt
       have hL_old := hL
       have z_w39 := E40.size
       have hfw := hfw.keepG E40 (fun k hk => .inr (by have := hL_old.lt k hk; omega))
       have hnall := hnall.keepG E40 (fun k hk => .inr (by have := hL_old.lt k hk; omega))
       have hB9 := hB9.keepG E40 dj22
       have hb := below_stepG hb E40 hb.size (fun k hk => (hL_old.lt k hk).1)
       have hO38 := hO38.mono (base' := w.heap.size) (by omega)
       have hP38 := hP38.mono (base' := w.heap.size) (by omega)
       refine op_move (ev_hit hN rfl) (op_extract (ev_hit hN rfl) rfl ?_)
       refine op_extract (ev_hit hN rfl) rfl ?_
       refine op_alloc (cs := [(Value.string (bs [])), (Value.slice none 0 0), (Value.slice none 0 0)]) zero55 rfl ?_
       intro w47 b48 lo_b48 hi_b48 hB50 E49
       have dj51 : ¬ F38 b48 := fun hf => by have := (hL38.lt _ hf).2; omega
       have z_w47 := E49.size
       have hfw := hfw.keep0 E49
       have hnall := hnall.keep0 E49
       have hB9 := hB9.keep0 E49
       have hL38 := hL38.kz E49
       have hO38 := hO38.keep0 E49
       have hP38 := hP38.keep0 E49
       have hb := below_step0 hb E49 hb.size
       have hB50_old := hB50
       refine op_store (vs := [(Value.string (bs d38.t.nm)), d38.cv, d38.iv]) (cs' := [(Value.string (bs d38.t.nm)), d38.cv, d38.iv]) size55 (ev_hit hN rfl) (ev_hit hN rfl) rfl rfl (by simp only [List.all_cons, List.all_nil, Bool.true_and, Bool.and_true, hO38.one, hP38.one]; try rfl) hB50 (Nat.le_of_ble_eq_true rfl) rfl ?_
       intro w54 hB50 E55
       have z_w54 := E55.size
       have hfw := hfw.keep E55 (fun k hk => .inr (by simp at hk; omega))
       have hnall := hnall.keep E55 (fun k hk => .inr (by simp at hk; omega))
       have hB9 := hB9.keep E55 (fun hh => hB9.ne hB50_old (by decide) (Option.some.inj hh))
       have hL38 := hL38.keepG (Gr.of E55) (Dj.one dj51)
       have hb := below_step1 hb E55 hb.size (by omega)
       refine op_assign (ev_hit hN rfl) (reg_nil (hK37 _ _ (seq_any fun K56 hK56 => one_reg (op_move (ev_hit hN rfl) (op_bin (v := .bool false) (ev_hit hN rfl) rfl (by rw [binOp_neq]; rfl) ?_)))))
       refine reg_nil (hK56 _ _ (wp_cond_false (ev_hit hN rfl) (wp_skip (hK36 _ _ (seq_any fun K57 hK57 => one_reg ?_)))))
       have hdl := (hsz9 _ (tab_mem ht38)).1
       have hcl9 : ([] ++ colsOf s.f.tb d38.t.cols).length = d38.t.cols.length := by rw [List.nil_append, cols_len]
       have hkl9 : ([] ++ kindsOf d38.t.cols).length = d38.t.cols.length := by rw [List.nil_append, kinds_len]
       refine op_move (ev_hit hN rfl) (op_field fld45_9 (ev_hit hN rfl) (op_load1 (v := s.f.wv) one26 (ev_hit hN rfl) (hB9.cell rfl) (op_fn (vs := [(ptr b16 0), s.f.wv]) ok46 ⟨(ev_hit hN rfl), ⟨(ev_hit hN rfl), trivial⟩⟩ (lkWhere (by omega) hL38 (by omega) (by omega) (hfw.mono (by omega))) ?_)))
       rintro _ w58 ⟨E59, rfl⟩
       have E59 := grown_of_below E59
       have z_w58 := E59.size
       have hnall := hnall.keep0 E59
       have hb := below_step0 hb E59 hb.size
       refine op_assign (ev_hit hN rfl) (reg_nil (hK57 _ _ (wp_ret (blk_ret (then_ret ( ?_))))))
       refine ret1 rfl hd (ev_hit hN rfl) ⟨_, rfl, ?_⟩
       have e9 : checkE (D.map DTab.t) [] s = (whereX (colsOf s.f.tb d38.t.cols) (kindsOf d38.t.cols) s.f.wh) := (check_flat c11 (by omega)).trans (flat_del c34 ht38)
       rw [e9]; exact ⟨hb, rfl⟩
      ·
       refine op_fn (vs := [(ptr b16 0), (Value.string (bs s.f.tb))]) ok45 ⟨(ev_hit hN rfl), ⟨(ev_hit hN rfl), trivial⟩⟩ (lookTableF k39 (hT.mono (by omega)) hD hsz (by omega) hL (by simp) (by simp)) ?_
       rintro _ w61 ⟨E62, rfl, F60, hL60, hN60⟩
       have bd63 := hB5.lt
       have bd64 := hB9.lt
       have hL_old := hL
       have z_w61 := E62.size
       have hnall := hnall.keepG E62 (fun k hk => .inr (by have := hL_old.lt k hk; omega))
       have hb := below_stepG hb E62 hb.size (fun k hk => (hL_old.lt k hk).1)
       refine op_move (ev_hit hN rfl) (op_extract (ev_hit hN rfl) rfl ?_)
       refine op_extract (ev_hit hN rfl) rfl ?_
       refine op_alloc (cs := [(Value.string (bs [])), (Value.slice none 0 0), (Value.slice none 0 0)]) zero55 rfl ?_
       intro w67 b68 lo_b68 hi_b68 hB70 E69
       have z_w67 := E69.size
       have hnall := hnall.keep0 E69
       have hb := below_step0 hb E69 hb.size
       refine op_store (vs := [(Value.string (bs [])), (Value.slice none 0 0), (Value.slice none 0 0)]) (cs' := [(Value.string (bs [])), (Value.slice none 0 0), (Value.slice none 0 0)]) size55 (ev_hit hN rfl) (ev_hit hN rfl) rfl rfl rfl hB70 (Nat.le_of_ble_eq_true rfl) rfl ?_
       intro w74 hB70 E75
       have z_w74 := E75.size
       have hnall := hnall.keep E75 (fun k hk => .inr (by simp at hk; omega))
       have hb := below_step1 hb E75 hb.size (by omega)
       refine op_assign (ev_hit hN rfl) (reg_nil (hK37 _ _ ?_))
       refine seq_any fun K76 hK76 => one_reg (op_move (ev_hit hN rfl) (op_bin (v := .bool true) (ev_hit hN rfl) rfl (by rw [binOp_neq]; rfl) (reg_nil (hK76 _ _ (wp_cond_true (ev_hit hN rfl) ?_)))))
       refine seq_any fun K77 hK77 => one_reg (op_move (ev_hit hN rfl) (op_assign (ev_hit hN rfl) (reg_nil (hK77 _ _ (wp_ret (then_ret (blk_ret (then_ret ( ?_)))))))))
       refine ret1 rfl hd (ev_hit hN rfl) ⟨_, rfl, ?_⟩
       have e9 : checkE (D.map DTab.t) [] s = 9 := (check_flat c11 (by omega)).trans (flat_del0 c34 k39)
       rw [e9]; exact ⟨hb, rfl⟩
     ·
      refine op_assign (ev_hit hN rfl) (reg_nil (hK35 _ _ (wp_cond_false (ev_hit hN rfl) (seq_any fun K78 hK78 => seq_any fun K79 hK79 => ?_))))
      refine one_reg (op_eql (ev_hit hN rfl) rfl (fun c50 => ?_) (fun c50 => ?_))
      ·
       refine op_assign (ev_hit hN rfl) ?_
       refine reg_nil (hK79 _ _ (wp_cond_true (ev_hit hN rfl) (wp_skip (hK78 _ _ (wp_cond_true (ev_hit hN rfl) (seq_any fun K80 hK80 => ?_))))))
       have hin := lists_in c11 (by omega)
       refine reg_quiet (Φ := phiL [(fun uz _ => uz = (Value.agg #[tv, (Value.slice none 0 0)])), (fun uz _ => uz = (ptr b7 12)), (fun uz _ => uz = s.nv), (fun uz w' => ∃ (b81 : (Nat)) (o82 : (Nat)), uz = (ptr b81 o82) ∧ PtC w' 0 w.heap.size b81 o82 [(Value.int .i64 (s.inner.getD 0 default).f.kind), (Value.string (bs (s.inner.getD 0 default).f.tb)), (Value.string (bs (s.inner.getD 0 default).f.nm)), (s.inner.getD 0 default).f.cv, (s.inner.getD 0 default).f.gv, (s.inner.getD 0 default).f.vv, (s.inner.getD 0 default).f.iv, (Value.string (bs (s.inner.getD 0 default).f.join)), (s.inner.getD 0 default).f.ov, (s.inner.getD 0 default).f.wv, (s.inner.getD 0 default).f.rv, (Value.bool (s.inner.getD 0 default).f.desc), (s.inner.getD 0 default).nv]), (fun uz _ => uz = (Value.agg #[(Value.int .i64 (s.inner.getD 0 default).f.kind), (Value.string (bs (s.inner.getD 0 default).f.tb)), (Value.string (bs (s.inner.getD 0 default).f.nm)), (s.inner.getD 0 default).f.cv, (s.inner.getD 0 default).f.gv, (s.inner.getD 0 default).f.vv, (s.inner.getD 0 default).f.iv, (Value.string (bs (s.inner.getD 0 default).f.join)), (s.inner.getD 0 default).f.ov, (s.inner.getD 0 default).f.wv, (s.inner.getD 0 default).f.rv, (Value.bool (s.inner.getD 0 default).f.desc), (s.inner.getD 0 default).nv])), (fun uz _ => uz = (Value.int .i64 (checkE (D.map DTab.t) [] (s.inner.getD 0 default)))), (fun uz _ => uz = (Value.int .i64 (checkE (D.map DTab.t) [] (s.inner.getD 0 default))))]) mixed (by kernel_rfl) (by kernel_rfl) (by kernel_rfl) hN (StL.get (StL.eq (StL.eq (StL.eq (StL.cons (fun u w1 w2 E h => by obtain ⟨x0, x1, hv, f0⟩ := h; exact ⟨x0, x1, hv, f0.keep0 E⟩) (StL.eq (StL.eq (StL.eq (StL.nil _))))))))) (ObL.get (s := 7) (ObL.cons ?_ (ObL.cons ?_ (ObL.cons ?_ (ObL.cons ?_ (ObL.cons ?_ (ObL.cons ?_ (ObL.cons ?_ (ObL.nil)))))))) rfl) ?_
       ·
        intro aA wA hNA hRA hbsA hdpA
        have hRA : w15.grownBy wA none := hRA
        have z_wA := hRA.size
        have hnall := hnall.keep0 hRA
        have hB5 := hB5.keep0 hRA
        have qA_2 := (hbsA 2 rfl).trans (sl_hit hN rfl)
        clear hbsA hdpA
        refine op_loadA (cs := [tv, (Value.slice none 0 0)]) agg39 rfl (ev_base hNA rfl qA_2) (fun j u hu => by rw [Nat.zero_add]; exact hB5.cell hu) ?_
        exact obN_end rfl rfl (grown_refl _ _)
       ·
        intro aA wA hNA hRA hbsA hdpA
        have qA_3 := (hbsA 3 rfl).trans (sl_hit hN rfl)
        refine op_field fld45_12 (ev_base hNA rfl qA_3) ?_
        exact obN_end rfl rfl (grown_refl _ _)
       ·
        intro aA wA hNA hRA hbsA hdpA
        have hRA : w15.grownBy wA none := hRA
        have z_wA := hRA.size
        have hnall := hnall.keep0 hRA
        have hB9 := hB9.keep0 hRA
        have qA_53 : Sl aA 53 (ptr b7 12) := hdpA 1 _ 53 (by kernel_rfl) rfl rfl
        clear hbsA hdpA
        refine op_load1 (v := s.nv) one43 (ev_base hNA rfl qA_53) (hB9.cell rfl) ?_
        exact obN_end rfl rfl (grown_refl _ _)
       ·
        intro aA wA hNA hRA hbsA hdpA
        have hRA : w15.grownBy wA none := hRA
        have z_wA := hRA.size
        have hfn := hfn.keep0 hRA
        have hnall := hnall.keep0 hRA
        have qA_54 : Sl aA 54 s.nv := hdpA 2 _ 54 (by kernel_rfl) rfl rfl
        clear hbsA hdpA
        refine op_index_rd slt43 (ev_base hNA rfl qA_54) hfn rfl (by omega) (by omega) ?_
        intro b81 o82 h0b81 h1b81 hc83
        have hp84 : PtC wA 0 w.heap.size b81 o82 [(Value.int .i64 (s.inner.getD 0 default).f.kind), (Value.string (bs (s.inner.getD 0 default).f.tb)), (Value.string (bs (s.inner.getD 0 default).f.nm)), (s.inner.getD 0 default).f.cv, (s.inner.getD 0 default).f.gv, (s.inner.getD 0 default).f.vv, (s.inner.getD 0 default).f.iv, (Value.string (bs (s.inner.getD 0 default).f.join)), (s.inner.getD 0 default).f.ov, (s.inner.getD 0 default).f.wv, (s.inner.getD 0 default).f.rv, (Value.bool (s.inner.getD 0 default).f.desc), (s.inner.getD 0 default).nv] := ⟨by omega, by omega, fun j u hu => hc83 j u (by have := (List.getElem?_eq_some_iff.1 hu).1; simpa using this) ((el_xs (i := 0) (by omega) (by omega)) j u hu)⟩
        exact obN_end rfl ⟨b81, o82, rfl, hp84⟩ (grown_refl _ _)
       ·
        intro aA wA hNA hRA hbsA hdpA
        have hRA : w15.grownBy wA none := hRA
        have z_wA := hRA.size
        have hnall := hnall.keep0 hRA
        obtain ⟨b81, o82, qA_55, hp84⟩ := hdpA 3 _ 55 (by kernel_rfl) rfl rfl
        have hp84 : PtC wA 0 w.heap.size b81 o82 [(Value.int .i64 (s.inner.getD 0 default).f.kind), (Value.string (bs (s.inner.getD 0 default).f.tb)), (Value.string (bs (s.inner.getD 0 default).f.nm)), (s.inner.getD 0 default).f.cv, (s.inner.getD 0 default).f.gv, (s.inner.getD 0 default).f.vv, (s.inner.getD 0 default).f.iv, (Value.string (bs (s.inner.getD 0 default).f.join)), (s.inner.getD 0 default).f.ov, (s.inner.getD 0 default).f.wv, (s.inner.getD 0 default).f.rv, (Value.bool (s.inner.getD 0 default).f.desc), (s.inner.getD 0 default).nv] := hp84
        clear hbsA hdpA
        refine op_loadA (cs := [(Value.int .i64 (s.inner.getD 0 default).f.kind), (Value.string (bs (s.inner.getD 0 default).f.tb)), (Value.string (bs (s.inner.getD 0 default).f.nm)), (s.inner.getD 0 default).f.cv, (s.inner.getD 0 default).f.gv, (s.inner.getD 0 default).f.vv, (s.inner.getD 0 default).f.iv, (Value.string (bs (s.inner.getD 0 default).f.join)), (s.inner.getD 0 default).f.ov, (s.inner.getD 0 default).f.wv, (s.inner.getD 0 default).f.rv, (Value.bool (s.inner.getD 0 default).f.desc), (s.inner.getD 0 default).nv]) agg45 rfl (ev_base hNA rfl qA_55) (fun j u hu => hp84.2.2 j u hu) ?_
        exact obN_end rfl rfl (grown_refl _ _)
       ·
        intro aA wA hNA hRA hbsA hdpA
        have hRA : w15.grownBy wA none := hRA
        have z_wA := hRA.size
        have hT := hT.keep0 hRA
        have hnall := hnall.keep0 hRA
        have qA_52 : Sl aA 52 (Value.agg #[tv, (Value.slice none 0 0)]) := hdpA 0 _ 52 (by kernel_rfl) rfl rfl
        have qA_56 : Sl aA 56 (Value.agg #[(Value.int .i64 (s.inner.getD 0 default).f.kind), (Value.string (bs (s.inner.getD 0 default).f.tb)), (Value.string (bs (s.inner.getD 0 default).f.nm)), (s.inner.getD 0 default).f.cv, (s.inner.getD 0 default).f.gv, (s.inner.getD 0 default).f.vv, (s.inner.getD 0 default).f.iv, (Value.string (bs (s.inner.getD 0 default).f.join)), (s.inner.getD 0 default).f.ov, (s.inner.getD 0 default).f.wv, (s.inner.getD 0 default).f.rv, (Value.bool (s.inner.getD 0 default).f.desc), (s.inner.getD 0 default).nv]) := hdpA 4 _ 56 (by kernel_rfl) rfl rfl
        clear hbsA hdpA
        refine op_fn (vs := [(Value.agg #[tv, (Value.slice none 0 0)]), (Value.agg #[(Value.int .i64 (s.inner.getD 0 default).f.kind), (Value.string (bs (s.inner.getD 0 default).f.tb)), (Value.string (bs (s.inner.getD 0 default).f.nm)), (s.inner.getD 0 default).f.cv, (s.inner.getD 0 default).f.gv, (s.inner.getD 0 default).f.vv, (s.inner.getD 0 default).f.iv, (Value.string (bs (s.inner.getD 0 default).f.join)), (s.inner.getD 0 default).f.ov, (s.inner.getD 0 default).f.wv, (s.inner.getD 0 default).f.rv, (Value.bool (s.inner.getD 0 default).f.desc), (s.inner.getD 0 default).nv])]) ok19 ⟨(ev_base hNA rfl qA_52), ⟨(ev_base hNA rfl qA_56), trivial⟩⟩ (ih _ (getD_mem (by omega)) (hT.mono (by omega)) hD hsz ((hnall _ (getD_mem (by omega))).mono (by omega))) ?_
        rintro _ w85 ⟨E86, rfl⟩
        have E86 := grown_of_below E86
        have z_w85 := E86.size
        have hnall := hnall.keep0 E86
        exact obN_end rfl rfl (E86)
       ·
        intro aA wA hNA hRA hbsA hdpA
        have qA_57 : Sl aA 57 (Value.int .i64 (checkE (D.map DTab.t) [] (s.inner.getD 0 default))) := hdpA 5 _ 57 (by kernel_rfl) rfl rfl
        refine op_assign (ev_base hNA rfl qA_57) ?_
        exact obN_end rfl rfl (grown_refl _ _)
       ·
        intro a87 w87 hN87 hd87 hbs87 hph87 E87
        have hd87 := hd87.trans hd
        have s87_4 : Sl a87 4 (Value.int .i64 (checkE (D.map DTab.t) [] (s.inner.getD 0 default))) := hph87 6 _ 4 rfl rfl
        clear hbs87 hph87
        have E87 : w15.grownBy w87 none := E87
        have z_w87 := E87.size
        have hnall := hnall.keep0 E87
        have hb := below_step0 hb E87 hb.size
        refine hK80 _ _ (wp_ret (blk_ret (then_ret ( ?_))))
        refine ret1 rfl hd87 (ev_base hN87 rfl s87_4) ⟨_, rfl, ?_⟩
        have e9 : checkE (D.map DTab.t) [] s = (checkE (D.map DTab.t) [] (s.inner.getD 0 default)) := check_in c11 (by omega)
        rw [e9]; exact ⟨hb, rfl⟩
      ·
       refine op_assign (ev_hit hN rfl) (reg_nil (hK79 _ _ (wp_cond_false (ev_hit hN rfl) (one_reg (op_eql (ev_hit hN rfl) rfl (fun c51 => ?_) (fun c51 => ?_))))))
       ·
        refine op_assign (ev_hit hN rfl) (reg_nil (hK78 _ _ (wp_cond_true (ev_hit hN rfl) (seq_any fun K88 hK88 => ?_))))
        have hin := lists_in c11 (by omega)
        refine reg_quiet (Φ := phiL [(fun uz _ => uz = (Value.agg #[tv, (Value.slice none 0 0)])), (fun uz _ => uz = (ptr b7 12)), (fun uz _ => uz = s.nv), (fun uz w' => ∃ (b89 : (Nat)) (o90 : (Nat)), uz = (ptr b89 o90) ∧ PtC w' 0 w.heap.size b89 o90 [(Value.int .i64 (s.inner.getD 0 default).f.kind), (Value.string (bs (s.inner.getD 0 default).f.tb)), (Value.string (bs (s.inner.getD 0 default).f.nm)), (s.inner.getD 0 default).f.cv, (s.inner.getD 0 default).f.gv, (s.inner.getD 0 default).f.vv, (s.inner.getD 0 default).f.iv, (Value.string (bs (s.inner.getD 0 default).f.join)), (s.inner.getD 0 default).f.ov, (s.inner.getD 0 default).f.wv, (s.inner.getD 0 default).f.rv, (Value.bool (s.inner.getD 0 default).f.desc), (s.inner.getD 0 default).nv]), (fun uz _ => uz = (Value.agg #[(Value.int .i64 (s.inner.getD 0 default).f.kind), (Value.string (bs (s.inner.getD 0 default).f.tb)), (Value.string (bs (s.inner.getD 0 default).f.nm)), (s.inner.getD 0 default).f.cv, (s.inner.getD 0 default).f.gv, (s.inner.getD 0 default).f.vv, (s.inner.getD 0 default).f.iv, (Value.string (bs (s.inner.getD 0 default).f.join)), (s.inner.getD 0 default).f.ov, (s.inner.getD 0 default).f.wv, (s.inner.getD 0 default).f.rv, (Value.bool (s.inner.getD 0 default).f.desc), (s.inner.getD 0 default).nv])), (fun uz _ => uz = (Value.int .i64 (checkE (D.map DTab.t) [] (s.inner.getD 0 default)))), (fun uz _ => uz = (Value.int .i64 (checkE (D.map DTab.t) [] (s.inner.getD 0 default))))]) mixed (by kernel_rfl) (by kernel_rfl) (by kernel_rfl) hN (StL.get (StL.eq (StL.eq (StL.eq (StL.cons (fun u w1 w2 E h => by obtain ⟨x0, x1, hv, f0⟩ := h; exact ⟨x0, x1, hv, f0.keep0 E⟩) (StL.eq (StL.eq (StL.eq (StL.nil _))))))))) (ObL.get (s := 7) (ObL.cons ?_ (ObL.cons ?_ (ObL.cons ?_ (ObL.cons ?_ (ObL.cons ?_ (ObL.cons ?_ (ObL.cons ?_ (ObL.nil)))))))) rfl) ?_
        ·
         intro aA wA hNA hRA hbsA hdpA
         have hRA : w15.grownBy wA none := hRA
         have z_wA := hRA.size
         have hnall := hnall.keep0 hRA
         have hB5 := hB5.keep0 hRA
         have qA_2 := (hbsA 2 rfl).trans (sl_hit hN rfl)
         clear hbsA hdpA
         refine op_loadA (cs := [tv, (Value.slice none 0 0)]) agg39 rfl (ev_base hNA rfl qA_2) (fun j u hu => by rw [Nat.zero_add]; exact hB5.cell hu) ?_
         exact obN_end rfl rfl (grown_refl _ _)
        ·
         intro aA wA hNA hRA hbsA hdpA
         have qA_3 := (hbsA 3 rfl).trans (sl_hit hN rfl)
         refine op_field fld45_12 (ev_base hNA rfl qA_3) ?_
         exact obN_end rfl rfl (grown_refl _ _)
        ·
         intro aA wA hNA hRA hbsA hdpA
         have hRA : w15.grownBy wA none := hRA
         have z_wA := hRA.size
         have hnall := hnall.keep0 hRA
         have hB9 := hB9.keep0 hRA
         have qA_53 : Sl aA 53 (ptr b7 12) := hdpA 1 _ 53 (by kernel_rfl) rfl rfl
         clear hbsA hdpA
         refine op_load1 (v := s.nv) one43 (ev_base hNA rfl qA_53) (hB9.cell rfl) ?_
         exact obN_end rfl rfl (grown_refl _ _)
        ·
         intro aA wA hNA hRA hbsA hdpA
         have hRA : w15.grownBy wA none := hRA
         have z_wA := hRA.size
         have hfn := hfn.keep0 hRA
         have hnall := hnall.keep0 hRA
         have qA_54 : Sl aA 54 s.nv := hdpA 2 _ 54 (by kernel_rfl) rfl rfl
         clear hbsA hdpA
         refine op_index_rd slt43 (ev_base hNA rfl qA_54) hfn rfl (by omega) (by omega) ?_
         intro b89 o90 h0b89 h1b89 hc91
         have hp92 : PtC wA 0 w.heap.size b89 o90 [(Value.int .i64 (s.inner.getD 0 default).f.kind), (Value.string (bs (s.inner.getD 0 default).f.tb)), (Value.string (bs (s.inner.getD 0 default).f.nm)), (s.inner.getD 0 default).f.cv, (s.inner.getD 0 default).f.gv, (s.inner.getD 0 default).f.vv, (s.inner.getD 0 default).f.iv, (Value.string (bs (s.inner.getD 0 default).f.join)), (s.inner.getD 0 default).f.ov, (s.inner.getD 0 default).f.wv, (s.inner.getD 0 default).f.rv, (Value.bool (s.inner.getD 0 default).f.desc), (s.inner.getD 0 default).nv] := ⟨by omega, by omega, fun j u hu => hc91 j u (by have := (List.getElem?_eq_some_iff.1 hu).1; simpa using this) ((el_xs (i := 0) (by omega) (by omega)) j u hu)⟩
         exact obN_end rfl ⟨b89, o90, rfl, hp92⟩ (grown_refl _ _)
        ·
         intro aA wA hNA hRA hbsA hdpA
         have hRA : w15.grownBy wA none := hRA
         have z_wA := hRA.size
         have hnall := hnall.keep0 hRA
         obtain ⟨b89, o90, qA_55, hp92⟩ := hdpA 3 _ 55 (by kernel_rfl) rfl rfl
         have hp92 : PtC wA 0 w.heap.size b89 o90 [(Value.int .i64 (s.inner.getD 0 default).f.kind), (Value.string (bs (s.inner.getD 0 default).f.tb)), (Value.string (bs (s.inner.getD 0 default).f.nm)), (s.inner.getD 0 default).f.cv, (s.inner.getD 0 default).f.gv, (s.inner.getD 0 default).f.vv, (s.inner.getD 0 default).f.iv, (Value.string (bs (s.inner.getD 0 default).f.join)), (s.inner.getD 0 default).f.ov, (s.inner.getD 0 default).f.wv, (s.inner.getD 0 default).f.rv, (Value.bool (s.inner.getD 0 default).f.desc), (s.inner.getD 0 default).nv] := hp92
         clear hbsA hdpA
         refine op_loadA (cs := [(Value.int .i64 (s.inner.getD 0 default).f.kind), (Value.string (bs (s.inner.getD 0 default).f.tb)), (Value.string (bs (s.inner.getD 0 default).f.nm)), (s.inner.getD 0 default).f.cv, (s.inner.getD 0 default).f.gv, (s.inner.getD 0 default).f.vv, (s.inner.getD 0 default).f.iv, (Value.string (bs (s.inner.getD 0 default).f.join)), (s.inner.getD 0 default).f.ov, (s.inner.getD 0 default).f.wv, (s.inner.getD 0 default).f.rv, (Value.bool (s.inner.getD 0 default).f.desc), (s.inner.getD 0 default).nv]) agg45 rfl (ev_base hNA rfl qA_55) (fun j u hu => hp92.2.2 j u hu) ?_
         exact obN_end rfl rfl (grown_refl _ _)
        ·
         intro aA wA hNA hRA hbsA hdpA
         have hRA : w15.grownBy wA none := hRA
         have z_wA := hRA.size
         have hT := hT.keep0 hRA
         have hnall := hnall.keep0 hRA
         have qA_52 : Sl aA 52 (Value.agg #[tv, (Value.slice none 0 0)]) := hdpA 0 _ 52 (by kernel_rfl) rfl rfl
         have qA_56 : Sl aA 56 (Value.agg #[(Value.int .i64 (s.inner.getD 0 default).f.kind), (Value.string (bs (s.inner.getD 0 default).f.tb)), (Value.string (bs (s.inner.getD 0 default).f.nm)), (s.inner.getD 0 default).f.cv, (s.inner.getD 0 default).f.gv, (s.inner.getD 0 default).f.vv, (s.inner.getD 0 default).f.iv, (Value.string (bs (s.inner.getD 0 default).f.join)), (s.inner.getD 0 default).f.ov, (s.inner.getD 0 default).f.wv, (s.inner.getD 0 default).f.rv, (Value.bool (s.inner.getD 0 default).f.desc), (s.inner.getD 0 default).nv]) := hdpA 4 _ 56 (by kernel_rfl) rfl rfl
         clear hbsA hdpA
         refine op_fn (vs := [(Value.agg #[tv, (Value.slice none 0 0)]), (Value.agg #[(Value.int .i64 (s.inner.getD 0 default).f.kind), (Value.string (bs (s.inner.getD 0 default).f.tb)), (Value.string (bs (s.inner.getD 0 default).f.nm)), (s.inner.getD 0 default).f.cv, (s.inner.getD 0 default).f.gv, (s.inner.getD 0 default).f.vv, (s.inner.getD 0 default).f.iv, (Value.string (bs (s.inner.getD 0 default).f.join)), (s.inner.getD 0 default).f.ov, (s.inner.getD 0 default).f.wv, (s.inner.getD 0 default).f.rv, (Value.bool (s.inner.getD 0 default).f.desc), (s.inner.getD 0 default).nv])]) ok19 ⟨(ev_base hNA rfl qA_52), ⟨(ev_base hNA rfl qA_56), trivial⟩⟩ (ih _ (getD_mem (by omega)) (hT.mono (by omega)) hD hsz ((hnall _ (getD_mem (by omega))).mono (by omega))) ?_
         rintro _ w93 ⟨E94, rfl⟩
         have E94 := grown_of_below E94
         have z_w93 := E94.size
         have hnall := hnall.keep0 E94
         exact obN_end rfl rfl (E94)
        ·
         intro aA wA hNA hRA hbsA hdpA
         have qA_57 : Sl aA 57 (Value.int .i64 (checkE (D.map DTab.t) [] (s.inner.getD 0 default))) := hdpA 5 _ 57 (by kernel_rfl) rfl rfl
         refine op_assign (ev_base hNA rfl qA_57) ?_
         exact obN_end rfl rfl (grown_refl _ _)
        ·
         intro a95 w95 hN95 hd95 hbs95 hph95 E95
         have hd95 := hd95.trans hd
         have s95_4 : Sl a95 4 (Value.int .i64 (checkE (D.map DTab.t) [] (s.inner.getD 0 default))) := hph95 6 _ 4 rfl rfl
         clear hbs95 hph95
         have E95 : w15.grownBy w95 none := E95
         have z_w95 := E95.size
         have hnall := hnall.keep0 E95
         have hb := below_step0 hb E95 hb.size
         refine hK88 _ _ (wp_ret (blk_ret (then_ret ( ?_))))
         refine ret1 rfl hd95 (ev_base hN95 rfl s95_4) ⟨_, rfl, ?_⟩
         have e9 : checkE (D.map DTab.t) [] s = (checkE (D.map DTab.t) [] (s.inner.getD 0 default)) := check_in c11 (by omega)
         rw [e9]; exact ⟨hb, rfl⟩
       ·
        refine op_assign (ev_hit hN rfl) (reg_nil (hK78 _ _ (wp_cond_false (ev_hit hN rfl) (seq_any fun K96 hK96 => ?_))))
        refine one_reg (op_eql (ev_hit hN rfl) rfl (fun c59 => ?_) (fun c59 => ?_))
        ·
         refine op_assign (ev_hit hN rfl) (reg_nil (hK96 _ _ (wp_cond_true (ev_hit hN rfl) (seq_any fun K97 hK97 => one_reg (op_loadA (cs := [tv, (Value.slice none 0 0)]) agg39 rfl (ev_hit hN rfl) (fun j u hu => by rw [Nat.zero_add]; exact hB5.cell hu) ?_)))))
         refine op_field fld45_2 (ev_hit hN rfl) (op_load1 (v := (Value.string (bs s.f.nm))) one9 (ev_hit hN rfl) (hB9.cell rfl) (op_fn (vs := [(Value.agg #[tv, (Value.slice none 0 0)]), (Value.string (bs s.f.nm))]) ok47 ⟨(ev_hit hN rfl), ⟨(ev_hit hN rfl), trivial⟩⟩ (View0 tv s.f.nm _) ?_))
         rintro _ w98 ⟨E99, rfl⟩
         have E99 := grown_of_below E99
         have z_w98 := E99.size
         have hnall := hnall.keep0 E99
         have hb := below_step0 hb E99 hb.size
         refine op_move (ev_hit hN rfl) (op_extract (ev_hit hN rfl) rfl ?_)
         refine op_extract (ev_hit hN rfl) rfl ?_
         refine op_alloc (cs := [(Value.string (bs [])), (Value.slice none 0 0), (Value.int .i64 0), (Value.string (bs [])), (Value.string (bs [])), (Value.slice none 0 0), (Value.slice none 0 0), (Value.slice none 0 0), (Value.slice none 0 0), (Value.string (bs [])), (Value.slice none 0 0), (Value.slice none 0 0), (Value.slice none 0 0), (Value.bool false), (Value.slice none 0 0)]) zero98 rfl ?_
         intro w100 b101 lo_b101 hi_b101 hB103 E102
         have z_w100 := E102.size
         have hnall := hnall.keep0 E102
         have hb := below_step0 hb E102 hb.size
         refine op_store (vs := [(Value.string (bs [])), (Value.slice none 0 0), (Value.int .i64 0), (Value.string (bs [])), (Value.string (bs [])), (Value.slice none 0 0), (Value.slice none 0 0), (Value.slice none 0 0), (Value.slice none 0 0), (Value.string (bs [])), (Value.slice none 0 0), (Value.slice none 0 0), (Value.slice none 0 0), (Value.bool false), (Value.slice none 0 0)]) (cs' := [(Value.string (bs [])), (Value.slice none 0 0), (Value.int .i64 0), (Value.string (bs [])), (Value.string (bs [])), (Value.slice none 0 0), (Value.slice none 0 0), (Value.slice none 0 0), (Value.slice none 0 0), (Value.string (bs [])), (Value.slice none 0 0), (Value.slice none 0 0), (Value.slice none 0 0), (Value.bool false), (Value.slice none 0 0)]) size98 (ev_hit hN rfl) (ev_hit hN rfl) rfl rfl rfl hB103 (Nat.le_of_ble_eq_true rfl) rfl ?_
         intro w107 hB103 E108
         have z_w107 := E108.size
         have hnall := hnall.keep E108 (fun k hk => .inr (by simp at hk; omega))
         have hb := below_step1 hb E108 hb.size (by omega)
         refine op_assign (ev_hit hN rfl) (reg_nil (hK97 _ _ (seq_any fun K109 hK109 => one_reg (op_move (ev_hit hN rfl) (op_not (ev_hit hN rfl) ?_)))))
         refine reg_nil (hK109 _ _ ?_)
         refine wp_cond_true (ev_hit hN rfl) (seq_any fun K110 hK110 => one_reg (op_assign rfl (reg_nil (hK110 _ _ (wp_ret (blk_ret (then_ret ( ?_))))))))
         refine ret1 rfl hd (ev_hit hN rfl) ⟨_, rfl, ?_⟩
         have e9 : checkE (D.map DTab.t) [] s = 22 := (check_flat c11 (by omega)).trans (flat_call c59)
         rw [e9]; exact ⟨hb, rfl⟩
        ·
         refine op_assign (ev_hit hN rfl) (reg_nil (hK96 _ _ (wp_cond_false (ev_hit hN rfl) (wp_skip ?_))))
         refine hK19 _ _ (seq_any fun K111 hK111 => one_reg (op_assign rfl (reg_nil (hK111 _ _ (wp_ret ?_)))))
         refine ret1 rfl hd (ev_hit hN rfl) ⟨_, rfl, ?_⟩
         have e9 : checkE (D.map DTab.t) [] s = 0 := (check_flat c11 (by omega)).trans (flat_else (by omega))
         rw [e9]; exact ⟨hb, rfl⟩
 ·
  rw [c11]
  refine op_not (ev_hit hN rfl) ?_
  refine reg_nil (hK11 _ _ ?_)
  refine wp_cond_true (ev_hit hN rfl) (seq_any fun K112 hK112 => one_reg (op_assign rfl (reg_nil (hK112 _ _ (wp_ret (then_ret ( ?_)))))))
  refine ret1 rfl hd (ev_hit hN rfl) ⟨_, rfl, ?_⟩
  have e9 : checkE (D.map DTab.t) [] s = 1 := check_bad c11
  rw [e9]; exact ⟨hb, rfl⟩

theorem Check_all : ∀ s, CheckP s := XS.ind fun s ih tv D w hT hD hsz he => Check_in s ih hT hD hsz he
end Go.Proofs.Ythflnkfghogaoaa

namespace Go.Gx
section
variable {w w' : World} {B b : Nat} {e e2 : XE} {v : Value}
theorem XRd.bare (hv : e.av = .slice none 0 0) (ha : e.args = []) : XRd w B e := .mk (by rw [hv, ha]; exact RdC.nil _ _ _ _) (by rw [ha]; exact fun _ h => (by cases h))
theorem XsRd.lit1 (hx : Bx w b 28 (cellsX e)) (hb : b < B) (he : XRd w B e) : XsRd w B (.slice (some ⟨b, 0, none⟩) 1 1) [e] :=
  ⟨((RdC.ofBx (sz := 7) (n := 1) hx rfl (by decide)).mono (Nat.zero_le _) hb).cast rfl (List.append_nil _).symm, fun a ha => by rw [List.mem_singleton] at ha; subst ha; exact he⟩
theorem XsRd.lit2 (hx : Bx w b 28 (cellsX e ++ cellsX e2)) (hb : b < B) (he : XRd w B e) (he2 : XRd w B e2) : XsRd w B (.slice (some ⟨b, 0, none⟩) 2 2) [e, e2] :=
  ⟨((RdC.ofBx (sz := 7) (n := 2) hx rfl (by decide)).mono (Nat.zero_le _) hb).cast rfl (by simp), fun a ha => by
    rcases List.mem_cons.1 ha with rfl | ha
    · exact he
    · rw [List.mem_singleton] at ha; subst ha; exact he2⟩
theorem rd_cols3 {c1 c2 c3 : PCol} (hx : Bx w b 68 (cellsC c1 ++ cellsC c2 ++ cellsC c3)) (hb : b < B) : RdC w 0 B 3 (.slice (some ⟨b, 0, none⟩) 3 3) [c1, c2, c3].length ([c1, c2, c3].flatMap cellsC) :=
  ((RdC.ofBx (sz := 3) (n := 3) hx rfl (by decide)).mono (Nat.zero_le _) hb).cast rfl (by simp)
theorem rd_str1 {x : List UInt8} (hx : Bx w b 9 [.string (bs x)]) (hb : b < B) : RdC w 0 B 1 (.slice (some ⟨b, 0, none⟩) 1 1) [x].length ([x].map sv) :=
  ((RdC.ofBx (sz := 1) (n := 1) hx rfl (by decide)).mono (Nat.zero_le _) hb).cast rfl rfl
end
def tabT : PTab := ⟨[116], [⟨[107], 1, []⟩, ⟨[118], 2, []⟩, ⟨[110], 1, []⟩], [[110]]⟩
def tabU : PTab := ⟨[117], [⟨[107], 2, []⟩, ⟨[114], 1, [116]⟩, ⟨[110], 1, []⟩], []⟩
def schT : List PTab := [tabT, tabU]
theorem sch_mk {w : World} {B b1 b2 b3 b4 : Nat} (h1 : Bx w b1 68 [.string (bs [107]), .int .i64 1, .string (bs []), .string (bs [118]), .int .i64 2, .string (bs []), .string (bs [110]), .int .i64 1, .string (bs [])]) (h2 : Bx w b2 9 [.string (bs [110])])
    (h3 : Bx w b3 68 [.string (bs [107]), .int .i64 2, .string (bs []), .string (bs [114]), .int .i64 1, .string (bs [116]), .string (bs [110]), .int .i64 1, .string (bs [])])
    (h4 : Bx w b4 55 [.string (bs [116]), .slice (some ⟨b1, 0, none⟩) 3 3, .slice (some ⟨b2, 0, none⟩) 1 1, .string (bs [117]), .slice (some ⟨b3, 0, none⟩) 3 3, .slice none 0 0]) (g1 : b1 < B) (g2 : b2 < B) (g3 : b3 < B) (g4 : b4 < B) :
    ∃ D : List DTab, D.map DTab.t = schT ∧ TsRd w B (.slice (some ⟨b4, 0, none⟩) 2 2) D :=
  ⟨[⟨tabT, .slice (some ⟨b1, 0, none⟩) 3 3, .slice (some ⟨b2, 0, none⟩) 1 1⟩, ⟨tabU, .slice (some ⟨b3, 0, none⟩) 3 3, .slice none 0 0⟩], rfl,
    ((RdC.ofBx (sz := 3) (n := 2) h4 rfl (by decide)).mono (Nat.zero_le _) g4).cast rfl (by simp [cellsT, tabT, tabU]), fun d hd => by
      rcases List.mem_cons.1 hd with rfl | hd
      · exact ⟨rd_cols3 (c1 := ⟨[107], 1, []⟩) (c2 := ⟨[118], 2, []⟩) (c3 := ⟨[110], 1, []⟩) h1 g1, rd_str1 h2 g2⟩
      · rw [List.mem_singleton] at hd; subst hd
        exact ⟨rd_cols3 (c1 := ⟨[107], 2, []⟩) (c2 := ⟨[114], 1, [116]⟩) (c3 := ⟨[110], 1, []⟩) h3 g3, RdC.nil _ _ _ _⟩⟩
theorem sch_sz {D : List DTab} (h : D.map DTab.t = schT) : D.length ≤ 1000000 ∧ ∀ d ∈ D, d.t.cols.length ≤ 1000000 ∧ d.t.idx.length ≤ 1000000 := by
  refine ⟨by have := congrArg List.length h; simp [schT] at this; omega, fun d hd => ?_⟩
  have : d.t ∈ schT := by rw [← h]; exact List.mem_map.2 ⟨d, hd, rfl⟩
  rcases List.mem_cons.1 this with h | h
  · rw [h]; decide
  · rw [List.mem_singleton] at h; rw [h]; decide
end Go.Gx

namespace Go.Proofs.Ythflnkfghogaoaa
open Go.Gx Go.RowKit
attribute [local irreducible] wpList wpStill Code.wp Calls

theorem Schema_ret (w : World) : Ret Try.prog 16 #[] w (fun v' w' => Below w.heap.size w w' ∧ ∃ (tv : Value) (D : List DTab), v' = .agg #[tv, .slice none 0 0] ∧ D.map DTab.t = schT ∧ TsRd w' w'.heap.size tv D) := by
 have hb := Below.refl w.heap.size w
 refine enter (N := 14) Try.func16 rfl rfl (by simp) fun a0 hN hd hA => ?_
 clear hA
 refine seq_any fun K1 hK1 => one_reg (op_alloc (cs := [(Value.slice none 0 0), (Value.slice none 0 0)]) zero39 rfl ?_)
 intro w2 b3 lo_b3 hi_b3 hB5 E4
 have z_w2 := E4.size
 have hb := below_step0 hb E4 hb.size
 refine reg_nil (hK1 _ _ (seq_any fun K6 hK6 => one_reg (op_build (pv := [(0, (Value.string (bs [107]))), (1, (Value.int .i64 1))]) (v := (Value.agg #[(Value.string (bs [107])), (Value.int .i64 1), (Value.string (bs []))])) ⟨rfl, rfl, ⟨rfl, rfl, trivial⟩⟩ (by kernel_rfl) ?_)))
 refine op_build (pv := [(0, (Value.string (bs [118]))), (1, (Value.int .i64 2))]) (v := (Value.agg #[(Value.string (bs [118])), (Value.int .i64 2), (Value.string (bs []))])) ⟨rfl, rfl, ⟨rfl, rfl, trivial⟩⟩ (by kernel_rfl) ?_
 refine op_build (pv := [(0, (Value.string (bs [110]))), (1, (Value.int .i64 1))]) (v := (Value.agg #[(Value.string (bs [110])), (Value.int .i64 1), (Value.string (bs []))])) ⟨rfl, rfl, ⟨rfl, rfl, trivial⟩⟩ (by kernel_rfl) ?_
 refine op_bslice (e := 68) (pv := [(0, (Value.agg #[(Value.string (bs [107])), (Value.int .i64 1), (Value.string (bs []))])), (1, (Value.agg #[(Value.string (bs [118])), (Value.int .i64 2), (Value.string (bs []))])), (2, (Value.agg #[(Value.string (bs [110])), (Value.int .i64 1), (Value.string (bs []))]))]) (cs := [(Value.string (bs [107])), (Value.int .i64 1), (Value.string (bs [])), (Value.string (bs [118])), (Value.int .i64 2), (Value.string (bs [])), (Value.string (bs [110])), (Value.int .i64 1), (Value.string (bs []))]) ⟨rfl, (ev_hit hN rfl), ⟨rfl, (ev_hit hN rfl), ⟨rfl, (ev_hit hN rfl), trivial⟩⟩⟩ (by kernel_rfl) ?_
 intro w7 b8 lo_b8 hi_b8 hB10 E9
 have z_w7 := E9.size
 have hB5 := hB5.keep0 E9
 have hb := below_step0 hb E9 hb.size
 refine op_bslice (e := 9) (pv := [(0, (Value.string (bs [110])))]) (cs := [(Value.string (bs [110]))]) ⟨rfl, rfl, trivial⟩ (by kernel_rfl) ?_
 intro w11 b12 lo_b12 hi_b12 hB14 E13
 have z_w11 := E13.size
 have hB5 := hB5.keep0 E13
 have hB10 := hB10.keep0 E13
 have hb := below_step0 hb E13 hb.size
 refine op_build (pv := [(0, (Value.string (bs [116]))), (1, (Value.slice (some ⟨b8, 0, none⟩) 3 3)), (2, (Value.slice (some ⟨b12, 0, none⟩) 1 1))]) (v := (Value.agg #[(Value.string (bs [116])), (Value.slice (some ⟨b8, 0, none⟩) 3 3), (Value.slice (some ⟨b12, 0, none⟩) 1 1)])) ⟨rfl, rfl, ⟨rfl, (ev_hit hN rfl), ⟨rfl, (ev_hit hN rfl), trivial⟩⟩⟩ (by kernel_rfl) ?_
 refine op_build (pv := [(0, (Value.string (bs [107]))), (1, (Value.int .i64 2))]) (v := (Value.agg #[(Value.string (bs [107])), (Value.int .i64 2), (Value.string (bs []))])) ⟨rfl, rfl, ⟨rfl, rfl, trivial⟩⟩ (by kernel_rfl) ?_
 refine op_build (pv := [(0, (Value.string (bs [114]))), (1, (Value.int .i64 1)), (2, (Value.string (bs [116])))]) (v := (Value.agg #[(Value.string (bs [114])), (Value.int .i64 1), (Value.string (bs [116]))])) ⟨rfl, rfl, ⟨rfl, rfl, ⟨rfl, rfl, trivial⟩⟩⟩ (by kernel_rfl) ?_
 refine op_build (pv := [(0, (Value.string (bs [110]))), (1, (Value.int .i64 1))]) (v := (Value.agg #[(Value.string (bs [110])), (Value.int .i64 1), (Value.string (bs []))])) ⟨rfl, rfl, ⟨rfl, rfl, trivial⟩⟩ (by kernel_rfl) ?_
 refine op_bslice (e := 68) (pv := [(0, (Value.agg #[(Value.string (bs [107])), (Value.int .i64 2), (Value.string (bs []))])), (1, (Value.agg #[(Value.string (bs [114])), (Value.int .i64 1), (Value.string (bs [116]))])), (2, (Value.agg #[(Value.string (bs [110])), (Value.int .i64 1), (Value.string (bs []))]))]) (cs := [(Value.string (bs [107])), (Value.int .i64 2), (Value.string (bs [])), (Value.string (bs [114])), (Value.int .i64 1), (Value.string (bs [116])), (Value.string (bs [110])), (Value.int .i64 1), (Value.string (bs []))]) ⟨rfl, (ev_hit hN rfl), ⟨rfl, (ev_hit hN rfl), ⟨rfl, (ev_hit hN rfl), trivial⟩⟩⟩ (by kernel_rfl) ?_
 intro w15 b16 lo_b16 hi_b16 hB18 E17
 have z_w15 := E17.size
 have hB5 := hB5.keep0 E17
 have hB10 := hB10.keep0 E17
 have hB14 := hB14.keep0 E17
 have hb := below_step0 hb E17 hb.size
 refine op_build (pv := [(0, (Value.string (bs [117]))), (1, (Value.slice (some ⟨b16, 0, none⟩) 3 3))]) (v := (Value.agg #[(Value.string (bs [117])), (Value.slice (some ⟨b16, 0, none⟩) 3 3), (Value.slice none 0 0)])) ⟨rfl, rfl, ⟨rfl, (ev_hit hN rfl), trivial⟩⟩ (by kernel_rfl) ?_
 refine op_bslice (e := 55) (pv := [(0, (Value.agg #[(Value.string (bs [116])), (Value.slice (some ⟨b8, 0, none⟩) 3 3), (Value.slice (some ⟨b12, 0, none⟩) 1 1)])), (1, (Value.agg #[(Value.string (bs [117])), (Value.slice (some ⟨b16, 0, none⟩) 3 3), (Value.slice none 0 0)]))]) (cs := [(Value.string (bs [116])), (Value.slice (some ⟨b8, 0, none⟩) 3 3), (Value.slice (some ⟨b12, 0, none⟩) 1 1), (Value.string (bs [117])), (Value.slice (some ⟨b16, 0, none⟩) 3 3), (Value.slice none 0 0)]) ⟨rfl, (ev_hit hN rfl), ⟨rfl, (ev_hit hN rfl), trivial⟩⟩ (by kernel_rfl) ?_
 intro w19 b20 lo_b20 hi_b20 hB22 E21
 have z_w19 := E21.size
 have hB5 := hB5.keep0 E21
 have hB10 := hB10.keep0 E21
 have hB14 := hB14.keep0 E21
 have hB18 := hB18.keep0 E21
 have hb := below_step0 hb E21 hb.size
 refine op_build (pv := [(0, (Value.slice (some ⟨b20, 0, none⟩) 2 2))]) (v := (Value.agg #[(Value.slice (some ⟨b20, 0, none⟩) 2 2), (Value.slice none 0 0)])) ⟨rfl, (ev_hit hN rfl), trivial⟩ (by kernel_rfl) ?_
 have hB5_old := hB5
 refine op_store (vs := [(Value.slice (some ⟨b20, 0, none⟩) 2 2), (Value.slice none 0 0)]) (cs' := [(Value.slice (some ⟨b20, 0, none⟩) 2 2), (Value.slice none 0 0)]) size39 (ev_hit hN rfl) (ev_hit hN rfl) rfl rfl rfl hB5 (Nat.le_of_ble_eq_true rfl) rfl ?_
 intro w25 hB5 E26
 have z_w25 := E26.size
 have hB10 := hB10.keep E26 (fun hh => hB10.ne hB5_old (by decide) (Option.some.inj hh))
 have hB14 := hB14.keep E26 (fun hh => hB14.ne hB5_old (by decide) (Option.some.inj hh))
 have hB18 := hB18.keep E26 (fun hh => hB18.ne hB5_old (by decide) (Option.some.inj hh))
 have hB22 := hB22.keep E26 (fun hh => hB22.ne hB5_old (by decide) (Option.some.inj hh))
 have hb := below_step1 hb E26 hb.size (by omega)
 refine reg_nil (hK6 _ _ (wp_ret ?_))
 refine retN (rs := [.cell 0 39]) (vs := [(Value.agg #[(Value.slice (some ⟨b20, 0, none⟩) 2 2), (Value.slice none 0 0)])]) rfl hd ⟨⟨_, (ev_hit hN rfl), run_loadA (cs := [(Value.slice (some ⟨b20, 0, none⟩) 2 2), (Value.slice none 0 0)]) agg39 rfl (fun j u hu => by rw [Nat.zero_add]; exact hB5.cell hu)⟩, trivial⟩ rfl ⟨_, rfl, ?_⟩
 obtain ⟨D, hM, hT⟩ := sch_mk (B := w25.heap.size) hB10 hB14 hB18 hB22 (by omega) (by omega) (by omega) (by omega)
 exact ⟨hb, _, D, rfl, hM, hT⟩

theorem checkM {tv : Value} {D : List DTab} {w : World} (hM : D.map DTab.t = schT) (s : XS) (hT : TsRd w w.heap.size tv D) (hD : D.length ≤ 1000000) (hsz : ∀ d ∈ D, d.t.cols.length ≤ 1000000 ∧ d.t.idx.length ≤ 1000000) (he : SRd w w.heap.size s) : Ret Try.prog 19 #[.agg #[tv, .slice none 0 0], (Value.agg #[(Value.int .i64 s.f.kind), (Value.string (bs s.f.tb)), (Value.string (bs s.f.nm)), s.f.cv, s.f.gv, s.f.vv, s.f.iv, (Value.string (bs s.f.join)), s.f.ov, s.f.wv, s.f.rv, (Value.bool s.f.desc), s.nv])] w (fun v' w' => Below w.heap.size w w' ∧ v' = .int .i64 (checkE schT [] s)) := by
  have := Check_all s hT hD hsz he; rw [hM] at this; exact this
theorem Kind_nil {w : World} (e : XE) (he : XRd w w.heap.size e) : Ret Try.prog 14 #[.slice none 0 0, .slice none 0 0, (Value.agg #[(Value.int .i64 e.op), (Value.int .i64 e.vk), (Value.int .i64 e.vi), (Value.string (bs e.vt)), (Value.string (bs e.tb)), (Value.string (bs e.nm)), e.av])] w (fun v' w' => Below w.heap.size w w' ∧ v' = .tuple #[.int .i64 (kindX [] [] e).1, .int .i64 (kindX [] [] e).2]) := by
  have h : KindP e := Kind_all e
  unfold KindP at h
  exact h (C := []) (K := []) (by decide) (by decide) (RdC.nil _ _ _ _) (RdC.nil _ _ _ _) he

theorem begun10_ret (w : World) : Ret Try.prog 12 #[] w (fun v' w' => Below w.heap.size w w' ∧ v' = .bool true) := by
 have hb := Below.refl w.heap.size w
 refine enter (N := 39) Try.func12 rfl rfl (by simp) fun a0 hN hd hA => ?_
 clear hA
 refine seq_any fun K1 hK1 => ?_
 refine one_reg (op_assign rfl (reg_nil (hK1 _ _ (seq_any fun K2 hK2 => one_reg (op_build (pv := [(0, (Value.int .i64 1)), (1, (Value.int .i64 1))]) (v := (Value.agg #[(Value.int .i64 1), (Value.int .i64 1), (Value.string (bs []))])) ⟨rfl, rfl, ⟨rfl, rfl, trivial⟩⟩ (by kernel_rfl) ?_)))))
 refine op_build (pv := [(0, (Value.int .i64 1)), (1, (Value.agg #[(Value.int .i64 1), (Value.int .i64 1), (Value.string (bs []))]))]) (v := (Value.agg #[(Value.int .i64 1), (Value.int .i64 1), (Value.int .i64 1), (Value.string (bs [])), (Value.string (bs [])), (Value.string (bs [])), (Value.slice none 0 0)])) ⟨rfl, rfl, ⟨rfl, (ev_hit hN rfl), trivial⟩⟩ (by kernel_rfl) ?_
 refine op_alloc (cs := [(Value.int .i64 0), (Value.int .i64 0), (Value.int .i64 0), (Value.string (bs [])), (Value.string (bs [])), (Value.string (bs [])), (Value.slice none 0 0)]) zero28 rfl ?_
 intro w3 b4 lo_b4 hi_b4 hB6 E5
 have z_w3 := E5.size
 have hb := below_step0 hb E5 hb.size
 refine op_store (vs := [(Value.int .i64 1), (Value.int .i64 1), (Value.int .i64 1), (Value.string (bs [])), (Value.string (bs [])), (Value.string (bs [])), (Value.slice none 0 0)]) (cs' := [(Value.int .i64 1), (Value.int .i64 1), (Value.int .i64 1), (Value.string (bs [])), (Value.string (bs [])), (Value.string (bs [])), (Value.slice none 0 0)]) size28 (ev_hit hN rfl) (ev_hit hN rfl) rfl rfl rfl hB6 (Nat.le_of_ble_eq_true rfl) rfl ?_
 intro w9 hB6 E10
 have z_w9 := E10.size
 have hb := below_step1 hb E10 hb.size (by omega)
 refine reg_nil (hK2 _ _ (seq_any fun K11 hK11 => one_reg (op_loadA (cs := [(Value.int .i64 1), (Value.int .i64 1), (Value.int .i64 1), (Value.string (bs [])), (Value.string (bs [])), (Value.string (bs [])), (Value.slice none 0 0)]) agg28 rfl (ev_hit hN rfl) (fun j u hu => by rw [Nat.zero_add]; exact hB6.cell hu) ?_)))
 refine op_loadA (cs := [(Value.int .i64 1), (Value.int .i64 1), (Value.int .i64 1), (Value.string (bs [])), (Value.string (bs [])), (Value.string (bs [])), (Value.slice none 0 0)]) agg28 rfl (ev_hit hN rfl) (fun j u hu => by rw [Nat.zero_add]; exact hB6.cell hu) ?_
 refine op_bslice (e := 28) (pv := [(0, (Value.agg #[(Value.int .i64 1), (Value.int .i64 1), (Value.int .i64 1), (Value.string (bs [])), (Value.string (bs [])), (Value.string (bs [])), (Value.slice none 0 0)])), (1, (Value.agg #[(Value.int .i64 1), (Value.int .i64 1), (Value.int .i64 1), (Value.string (bs [])), (Value.string (bs [])), (Value.string (bs [])), (Value.slice none 0 0)]))]) (cs := [(Value.int .i64 1), (Value.int .i64 1), (Value.int .i64 1), (Value.string (bs [])), (Value.string (bs [])), (Value.string (bs [])), (Value.slice none 0 0), (Value.int .i64 1), (Value.int .i64 1), (Value.int .i64 1), (Value.string (bs [])), (Value.string (bs [])), (Value.string (bs [])), (Value.slice none 0 0)]) ⟨rfl, (ev_hit hN rfl), ⟨rfl, (ev_hit hN rfl), trivial⟩⟩ (by kernel_rfl) ?_
 intro w12 b13 lo_b13 hi_b13 hB15 E14
 have z_w12 := E14.size
 have hB6 := hB6.keep0 E14
 have hb := below_step0 hb E14 hb.size
 refine op_build (pv := [(0, (Value.int .i64 8)), (4, (Value.slice (some ⟨b13, 0, none⟩) 2 2))]) (v := (Value.agg #[(Value.int .i64 8), (Value.int .i64 0), (Value.int .i64 0), (Value.string (bs [])), (Value.string (bs [])), (Value.string (bs [])), (Value.slice (some ⟨b13, 0, none⟩) 2 2)])) ⟨rfl, rfl, ⟨rfl, (ev_hit hN rfl), trivial⟩⟩ (by kernel_rfl) ?_
 refine op_fn (vs := [(Value.slice none 0 0), (Value.slice none 0 0), (Value.agg #[(Value.int .i64 8), (Value.int .i64 0), (Value.int .i64 0), (Value.string (bs [])), (Value.string (bs [])), (Value.string (bs [])), (Value.slice (some ⟨b13, 0, none⟩) 2 2)])]) ok14 ⟨rfl, ⟨rfl, ⟨(ev_hit hN rfl), trivial⟩⟩⟩ (Kind_nil (XE.mk 8 0 0 [] [] [] (Value.slice (some ⟨b13, 0, none⟩) 2 2) [(XE.mk 1 1 1 [] [] [] (Value.slice none 0 0) []), (XE.mk 1 1 1 [] [] [] (Value.slice none 0 0) [])]) (XsRd.node (e := (XE.mk 8 0 0 [] [] [] (Value.slice (some ⟨b13, 0, none⟩) 2 2) [(XE.mk 1 1 1 [] [] [] (Value.slice none 0 0) []), (XE.mk 1 1 1 [] [] [] (Value.slice none 0 0) [])])) (XsRd.lit2 (e := (XE.mk 1 1 1 [] [] [] (Value.slice none 0 0) [])) (e2 := (XE.mk 1 1 1 [] [] [] (Value.slice none 0 0) [])) hB15 (by omega) (XRd.bare rfl rfl) (XRd.bare rfl rfl)))) ?_
 rintro _ w16 ⟨E17, rfl⟩
 have E17 := grown_of_below E17
 have z_w16 := E17.size
 have hB6 := hB6.keep0 E17
 have hb := below_step0 hb E17 hb.size
 refine op_move (ev_hit hN rfl) (op_extract (ev_hit hN rfl) rfl ?_)
 refine op_extract (ev_hit hN rfl) rfl ?_
 refine op_assign (ev_hit hN rfl) (op_assign (ev_hit hN rfl) (reg_nil (hK11 _ _ (seq_any fun K18 hK18 => one_reg (op_loadA (cs := [(Value.int .i64 1), (Value.int .i64 1), (Value.int .i64 1), (Value.string (bs [])), (Value.string (bs [])), (Value.string (bs [])), (Value.slice none 0 0)]) agg28 rfl (ev_hit hN rfl) (fun j u hu => by rw [Nat.zero_add]; exact hB6.cell hu) ?_)))))
 refine op_bslice (e := 28) (pv := [(0, (Value.agg #[(Value.int .i64 1), (Value.int .i64 1), (Value.int .i64 1), (Value.string (bs [])), (Value.string (bs [])), (Value.string (bs [])), (Value.slice none 0 0)]))]) (cs := [(Value.int .i64 1), (Value.int .i64 1), (Value.int .i64 1), (Value.string (bs [])), (Value.string (bs [])), (Value.string (bs [])), (Value.slice none 0 0)]) ⟨rfl, (ev_hit hN rfl), trivial⟩ (by kernel_rfl) ?_
 intro w19 b20 lo_b20 hi_b20 hB22 E21
 have z_w19 := E21.size
 have hb := below_step0 hb E21 hb.size
 refine op_build (pv := [(0, (Value.int .i64 4)), (4, (Value.slice (some ⟨b20, 0, none⟩) 1 1))]) (v := (Value.agg #[(Value.int .i64 4), (Value.int .i64 0), (Value.int .i64 0), (Value.string (bs [])), (Value.string (bs [])), (Value.string (bs [])), (Value.slice (some ⟨b20, 0, none⟩) 1 1)])) ⟨rfl, rfl, ⟨rfl, (ev_hit hN rfl), trivial⟩⟩ (by kernel_rfl) ?_
 refine op_fn (vs := [(Value.slice none 0 0), (Value.slice none 0 0), (Value.agg #[(Value.int .i64 4), (Value.int .i64 0), (Value.int .i64 0), (Value.string (bs [])), (Value.string (bs [])), (Value.string (bs [])), (Value.slice (some ⟨b20, 0, none⟩) 1 1)])]) ok14 ⟨rfl, ⟨rfl, ⟨(ev_hit hN rfl), trivial⟩⟩⟩ (Kind_nil (XE.mk 4 0 0 [] [] [] (Value.slice (some ⟨b20, 0, none⟩) 1 1) [(XE.mk 1 1 1 [] [] [] (Value.slice none 0 0) [])]) (XsRd.node (e := (XE.mk 4 0 0 [] [] [] (Value.slice (some ⟨b20, 0, none⟩) 1 1) [(XE.mk 1 1 1 [] [] [] (Value.slice none 0 0) [])])) (XsRd.lit1 (e := (XE.mk 1 1 1 [] [] [] (Value.slice none 0 0) [])) hB22 (by omega) (XRd.bare rfl rfl)))) ?_
 rintro _ w23 ⟨E24, rfl⟩
 have E24 := grown_of_below E24
 have z_w23 := E24.size
 have hb := below_step0 hb E24 hb.size
 refine op_move (ev_hit hN rfl) (op_extract (ev_hit hN rfl) rfl ?_)
 refine op_extract (ev_hit hN rfl) rfl ?_
 refine op_assign (ev_hit hN rfl) (op_assign (ev_hit hN rfl) (reg_nil (hK18 _ _ (seq_any fun K25 hK25 => ?_))))
 refine one_reg (op_move (ev_hit hN rfl) (op_eql (ev_hit hN rfl) rfl (fun c24 => ?_) (fun c24 => ?_)))
 ·
  refine op_move (ev_hit hN rfl) (g_true (j := 2) (dj := 25) (b := true) rfl rfl rfl (ev_hit hN rfl) (op_move (ev_hit hN rfl) (g_true (j := 2) (dj := 25) (b := true) rfl rfl rfl (ev_hit hN rfl) (op_eql (ev_hit hN rfl) rfl (fun c27 => ?_) (fun c27 => ?_)))))
  ·
   refine op_pick_t (ev_hit hN rfl) (ev_hit hN rfl) ?_
   refine op_move (ev_hit hN rfl) (g_true (j := 6) (dj := 29) (b := true) rfl rfl rfl (ev_hit hN rfl) (op_move (ev_hit hN rfl) (g_true (j := 6) (dj := 29) (b := true) rfl rfl rfl (ev_hit hN rfl) (op_eql (ev_hit hN rfl) rfl (fun c31 => ?_) (fun c31 => ?_)))))
   ·
    refine op_pick_t (ev_hit hN rfl) (ev_hit hN rfl) ?_
    refine op_move (ev_hit hN rfl) (g_true (j := 10) (dj := 33) (b := true) rfl rfl rfl (ev_hit hN rfl) (op_fn (vs := []) ok16 trivial (Schema_ret _) ?_))
    rintro _ w27 ⟨E28, tv26, D26, rfl, hM26, hT26⟩
    have E28 := grown_of_below E28
    have z_w27 := E28.size
    have hb := below_step0 hb E28 hb.size
    have hR26 := hT26.1
    have hz26 := sch_sz hM26
    refine g_true (j := 10) (dj := 33) (b := true) rfl rfl rfl (ev_hit hN rfl) (op_build (pv := [(0, (Value.int .i64 6)), (1, (Value.string (bs [113])))]) (v := (Value.agg #[(Value.int .i64 6), (Value.string (bs [113])), (Value.string (bs [])), (Value.slice none 0 0), (Value.slice none 0 0), (Value.slice none 0 0), (Value.slice none 0 0), (Value.string (bs [])), (Value.slice none 0 0), (Value.slice none 0 0), (Value.slice none 0 0), (Value.bool false), (Value.slice none 0 0)])) ⟨rfl, rfl, ⟨rfl, rfl, trivial⟩⟩ (by kernel_rfl) ?_)
    refine g_true (j := 10) (dj := 33) (b := true) rfl rfl rfl (ev_hit hN rfl) (op_fn (vs := [(Value.agg #[tv26, (Value.slice none 0 0)]), (Value.agg #[(Value.int .i64 6), (Value.string (bs [113])), (Value.string (bs [])), (Value.slice none 0 0), (Value.slice none 0 0), (Value.slice none 0 0), (Value.slice none 0 0), (Value.string (bs [])), (Value.slice none 0 0), (Value.slice none 0 0), (Value.slice none 0 0), (Value.bool false), (Value.slice none 0 0)])]) ok19 ⟨(ev_hit hN rfl), ⟨(ev_hit hN rfl), trivial⟩⟩ (checkM hM26 (XS.mk (StF.mk 6 ([113]) [] (Value.slice none 0 0) [] (Value.slice none 0 0) [] (Value.slice none 0 0) [] (Value.slice none 0 0) [] [] (Value.slice none 0 0) [] (Value.slice none 0 0) [] (Value.slice none 0 0) [] false) (Value.slice none 0 0) []) (hT26.mono (by omega)) hz26.1 hz26.2 (SRd.mk (s := (XS.mk (StF.mk 6 ([113]) [] (Value.slice none 0 0) [] (Value.slice none 0 0) [] (Value.slice none 0 0) [] (Value.slice none 0 0) [] [] (Value.slice none 0 0) [] (Value.slice none 0 0) [] (Value.slice none 0 0) [] false) (Value.slice none 0 0) [])) ⟨(RdC.nil _ _ _ _), (RdC.nil _ _ _ _), (XsRd.nil _ _), (RdC.nil _ _ _ _), (XsRd.nil _ _), (XsRd.nil _ _), (XsRd.nil _ _)⟩ (RdC.nil _ _ _ _) (fun _ h => (by cases h)))) ?_)
    rintro _ w29 ⟨E30, rfl⟩
    have E30 := grown_of_below E30
    have z_w29 := E30.size
    have hb := below_step0 hb E30 hb.size
    refine g_true (j := 10) (dj := 33) (b := true) rfl rfl rfl (ev_hit hN rfl) (op_eql (ev_hit hN rfl) rfl (fun c37 => ?_) (fun c37 => ?_))
    ·
     refine op_pick_t (ev_hit hN rfl) (ev_hit hN rfl) ?_
     refine op_assign (ev_hit hN rfl) (reg_nil (hK25 _ _ (wp_ret ?_)))
     refine ret1 rfl hd (ev_hit hN rfl) ⟨_, rfl, ?_⟩
     exact ⟨hb, rfl⟩
    ·
     exact absurd rfl c37
   ·
    exact absurd rfl c31
  ·
   exact absurd rfl c27
 ·
  exact absurd rfl c24
end Go.Proofs.Ythflnkfghogaoaa

namespace Go.Gx
def PickR (w : World) (base p : Nat) (lv : Value) (bl : List UInt8) (n : Nat) (F : Nat → Prop) : Prop :=
  F = (fun k => k = p) ∧ base ≤ p ∧ n ≤ bl.length ∧ bl.length ≤ 1000 ∧ Bx w p 85 [lv, .int .i64 ((n : Nat) : Int)]
inductive XFr (w : World) (L B : Nat) : XE → Prop
  | mk {e : XE} (h : RdC w L B 7 e.av e.args.length (e.args.flatMap cellsX)) (hs : ∀ a ∈ e.args, XFr w L B a) : XFr w L B e
def XsFr (w : World) (L B : Nat) (v : Value) (E : List XE) : Prop := RdC w L B 7 v E.length (E.flatMap cellsX) ∧ ∀ a ∈ E, XFr w L B a
section
variable {w w' : World} {base p b t e sz n L B L' B' : Nat} {lv v u : Value} {bl : List UInt8} {F G : Nat → Prop} {cs ws : List Value} {x x2 : XE} {E : List XE} {row : Option Nat}
theorem PickR.lt (h : PickR w base p lv bl n F) : ∀ k, F k → base ≤ k ∧ k < w.heap.size := fun k hk => by
  obtain ⟨rfl, h1, _, _, hx⟩ := h
  subst hk; exact ⟨h1, hx.lt⟩
theorem PickR.keepG (h : PickR w base p lv bl n F) (E : Gr w w' G) (hd : Dj F G) : PickR w' base p lv bl n F := by
  obtain ⟨rfl, h1, h2, h3, hx⟩ := h
  exact ⟨rfl, h1, h2, h3, hx.keepG E (hd p rfl)⟩
theorem PickR.kz (h : PickR w base p lv bl n F) (E : w.grownBy w' none) : PickR w' base p lv bl n F := h.keepG (Gr.of0 E NoB) (fun _ _ h => h)
theorem PickR.notBx (h : PickR w base p lv bl n F) (B2 : Bx w b t cs) (h1 : t ≠ 85) : ¬ F b := fun hf => by
  obtain ⟨rfl, _, _, _, hx⟩ := h
  subst hf; have := B2.symm.trans hx; simp at this; exact h1 this.2
theorem PickR.notOwn {base2 n' : Nat} (h : PickR w base p lv bl n F) (O : Own w base2 e sz v n' cs) (h1 : e ≠ 85) : Dj (Bl v) F := fun x hx hf => by
  obtain ⟨rfl, _, _, _, hp⟩ := h
  subst hf; exact O.neB hp (fun e => h1 e.symm) hx
theorem XFr.list (h : XFr w L B x) : XsFr w L B x.av x.args := by cases h with | mk h hs => exact ⟨h, hs⟩
theorem XFr.rd (h : XFr w L B x) : XRd w B x := by induction h with | mk h _ ih => exact .mk (h.mono (Nat.zero_le _) (Nat.le_refl _)) ih
theorem XsFr.rd (h : XsFr w L B v E) : XsRd w B v E := ⟨h.1.mono (Nat.zero_le _) (Nat.le_refl _), fun a ha => (h.2 a ha).rd⟩
theorem XFr.keep (h : XFr w L B x) (E : w.grownBy w' row) (hne : ∀ k, row = some k → k < L ∨ B ≤ k) : XFr w' L B x := by induction h with | mk h _ ih => exact .mk (h.keep E hne) ih
theorem XFr.keepG (h : XFr w L B x) (E : Gr w w' F) (hn : ∀ k, F k → k < L ∨ B ≤ k) : XFr w' L B x := by induction h with | mk h _ ih => exact .mk (h.keepG E hn) ih
theorem XFr.keep0 (h : XFr w L B x) (E : w.grownBy w' none) : XFr w' L B x := h.keep E (by simp)
theorem XFr.keepO {ws : List Value} (h : XFr w L B x) (O : Own w base e sz u n ws) (E : w.grownBy w' u.ownBlock) (hne : B ≤ base) : XFr w' L B x := h.keep E fun k hk => .inr (Nat.le_trans hne (O.lt k hk).1)
theorem XFr.mono (h : XFr w L B x) (hL : L' ≤ L) (hB : B ≤ B') : XFr w L' B' x := by induction h with | mk h _ ih => exact .mk (h.mono hL hB) ih
theorem XsFr.keep (h : XsFr w L B v E) (E2 : w.grownBy w' row) (hne : ∀ k, row = some k → k < L ∨ B ≤ k) : XsFr w' L B v E := ⟨h.1.keep E2 hne, fun a ha => (h.2 a ha).keep E2 hne⟩
theorem XsFr.keep0 (h : XsFr w L B v E) (E2 : w.grownBy w' none) : XsFr w' L B v E := h.keep E2 (by simp)
theorem XsFr.keepG (h : XsFr w L B v E) (E2 : Gr w w' F) (hn : ∀ k, F k → k < L ∨ B ≤ k) : XsFr w' L B v E := ⟨h.1.keepG E2 hn, fun a ha => (h.2 a ha).keepG E2 hn⟩
theorem XsFr.keepO {ws : List Value} (h : XsFr w L B v E) (O : Own w base e sz u n ws) (E2 : w.grownBy w' u.ownBlock) (hne : B ≤ base) : XsFr w' L B v E := h.keep E2 fun k hk => .inr (Nat.le_trans hne (O.lt k hk).1)
theorem XsFr.mono (h : XsFr w L B v E) (hL : L' ≤ L) (hB : B ≤ B') : XsFr w L' B' v E := ⟨h.1.mono hL hB, fun a ha => (h.2 a ha).mono hL hB⟩
theorem XsFr.nil (w : World) (L B : Nat) : XsFr w L B (.slice none 0 0) [] := ⟨RdC.nil _ _ _ _, fun _ h => (by cases h)⟩
theorem XFr.leaf (hv : x.av = .slice none 0 0) (ha : x.args = []) : XFr w L B x := .mk (by rw [hv, ha]; exact RdC.nil _ _ _ _) (by rw [ha]; exact fun _ h => (by cases h))
theorem XsFr.node (h : XsFr w L B x.av x.args) : XFr w L B x := .mk h.1 h.2
theorem XsFr.lit1 (hx : Bx w b 28 (cellsX x)) (h1 : L ≤ b) (h2 : b < B) (he : XFr w L B x) : XsFr w L B (.slice (some ⟨b, 0, none⟩) 1 1) [x] :=
  ⟨((RdC.ofBx (sz := 7) (n := 1) hx rfl (by decide)).mono h1 h2).cast rfl (List.append_nil _).symm, fun a ha => by rw [List.mem_singleton] at ha; subst ha; exact he⟩
theorem XsFr.lit2 (hx : Bx w b 28 (cellsX x ++ cellsX x2)) (h1 : L ≤ b) (h2 : b < B) (he : XFr w L B x) (he2 : XFr w L B x2) : XsFr w L B (.slice (some ⟨b, 0, none⟩) 2 2) [x, x2] :=
  ⟨((RdC.ofBx (sz := 7) (n := 2) hx rfl (by decide)).mono h1 h2).cast rfl (by simp), fun a ha => by
    rcases List.mem_cons.1 ha with rfl | ha
    · exact he
    · rw [List.mem_singleton] at ha; subst ha; exact he2⟩
end
/-! columns that may be named, and the kinds of what is made -/
def onceN (C : List PItm) (nm : List UInt8) : Bool := decide (C.countP (fun x => decide (x.nm = nm)) = 1)
def GoodC (C : List PItm) (K : List Int) : Prop := C.length = K.length ∧ ∀ i, i < C.length → colAt C K (C.getD i default).tb (C.getD i default).nm = (K.getD i 0, 0) ∧ (onceN C (C.getD i default).nm = true → colAt C K [] (C.getD i default).nm = (K.getD i 0, 0))
theorem kind_lit {C : List PItm} {K : List Int} {e : XE} (h1 : e.op = 1) (h2 : e.args = []) : kindX C K e = (e.vk, 0) := by
  rw [kindX_eq, h1, h2, if_neg (by simp [argsN]), if_neg (by simp [firstE])]; rfl
theorem kind_col {C : List PItm} {K : List Int} {e : XE} {k : Int} (h1 : e.op = 2) (h2 : e.args = []) (h : colAt C K e.tb e.nm = (k, 0)) : kindX C K e = (k, 0) := by
  rw [kindX_eq, h1, h2, if_neg (by simp [argsN]), if_neg (by simp [firstE])]
  unfold ofX; rw [if_neg (by decide), if_pos rfl, h]
theorem kind_one {C : List PItm} {K : List Int} {e a : XE} {k : Int} (h2 : e.args = [a]) (ha : kindX C K a = (k, 0)) (h : (e.op = 3 ∧ k = 1) ∨ (e.op = 4 ∧ k = 3)) : kindX C K e = (k, 0) := by
  rw [kindX_eq, h2]
  have hf : firstE ([a].map fun a => (kindX C K a).2) = 0 := by simp [ha, firstE]
  rcases h with ⟨h1, rfl⟩ | ⟨h1, rfl⟩
  · rw [h1, if_neg (by simp [argsN]), if_neg (fun g => g hf)]; simp only [List.map_cons, List.map_nil, ha]; rfl
  · rw [h1, if_neg (by simp [argsN]), if_neg (fun g => g hf)]; simp only [List.map_cons, List.map_nil, ha]; rfl
theorem kind_two {C : List PItm} {K : List Int} {e a b : XE} {k : Int} (h2 : e.args = [a, b]) (ha : kindX C K a = (k, 0)) (hb : kindX C K b = (k, 0)) (h : (5 ≤ e.op ∧ e.op ≤ 7 ∧ k = 1) ∨ (8 ≤ e.op ∧ e.op ≤ 13 ∧ (k = 1 ∨ k = 2)) ∨ ((e.op = 14 ∨ e.op = 15) ∧ k = 3)) :
    kindX C K e = (if 5 ≤ e.op ∧ e.op ≤ 7 then 1 else 3, 0) := by
  rw [kindX_eq, h2]
  have hf : firstE ([a, b].map fun a => (kindX C K a).2) = 0 := by simp [ha, hb, firstE]
  have hn : argsN e.op = 2 := by unfold argsN; rw [if_neg (by omega), if_neg (by omega), if_pos (by omega)]
  rw [hn, if_neg (by simp), if_neg (fun g => g hf)]
  simp only [List.map_cons, List.map_nil, ha, hb]
  have ho : ofX C K e.op e.vk e.tb e.nm [k, k] = (givesX e.op, 0) := by
    apply ofX_ok (by omega) (by omega)
    · simp only [List.getD_cons_zero]; omega
    · intro j hj
      have : j = 0 ∨ j = 1 := by simp at hj; omega
      have hk : [k, k].getD j 0 = k := by rcases this with rfl | rfl <;> rfl
      rw [hk]; unfold takesX; simp only [List.getD_cons_zero]; (repeat' split) <;> omega
  rw [ho]; unfold givesX; congr 1; (repeat' split) <;> omega
end Go.Gx
namespace Go.Gx
theorem cnt_t {C : List PItm} {y : List UInt8} {i : Nat} (h : i < C.length) (h2 : (C.getD i default).nm = y) : (C.take (i + 1)).countP (fun x => decide (x.nm = y)) = (C.take i).countP (fun x => decide (x.nm = y)) + 1 := by
  have : C.take (i + 1) = C.take i ++ [C.getD i default] := by simp [List.getD_eq_getElem?_getD, h]
  rw [this, List.countP_append]; simp only [List.countP_cons, List.countP_nil, decide_eq_true h2, if_true]
theorem cnt_f {C : List PItm} {y : List UInt8} {i : Nat} (h : i < C.length) (h2 : ¬ (C.getD i default).nm = y) : (C.take (i + 1)).countP (fun x => decide (x.nm = y)) = (C.take i).countP (fun x => decide (x.nm = y)) := by
  have : C.take (i + 1) = C.take i ++ [C.getD i default] := by simp [List.getD_eq_getElem?_getD, h]
  rw [this, List.countP_append]; simp only [List.countP_cons, List.countP_nil, decide_eq_false h2]; simp
theorem cnt_le (C : List PItm) (y : List UInt8) (i : Nat) : (C.take i).countP (fun x => decide (x.nm = y)) ≤ i := Nat.le_trans List.countP_le_length (by simp; omega)
end Go.Gx
namespace Go.Gx
def ofK (C : List PItm) (K : List Int) (k : Int) (i : Nat) : List PItm := (List.range i).filterMap fun j => if K.getD j 0 = k then some (C.getD j default) else none
theorem ofK_t {C : List PItm} {K : List Int} {k : Int} {i : Nat} (h : K.getD i 0 = k) : ofK C K k (i + 1) = ofK C K k i ++ [C.getD i default] := by
  unfold ofK; rw [List.range_succ, List.filterMap_append]; simp only [List.filterMap_cons, List.filterMap_nil, if_pos h]
theorem ofK_f {C : List PItm} {K : List Int} {k : Int} {i : Nat} (h : ¬ K.getD i 0 = k) : ofK C K k (i + 1) = ofK C K k i := by
  unfold ofK; rw [List.range_succ, List.filterMap_append]; simp only [List.filterMap_cons, List.filterMap_nil, if_neg h, List.append_nil]
theorem ofK_le (C : List PItm) (K : List Int) (k : Int) (i : Nat) : (ofK C K k i).length ≤ i := by
  unfold ofK; exact Nat.le_trans (List.length_filterMap_le _ _) (by simp)
theorem ofK_mem {C : List PItm} {K : List Int} {k : Int} {i : Nat} {x : PItm} (h : x ∈ ofK C K k i) : ∃ j, j < i ∧ K.getD j 0 = k ∧ x = C.getD j default := by
  unfold ofK at h; obtain ⟨j, hj, hx⟩ := List.mem_filterMap.1 h
  refine ⟨j, List.mem_range.1 hj, ?_⟩
  split at hx
  · rename_i h9; exact ⟨h9, (Option.some.inj hx).symm⟩
  · exact absurd hx (by simp)
theorem ofK_good {C : List PItm} {K : List Int} {k : Int} {i r : Nat} (hr : r < (ofK C K k i).length) (hi : i ≤ C.length) (hg : GoodC C K) :
    colAt C K ((ofK C K k i).getD r default).tb ((ofK C K k i).getD r default).nm = (k, 0) ∧ (onceN C ((ofK C K k i).getD r default).nm = true → colAt C K [] ((ofK C K k i).getD r default).nm = (k, 0)) := by
  have hm : (ofK C K k i).getD r default ∈ ofK C K k i := by rw [List.getD_eq_getElem?_getD, List.getElem?_eq_getElem hr]; exact List.getElem_mem hr
  obtain ⟨j, hj, hk, hx⟩ := ofK_mem hm
  have := hg.2 j (by omega)
  rw [hx, ← hk]; exact this
end Go.Gx

namespace Go.Proofs.Ythflnkfghogaoaa
open Go.Gx Go.RowKit
attribute [local irreducible] wpList wpStill Code.wp Calls

theorem Num_ret {base p n Bp : Nat} {lv : Value} {bl : List UInt8} {m : Nat} {w : World} (hpk : PickR w base p lv bl n (fun k => k = p)) (hBp : Bp ≤ p) (hbl : RdC w 0 Bp 1 lv bl.length (bl.map u8v)) (hm : 0 < m) (hm2 : m ≤ 1000000) : Ret Try.prog 35 #[(ptr p 0), (Value.int .i64 ((m : Nat) : Int))] w (fun v' w' => Gr w w' (fun k => k = p) ∧ ∃ r : Nat, v' = .int .i64 ((r : Nat) : Int) ∧ r < m ∧ ∃ n' : Nat, PickR w' base p lv bl n' (fun k => k = p) ∧ n ≤ n' ∧ (n < bl.length → n < n')) := by
 have hi_p : p < w.heap.size := (hpk.lt p rfl).2
 obtain ⟨_, h1, h2, h3, hx⟩ := hpk
 have hb := Gr.refl w (fun k => k = p)
 refine enter (N := 36) Try.func35 rfl rfl (by simp) fun a0 hN hd hA => ?_
 have s0 : a0.tmps.getD 0 undef = (ptr p 0) := hA 0 (by simp)
 have s1 : a0.tmps.getD 1 undef = (Value.int .i64 ((m : Nat) : Int)) := hA 1 (by simp)
 clear hA
 refine seq_any fun K1 hK1 => ?_
 refine one_reg (op_assign rfl (reg_nil (hK1 _ _ (seq_any fun K2 hK2 => seq_any fun K3 hK3 => reg_still mixed (by kernel_rfl) ?_))))
 intro w5 E4
 have z_w5 := E4.size
 have hx := hx.keep0 E4
 have hbl := hbl.keep0 E4
 have hb := hb.step0 E4
 refine st_step rfl (fun _ h9 => op_move (ev_base hN rfl s0) h9) ?_
 refine st_step rfl (fun _ h9 => op_nil (ev_hit hN rfl) h9) ?_
 refine st_step rfl (fun _ h9 => op_field fld85_1 (ev_hit hN rfl) h9) ?_
 refine st_step rfl (fun _ h9 => op_load1 (v := (Value.int .i64 ((n : Nat) : Int))) one3 (ev_hit hN rfl) (hx.cell rfl) h9) ?_
 refine st_step rfl (fun _ h9 => op_move (ev_base hN rfl s0) h9) ?_
 refine st_step rfl (fun _ h9 => op_nil (ev_hit hN rfl) h9) ?_
 refine st_step rfl (fun _ h9 => op_field fld85_0 (ev_hit hN rfl) h9) ?_
 refine st_step rfl (fun _ h9 => op_load1 (v := lv) one35 (ev_hit hN rfl) (hx.cell rfl) h9) ?_
 refine st_step rfl (fun _ h9 => op_len_rd Try.underlying35 (ev_hit hN rfl) hbl h9) ?_
 refine st_step rfl (fun _ h9 => op_cmp (b := (decide (((bl.length : Nat) : Int) ≤ ((n : Nat) : Int)))) (ev_hit hN rfl) (ev_hit hN rfl) (b_geq rfl) h9) ?_
 refine st_nil ?_
 refine hK3 _ _ (wp_cond_split (ev_hit hN rfl) (fun c14 => ?_) (fun c14 => ?_))
 ·
  have c14 := of_decide_eq_true c14
  refine seq_any fun K6 hK6 => one_reg (op_assign rfl (reg_nil (hK6 _ _ (wp_ret (then_ret ( ?_))))))
  refine ret1 rfl hd (ev_hit hN rfl) ⟨_, rfl, ?_⟩
  exact ⟨hb, 0, rfl, hm, n, ⟨rfl, h1, h2, h3, hx⟩, Nat.le_refl _, fun h => absurd h (by omega)⟩
 ·
  have c14 := of_decide_eq_false c14
  refine wp_skip (hK2 _ _ ?_)
  refine seq_any fun K7 hK7 => one_reg (op_move (ev_base hN rfl s0) (op_nil (ev_hit hN rfl) (op_field fld85_1 (ev_hit hN rfl) (op_load1 (v := (Value.int .i64 ((n : Nat) : Int))) one3 (ev_hit hN rfl) (hx.cell rfl) (op_add (r := ((n + 1 : Nat) : Int)) (ev_hit hN rfl) rfl ((add64 (by omega)).trans (by omega)) ?_)))))
  refine op_nil (ev_hit hN rfl) (op_field fld85_1 (ev_hit hN rfl) (op_store (vs := [(Value.int .i64 ((n + 1 : Nat) : Int))]) (cs' := [lv, (Value.int .i64 ((n + 1 : Nat) : Int))]) size3 (ev_hit hN rfl) (ev_hit hN rfl) rfl rfl rfl hx (Nat.le_of_ble_eq_true rfl) rfl ?_))
  intro w10 hx E11
  have z_w10 := E11.size
  have hbl := hbl.keep E11 (fun k hk => .inr (by simp at hk; omega))
  have hb := hb.stepB E11 rfl
  refine reg_nil (hK7 _ _ (seq_any fun K12 hK12 => reg_still mixed (by kernel_rfl) ?_))
  intro w14 E13
  have z_w14 := E13.size
  have hbl := hbl.keep0 E13
  have hx := hx.keep0 E13
  have hb := hb.step0 E13
  refine st_step rfl (fun _ h9 => op_move (ev_base hN rfl s0) h9) ?_
  refine st_step rfl (fun _ h9 => op_nil (ev_hit hN rfl) h9) ?_
  refine st_step rfl (fun _ h9 => op_field fld85_0 (ev_hit hN rfl) h9) ?_
  refine st_step rfl (fun _ h9 => op_load1 (v := lv) one35 (ev_hit hN rfl) (hx.cell rfl) h9) ?_
  refine st_step rfl (fun _ h9 => op_move (ev_base hN rfl s0) h9) ?_
  refine st_step rfl (fun _ h9 => op_nil (ev_hit hN rfl) h9) ?_
  refine st_step rfl (fun _ h9 => op_field fld85_1 (ev_hit hN rfl) h9) ?_
  refine st_step rfl (fun _ h9 => op_load1 (v := (Value.int .i64 ((n + 1 : Nat) : Int))) one3 (ev_hit hN rfl) (hx.cell rfl) h9) ?_
  refine st_step rfl (fun _ h9 => op_sub (r := ((n : Nat) : Int)) (ev_hit hN rfl) rfl ((sub64 (by omega)).trans (by omega)) h9) ?_
  refine st_index_rd slt35 (ev_hit hN rfl) hbl (ev_hit hN rfl) (by omega) (by omega) ?_
  intro b15 o16 h0b15 h1b15 hc17
  refine st_step rfl (fun _ h9 => op_load1 (v := (Value.int .u8 ((bl.getD n 0).toNat : Int))) one5 (ev_hit hN rfl) (by have := hc17 0 (Value.int .u8 ((bl.getD n 0).toNat : Int)) (by decide) (el_u8 (i := n) (by omega) (by omega)); simpa using this) h9) ?_
  refine st_step rfl (fun _ h9 => op_conv (r := ((bl.getD n 0).toNat : Int)) (ev_hit hN rfl) us5 Try.underlying3 (wrap_i64 (by have := ((bl.getD n 0)).toNat_lt; omega)) h9) ?_
  refine st_step rfl (fun _ h9 => op_move (ev_base hN rfl s1) h9) ?_
  refine st_step rfl (fun _ h9 => op_rem (r := (((bl.getD n 0).toNat % m : Nat) : Int)) (ev_hit hN rfl) (ev_hit hN rfl) (by omega) (by rw [Int.tmod_eq_emod_of_nonneg (by omega)]; omega) h9) ?_
  refine st_step rfl (fun _ h9 => op_assign (ev_hit hN rfl) h9) ?_
  refine st_nil ?_
  refine hK12 _ _ (wp_ret ?_)
  refine ret1 rfl hd (ev_hit hN rfl) ⟨_, rfl, ?_⟩
  exact ⟨hb, _, rfl, Nat.mod_lt _ (by omega), n + 1, ⟨rfl, h1, by omega, h3, hx⟩, by omega, fun _ => by omega⟩

theorem Value_ret {base p n Bp : Nat} {lv : Value} {bl : List UInt8} {kd : Int} {w : World} (hpk : PickR w base p lv bl n (fun k => k = p)) (hBp : Bp ≤ p) (hbl : RdC w 0 Bp 1 lv bl.length (bl.map u8v)) : Ret Try.prog 56 #[(ptr p 0), (Value.int .i64 kd)] w (fun v' w' => Gr w w' (fun k => k = p) ∧ ∃ (i : Int) (s : List UInt8), v' = .agg #[.int .i64 (if kd = 2 then (2 : Int) else 1), .int .i64 i, .string (bs s)] ∧ ∃ n' : Nat, PickR w' base p lv bl n' (fun k => k = p) ∧ n ≤ n') := by
 have hi_p : p < w.heap.size := (hpk.lt p rfl).2
 have hb := Gr.refl w (fun k => k = p)
 refine enter (N := 21) Try.func56 rfl rfl (by simp) fun a0 hN hd hA => ?_
 have s0 : a0.tmps.getD 0 undef = (ptr p 0) := hA 0 (by simp)
 have s1 : a0.tmps.getD 1 undef = (Value.int .i64 kd) := hA 1 (by simp)
 clear hA
 refine seq_any fun K1 hK1 => one_reg (op_alloc (cs := [(Value.int .i64 0), (Value.int .i64 0), (Value.string (bs []))]) zero25 rfl ?_)
 intro w2 b3 lo_b3 hi_b3 hB5 E4
 have dj6 : ¬ (fun k => k = p) b3 := fun hf => by have := (hpk.lt _ hf).2; omega
 have z_w2 := E4.size
 have hpk := hpk.kz E4
 have hbl := hbl.keep0 E4
 have hb := hb.step0 E4
 refine reg_nil (hK1 _ _ (seq_any fun K7 hK7 => seq_any fun K8 hK8 => ?_))
 refine one_reg (op_move (ev_base hN rfl s1) (op_eql (ev_hit hN rfl) rfl (fun c7 => ?_) (fun c7 => ?_)))
 ·
  refine reg_nil (hK8 _ _ (wp_cond_true (ev_hit hN rfl) (seq_any fun K9 hK9 => one_reg (op_bslice (e := 9) (pv := [(0, (Value.string (bs [97]))), (1, (Value.string (bs [98]))), (2, (Value.string (bs []))), (3, (Value.string (bs [105, 116, 39, 115]))), (4, (Value.string (bs [122, 122])))]) (cs := [(Value.string (bs [97])), (Value.string (bs [98])), (Value.string (bs [])), (Value.string (bs [105, 116, 39, 115])), (Value.string (bs [122, 122]))]) ⟨rfl, rfl, ⟨rfl, rfl, ⟨rfl, rfl, ⟨rfl, rfl, ⟨rfl, rfl, trivial⟩⟩⟩⟩⟩ (by kernel_rfl) ?_))))
  intro w10 b11 lo_b11 hi_b11 hB13 E12
  have dj14 : ¬ (fun k => k = p) b11 := fun hf => by have := (hpk.lt _ hf).2; omega
  have z_w10 := E12.size
  have hpk := hpk.kz E12
  have hbl := hbl.keep0 E12
  have hB5 := hB5.keep0 E12
  have hb := hb.step0 E12
  refine op_move (ev_base hN rfl s0) (op_fn (vs := [(ptr p 0), (Value.int .i64 5)]) ok35 ⟨(ev_hit hN rfl), ⟨rfl, trivial⟩⟩ (Num_ret (m := 5) hpk (by omega) hbl (by omega) (by omega)) ?_)
  rintro _ w16 ⟨E17, r15, rfl, hr15, n15, hk15, hn15, hn15x⟩
  have z_w16 := E17.size
  have hB5 := hB5.keepG E17 dj6
  have hB13 := hB13.keepG E17 dj14
  have hb := hb.stepF E17 (fun _ _ h => h)
  refine op_index_rd slt53 (ev_hit hN rfl) (RdC.ofBx (sz := 1) (n := 5) hB13 rfl (by decide)) (ev_hit hN rfl) (by omega) (by omega) ?_
  intro b18 o19 h0b18 h1b18 hc20
  refine op_load1 (v := (Value.string (bs (([[97], [98], [], [105, 116, 39, 115], [122, 122]] : List (List UInt8)).getD r15 [])))) one9 (ev_hit hN rfl) (by have := hc20 0 (Value.string (bs (([[97], [98], [], [105, 116, 39, 115], [122, 122]] : List (List UInt8)).getD r15 []))) (by decide) (el_sv (l := ([[97], [98], [], [105, 116, 39, 115], [122, 122]] : List (List UInt8))) (i := r15) rfl (show _ < 5 by omega)); simpa using this) (op_build (pv := [(0, (Value.int .i64 2)), (2, (Value.string (bs (([[97], [98], [], [105, 116, 39, 115], [122, 122]] : List (List UInt8)).getD r15 []))))]) (v := (Value.agg #[(Value.int .i64 2), (Value.int .i64 0), (Value.string (bs (([[97], [98], [], [105, 116, 39, 115], [122, 122]] : List (List UInt8)).getD r15 [])))])) ⟨rfl, rfl, ⟨rfl, (ev_hit hN rfl), trivial⟩⟩ (by kernel_rfl) ?_)
  refine op_store (vs := [(Value.int .i64 2), (Value.int .i64 0), (Value.string (bs (([[97], [98], [], [105, 116, 39, 115], [122, 122]] : List (List UInt8)).getD r15 [])))]) (cs' := [(Value.int .i64 2), (Value.int .i64 0), (Value.string (bs (([[97], [98], [], [105, 116, 39, 115], [122, 122]] : List (List UInt8)).getD r15 [])))]) size25 (ev_hit hN rfl) (ev_hit hN rfl) rfl rfl rfl hB5 (Nat.le_of_ble_eq_true rfl) rfl ?_
  intro w23 hB5 E24
  have z_w23 := E24.size
  have hk15 := hk15.keepG (Gr.of E24) (Dj.one dj6)
  have hb := hb.step1 E24 (by omega)
  refine reg_nil (hK9 _ _ (wp_ret (then_ret ( ?_))))
  refine retN (rs := [.cell 4 25]) (vs := [(Value.agg #[(Value.int .i64 2), (Value.int .i64 0), (Value.string (bs (([[97], [98], [], [105, 116, 39, 115], [122, 122]] : List (List UInt8)).getD r15 [])))])]) rfl hd ⟨⟨_, (ev_hit hN rfl), run_loadA (cs := [(Value.int .i64 2), (Value.int .i64 0), (Value.string (bs (([[97], [98], [], [105, 116, 39, 115], [122, 122]] : List (List UInt8)).getD r15 [])))]) agg25 rfl (fun j u hu => by rw [Nat.zero_add]; exact hB5.cell hu)⟩, trivial⟩ rfl ⟨_, rfl, ?_⟩
  exact ⟨hb, 0, (([[97], [98], [], [105, 116, 39, 115], [122, 122]] : List (List UInt8)).getD r15 []), congrArg (fun x : Int => Value.agg #[.int .i64 x, .int .i64 0, .string (bs (([[97], [98], [], [105, 116, 39, 115], [122, 122]] : List (List UInt8)).getD r15 []))]) ((if_pos (by omega)).symm : (2 : Int) = if kd = 2 then 2 else 1), n15, hk15, by omega⟩
 ·
  refine reg_nil (hK8 _ _ ?_)
  refine wp_cond_false (ev_hit hN rfl) (wp_skip (hK7 _ _ (seq_any fun K25 hK25 => one_reg (op_move (ev_base hN rfl s0) (op_fn (vs := [(ptr p 0), (Value.int .i64 12)]) ok35 ⟨(ev_hit hN rfl), ⟨rfl, trivial⟩⟩ (Num_ret (m := 12) hpk (by omega) hbl (by omega) (by omega)) ?_)))))
  rintro _ w27 ⟨E28, r26, rfl, hr26, n26, hk26, hn26, hn26x⟩
  have z_w27 := E28.size
  have hB5 := hB5.keepG E28 dj6
  have hb := hb.stepF E28 (fun _ _ h => h)
  refine op_assign (ev_hit hN rfl) (reg_nil (hK25 _ _ (seq_any fun K29 hK29 => seq_any fun K30 hK30 => ?_)))
  refine one_reg (op_move (ev_hit hN rfl) (op_eql (ev_hit hN rfl) rfl (fun c17 => ?_) (fun c17 => ?_)))
  ·
   refine reg_nil (hK30 _ _ (wp_cond_true (ev_hit hN rfl) (seq_any fun K31 hK31 => one_reg (op_build (pv := [(0, (Value.int .i64 1)), (1, (Value.int .i64 9223372036854775807))]) (v := (Value.agg #[(Value.int .i64 1), (Value.int .i64 9223372036854775807), (Value.string (bs []))])) ⟨rfl, rfl, ⟨rfl, rfl, trivial⟩⟩ (by kernel_rfl) ?_))))
   refine op_store (vs := [(Value.int .i64 1), (Value.int .i64 9223372036854775807), (Value.string (bs []))]) (cs' := [(Value.int .i64 1), (Value.int .i64 9223372036854775807), (Value.string (bs []))]) size25 (ev_hit hN rfl) (ev_hit hN rfl) rfl rfl rfl hB5 (Nat.le_of_ble_eq_true rfl) rfl ?_
   intro w34 hB5 E35
   have z_w34 := E35.size
   have hk26 := hk26.keepG (Gr.of E35) (Dj.one dj6)
   have hb := hb.step1 E35 (by omega)
   refine reg_nil (hK31 _ _ (wp_ret (then_ret ( ?_))))
   refine retN (rs := [.cell 4 25]) (vs := [(Value.agg #[(Value.int .i64 1), (Value.int .i64 9223372036854775807), (Value.string (bs []))])]) rfl hd ⟨⟨_, (ev_hit hN rfl), run_loadA (cs := [(Value.int .i64 1), (Value.int .i64 9223372036854775807), (Value.string (bs []))]) agg25 rfl (fun j u hu => by rw [Nat.zero_add]; exact hB5.cell hu)⟩, trivial⟩ rfl ⟨_, rfl, ?_⟩
   exact ⟨hb, 9223372036854775807, [], congrArg (fun x : Int => Value.agg #[.int .i64 x, .int .i64 9223372036854775807, .string (bs [])]) ((if_neg (by omega)).symm : (1 : Int) = if kd = 2 then 2 else 1), n26, hk26, by omega⟩
  ·
   refine reg_nil (hK30 _ _ ?_)
   refine wp_cond_false (ev_hit hN rfl) (wp_skip (hK29 _ _ (seq_any fun K36 hK36 => one_reg (op_move (ev_hit hN rfl) (op_build (pv := [(0, (Value.int .i64 1)), (1, (Value.int .i64 ((r26 : Nat) : Int)))]) (v := (Value.agg #[(Value.int .i64 1), (Value.int .i64 ((r26 : Nat) : Int)), (Value.string (bs []))])) ⟨rfl, rfl, ⟨rfl, (ev_hit hN rfl), trivial⟩⟩ (by kernel_rfl) ?_)))))
   refine op_store (vs := [(Value.int .i64 1), (Value.int .i64 ((r26 : Nat) : Int)), (Value.string (bs []))]) (cs' := [(Value.int .i64 1), (Value.int .i64 ((r26 : Nat) : Int)), (Value.string (bs []))]) size25 (ev_hit hN rfl) (ev_hit hN rfl) rfl rfl rfl hB5 (Nat.le_of_ble_eq_true rfl) rfl ?_
   intro w39 hB5 E40
   have z_w39 := E40.size
   have hk26 := hk26.keepG (Gr.of E40) (Dj.one dj6)
   have hb := hb.step1 E40 (by omega)
   refine reg_nil (hK36 _ _ (wp_ret ?_))
   refine retN (rs := [.cell 4 25]) (vs := [(Value.agg #[(Value.int .i64 1), (Value.int .i64 ((r26 : Nat) : Int)), (Value.string (bs []))])]) rfl hd ⟨⟨_, (ev_hit hN rfl), run_loadA (cs := [(Value.int .i64 1), (Value.int .i64 ((r26 : Nat) : Int)), (Value.string (bs []))]) agg25 rfl (fun j u hu => by rw [Nat.zero_add]; exact hB5.cell hu)⟩, trivial⟩ rfl ⟨_, rfl, ?_⟩
   exact ⟨hb, ((r26 : Nat) : Int), [], congrArg (fun x : Int => Value.agg #[.int .i64 x, .int .i64 ((r26 : Nat) : Int), .string (bs [])]) ((if_neg (by omega)).symm : (1 : Int) = if kd = 2 then 2 else 1), n26, hk26, by omega⟩

theorem lit_ret (k i : Int) (s : List UInt8) (w : World) : Ret Try.prog 55 #[(Value.agg #[(Value.int .i64 k), (Value.int .i64 i), (Value.string (bs s))])] w (fun v' w' => Below w.heap.size w w' ∧ v' = .agg #[.int .i64 1, .int .i64 k, .int .i64 i, .string (bs s), .string (bs []), .string (bs []), .slice none 0 0]) := by
 have hb := Below.refl w.heap.size w
 refine enter (N := 5) Try.func55 rfl rfl (by simp) fun a0 hN hd hA => ?_
 have s0 : a0.tmps.getD 0 undef = (Value.agg #[(Value.int .i64 k), (Value.int .i64 i), (Value.string (bs s))]) := hA 0 (by simp)
 clear hA
 refine seq_any fun K41 hK41 => one_reg (op_box (cs := [(Value.int .i64 k), (Value.int .i64 i), (Value.string (bs s))]) (ev_base hN rfl s0) rfl ?_)
 intro w42 b43 lo_b43 hi_b43 hB45 E44
 have z_w42 := E44.size
 have hb := below_step0 hb E44 hb.size
 refine op_alloc (cs := [(Value.int .i64 0), (Value.int .i64 0), (Value.int .i64 0), (Value.string (bs [])), (Value.string (bs [])), (Value.string (bs [])), (Value.slice none 0 0)]) zero28 rfl ?_
 intro w46 b47 lo_b47 hi_b47 hB49 E48
 have z_w46 := E48.size
 have hB45 := hB45.keep0 E48
 have hb := below_step0 hb E48 hb.size
 refine reg_nil (hK41 _ _ (seq_any fun K50 hK50 => one_reg (op_loadA (cs := [(Value.int .i64 k), (Value.int .i64 i), (Value.string (bs s))]) agg25 rfl (ev_hit hN rfl) (fun j u hu => by rw [Nat.zero_add]; exact hB45.cell hu) ?_)))
 refine op_build (pv := [(0, (Value.int .i64 1)), (1, (Value.agg #[(Value.int .i64 k), (Value.int .i64 i), (Value.string (bs s))]))]) (v := (Value.agg #[(Value.int .i64 1), (Value.int .i64 k), (Value.int .i64 i), (Value.string (bs s)), (Value.string (bs [])), (Value.string (bs [])), (Value.slice none 0 0)])) ⟨rfl, rfl, ⟨rfl, (ev_hit hN rfl), trivial⟩⟩ (by kernel_rfl) ?_
 refine op_store (vs := [(Value.int .i64 1), (Value.int .i64 k), (Value.int .i64 i), (Value.string (bs s)), (Value.string (bs [])), (Value.string (bs [])), (Value.slice none 0 0)]) (cs' := [(Value.int .i64 1), (Value.int .i64 k), (Value.int .i64 i), (Value.string (bs s)), (Value.string (bs [])), (Value.string (bs [])), (Value.slice none 0 0)]) size28 (ev_hit hN rfl) (ev_hit hN rfl) rfl rfl rfl hB49 (Nat.le_of_ble_eq_true rfl) rfl ?_
 intro w53 hB49 E54
 have z_w53 := E54.size
 have hb := below_step1 hb E54 hb.size (by omega)
 refine reg_nil (hK50 _ _ (wp_ret ?_))
 refine retN (rs := [.cell 2 28]) (vs := [(Value.agg #[(Value.int .i64 1), (Value.int .i64 k), (Value.int .i64 i), (Value.string (bs s)), (Value.string (bs [])), (Value.string (bs [])), (Value.slice none 0 0)])]) rfl hd ⟨⟨_, (ev_hit hN rfl), run_loadA (cs := [(Value.int .i64 1), (Value.int .i64 k), (Value.int .i64 i), (Value.string (bs s)), (Value.string (bs [])), (Value.string (bs [])), (Value.slice none 0 0)]) agg28 rfl (fun j u hu => by rw [Nat.zero_add]; exact hB49.cell hu)⟩, trivial⟩ rfl ⟨_, rfl, ?_⟩
 exact ⟨hb, rfl⟩

theorem two_ret {L : Nat} (op : Int) (a b : XE) (w : World) (hL : L ≤ w.heap.size) (ha : XFr w L w.heap.size a) (hb9 : XFr w L w.heap.size b) : Ret Try.prog 53 #[(Value.int .i64 op), (Value.agg #[(Value.int .i64 a.op), (Value.int .i64 a.vk), (Value.int .i64 a.vi), (Value.string (bs a.vt)), (Value.string (bs a.tb)), (Value.string (bs a.nm)), a.av]), (Value.agg #[(Value.int .i64 b.op), (Value.int .i64 b.vk), (Value.int .i64 b.vi), (Value.string (bs b.vt)), (Value.string (bs b.tb)), (Value.string (bs b.nm)), b.av])] w (fun v' w' => Below w.heap.size w w' ∧ ∃ av : Value, v' = .agg #[.int .i64 op, .int .i64 0, .int .i64 0, .string (bs []), .string (bs []), .string (bs []), av] ∧ XsFr w' L w'.heap.size av [a, b]) := by
 have hb := Below.refl w.heap.size w
 refine enter (N := 12) Try.func53 rfl rfl (by simp) fun a0 hN hd hA => ?_
 have s0 : a0.tmps.getD 0 undef = (Value.int .i64 op) := hA 0 (by simp)
 have s1 : a0.tmps.getD 1 undef = (Value.agg #[(Value.int .i64 a.op), (Value.int .i64 a.vk), (Value.int .i64 a.vi), (Value.string (bs a.vt)), (Value.string (bs a.tb)), (Value.string (bs a.nm)), a.av]) := hA 1 (by simp)
 have s2 : a0.tmps.getD 2 undef = (Value.agg #[(Value.int .i64 b.op), (Value.int .i64 b.vk), (Value.int .i64 b.vi), (Value.string (bs b.vt)), (Value.string (bs b.tb)), (Value.string (bs b.nm)), b.av]) := hA 2 (by simp)
 clear hA
 refine seq_any fun K55 hK55 => one_reg (op_box (cs := [(Value.int .i64 a.op), (Value.int .i64 a.vk), (Value.int .i64 a.vi), (Value.string (bs a.vt)), (Value.string (bs a.tb)), (Value.string (bs a.nm)), a.av]) (ev_base hN rfl s1) rfl ?_)
 intro w56 b57 lo_b57 hi_b57 hB59 E58
 have z_w56 := E58.size
 have ha := ha.keep0 E58
 have hb9 := hb9.keep0 E58
 have hb := below_step0 hb E58 hb.size
 refine op_box (cs := [(Value.int .i64 b.op), (Value.int .i64 b.vk), (Value.int .i64 b.vi), (Value.string (bs b.vt)), (Value.string (bs b.tb)), (Value.string (bs b.nm)), b.av]) (ev_base hN rfl s2) rfl ?_
 intro w60 b61 lo_b61 hi_b61 hB63 E62
 have z_w60 := E62.size
 have ha := ha.keep0 E62
 have hb9 := hb9.keep0 E62
 have hB59 := hB59.keep0 E62
 have hb := below_step0 hb E62 hb.size
 refine op_alloc (cs := [(Value.int .i64 0), (Value.int .i64 0), (Value.int .i64 0), (Value.string (bs [])), (Value.string (bs [])), (Value.string (bs [])), (Value.slice none 0 0)]) zero28 rfl ?_
 intro w64 b65 lo_b65 hi_b65 hB67 E66
 have z_w64 := E66.size
 have ha := ha.keep0 E66
 have hb9 := hb9.keep0 E66
 have hB59 := hB59.keep0 E66
 have hB63 := hB63.keep0 E66
 have hb := below_step0 hb E66 hb.size
 refine reg_nil (hK55 _ _ (seq_any fun K68 hK68 => one_reg (op_move (ev_base hN rfl s0) (op_loadA (cs := [(Value.int .i64 a.op), (Value.int .i64 a.vk), (Value.int .i64 a.vi), (Value.string (bs a.vt)), (Value.string (bs a.tb)), (Value.string (bs a.nm)), a.av]) agg28 rfl (ev_hit hN rfl) (fun j u hu => by rw [Nat.zero_add]; exact hB59.cell hu) ?_))))
 refine op_loadA (cs := [(Value.int .i64 b.op), (Value.int .i64 b.vk), (Value.int .i64 b.vi), (Value.string (bs b.vt)), (Value.string (bs b.tb)), (Value.string (bs b.nm)), b.av]) agg28 rfl (ev_hit hN rfl) (fun j u hu => by rw [Nat.zero_add]; exact hB63.cell hu) ?_
 refine op_bslice (e := 28) (pv := [(0, (Value.agg #[(Value.int .i64 a.op), (Value.int .i64 a.vk), (Value.int .i64 a.vi), (Value.string (bs a.vt)), (Value.string (bs a.tb)), (Value.string (bs a.nm)), a.av])), (1, (Value.agg #[(Value.int .i64 b.op), (Value.int .i64 b.vk), (Value.int .i64 b.vi), (Value.string (bs b.vt)), (Value.string (bs b.tb)), (Value.string (bs b.nm)), b.av]))]) (cs := [(Value.int .i64 a.op), (Value.int .i64 a.vk), (Value.int .i64 a.vi), (Value.string (bs a.vt)), (Value.string (bs a.tb)), (Value.string (bs a.nm)), a.av, (Value.int .i64 b.op), (Value.int .i64 b.vk), (Value.int .i64 b.vi), (Value.string (bs b.vt)), (Value.string (bs b.tb)), (Value.string (bs b.nm)), b.av]) ⟨rfl, (ev_hit hN rfl), ⟨rfl, (ev_hit hN rfl), trivial⟩⟩ (by kernel_rfl) ?_
 intro w69 b70 lo_b70 hi_b70 hB72 E71
 have z_w69 := E71.size
 have ha := ha.keep0 E71
 have hb9 := hb9.keep0 E71
 have hB67 := hB67.keep0 E71
 have hb := below_step0 hb E71 hb.size
 refine op_build (pv := [(0, (Value.int .i64 op)), (4, (Value.slice (some ⟨b70, 0, none⟩) 2 2))]) (v := (Value.agg #[(Value.int .i64 op), (Value.int .i64 0), (Value.int .i64 0), (Value.string (bs [])), (Value.string (bs [])), (Value.string (bs [])), (Value.slice (some ⟨b70, 0, none⟩) 2 2)])) ⟨rfl, (ev_hit hN rfl), ⟨rfl, (ev_hit hN rfl), trivial⟩⟩ (by kernel_rfl) ?_
 refine op_store (vs := [(Value.int .i64 op), (Value.int .i64 0), (Value.int .i64 0), (Value.string (bs [])), (Value.string (bs [])), (Value.string (bs [])), (Value.slice (some ⟨b70, 0, none⟩) 2 2)]) (cs' := [(Value.int .i64 op), (Value.int .i64 0), (Value.int .i64 0), (Value.string (bs [])), (Value.string (bs [])), (Value.string (bs [])), (Value.slice (some ⟨b70, 0, none⟩) 2 2)]) size28 (ev_hit hN rfl) (ev_hit hN rfl) rfl rfl rfl hB67 (Nat.le_of_ble_eq_true rfl) rfl ?_
 intro w75 hB67 E76
 have z_w75 := E76.size
 have ha := ha.keep E76 (fun k hk => .inr (by simp at hk; omega))
 have hb9 := hb9.keep E76 (fun k hk => .inr (by simp at hk; omega))
 have hB72 := hB72.keep E76 (by simp; omega)
 have hb := below_step1 hb E76 hb.size (by omega)
 refine reg_nil (hK68 _ _ (wp_ret ?_))
 refine retN (rs := [.cell 6 28]) (vs := [(Value.agg #[(Value.int .i64 op), (Value.int .i64 0), (Value.int .i64 0), (Value.string (bs [])), (Value.string (bs [])), (Value.string (bs [])), (Value.slice (some ⟨b70, 0, none⟩) 2 2)])]) rfl hd ⟨⟨_, (ev_hit hN rfl), run_loadA (cs := [(Value.int .i64 op), (Value.int .i64 0), (Value.int .i64 0), (Value.string (bs [])), (Value.string (bs [])), (Value.string (bs [])), (Value.slice (some ⟨b70, 0, none⟩) 2 2)]) agg28 rfl (fun j u hu => by rw [Nat.zero_add]; exact hB67.cell hu)⟩, trivial⟩ rfl ⟨_, rfl, ?_⟩
 exact ⟨hb, _, rfl, XsFr.lit2 (x := a) (x2 := b) hB72 (by omega) hB72.lt (ha.mono (Nat.le_refl _) (by omega)) (hb9.mono (Nat.le_refl _) (by omega))⟩

theorem once_ret (C : List PItm) (y : List UInt8) (vc : Value) (w : World) (hC : RdC w 0 w.heap.size 3 vc C.length (C.flatMap cellsI)) : Ret Try.prog 83 #[vc, (Value.string (bs y))] w (fun v' w' => Below w.heap.size w w' ∧ v' = .bool (onceN C y)) := by
 have hlm := rd_len hC
 have hb := Below.refl w.heap.size w
 refine enter (N := 24) Try.func83 rfl rfl (by simp) fun a0 hN hd hA => ?_
 have s0 : a0.tmps.getD 0 undef = vc := hA 0 (by simp)
 have s1 : a0.tmps.getD 1 undef = (Value.string (bs y)) := hA 1 (by simp)
 clear hA
 refine seq_any fun K1 hK1 => one_reg (op_assign rfl ?_)
 refine reg_nil (hK1 _ _ (seq_any fun K2 hK2 => one_reg (op_assign rfl (reg_nil (hK2 _ _ ?_)))))
 refine seq_any fun K3 hK3 => seq_any fun K4 hK4 => one_reg (op_assign rfl (reg_nil (hK4 _ _ (wp_block ?_))))
 refine loop_m (fun mz_ az_ w' => ∃ (i : Nat), mz_ = C.length - i ∧ (az_.tmps.getD 0 undef = vc) ∧ (az_.tmps.getD 1 undef = (Value.string (bs y))) ∧ (az_.tmps.getD 4 undef = (Value.bool false)) ∧ (az_.tmps.getD 6 undef = (Value.int .i64 ((i : Nat) : Int))) ∧ (az_.tmps.getD 5 undef = (Value.int .i64 (((C.take i).countP (fun x => decide (x.nm = y)) : Nat) : Int))) ∧ (i ≤ C.length) ∧ (Below w.heap.size w w') ∧ (w.heap.size ≤ w'.heap.size) ∧ (RdC w' 0 w.heap.size 3 vc C.length (C.flatMap cellsI))) _ hN hd ⟨0, rfl, (sl_base hN rfl s0), (sl_base hN rfl s1), (sl_hit hN rfl), (sl_hit hN rfl), (sl_hit hN rfl).trans rfl, (Nat.zero_le _), hb, (Nat.le_refl _), hC⟩ ?_
 rintro _ a5 w5 hN5 hd5 ⟨i, rfl, s5_0, s5_1, s5_4, s5_6, s5_5, hi, hb, zl_w5, hC⟩
 have z_w5 := hb.size
 refine seq_any fun K6 hK6 => seq_any fun K7 hK7 => one_reg (op_move (ev_base hN5 rfl s5_6) (op_move (ev_base hN5 rfl s5_0) (op_len_rd Try.underlying22 (ev_hit hN5 rfl) hC ?_)))
 refine op_lss (ev_hit hN5 rfl) (ev_hit hN5 rfl) (fun c10 => ?_) (fun c10 => ?_)
 ·
  refine reg_nil (hK7 _ _ (wp_cond_true (ev_hit hN5 rfl) (wp_skip (hK6 _ _ (seq_any fun K8 hK8 => wp_block ?_)))))
  refine seq_any fun K9 hK9 => one_reg (op_move (ev_base hN5 rfl s5_0) (op_move (ev_base hN5 rfl s5_6) (op_index_rd slt22 (ev_hit hN5 rfl) hC (ev_hit hN5 rfl) (by omega) (by omega) ?_)))
  intro b10 o11 h0b10 h1b10 hc12
  refine op_field fld63_2 (ev_hit hN5 rfl) (op_load1 (v := (Value.string (bs (C.getD i default).nm))) one9 (ev_hit hN5 rfl) (hc12 2 ((Value.string (bs (C.getD i default).nm))) (by decide) ((el_pi (i := i) (by omega) (by omega)) 2 ((Value.string (bs (C.getD i default).nm))) rfl)) (op_move (ev_base hN5 rfl s5_1) (op_seql (ev_hit hN5 rfl) (ev_hit hN5 rfl) (fun c19 => ?_) (fun c19 => ?_))))
  ·
   refine reg_nil (hK9 _ _ (wp_cond_true (ev_hit hN5 rfl) (one_reg ?_)))
   have hle9 := cnt_le C y i
   refine op_move (ev_base hN5 rfl s5_5) (op_add (ev_hit hN5 rfl) rfl (add64 (by omega)) ?_)
   refine op_assign (ev_hit hN5 rfl) (reg_nil (hK8 _ _ (one_reg (op_move (ev_base hN5 rfl s5_6) (op_add (ev_hit hN5 rfl) rfl (add64 (by omega)) ?_)))))
   refine op_assign (ev_hit hN5 rfl) (reg_nil ?_)
   -- round 10T 19T
   exact loop_next _ hN5 hd5 ⟨(i + 1), rfl, (sl_base hN5 rfl s5_0), (sl_base hN5 rfl s5_1), (sl_base hN5 rfl s5_4), (sl_hit hN5 rfl).trans (congrArg (Value.int .i64) (by omega)), (sl_hit hN5 rfl).trans (congrArg (Value.int .i64) (by rw [cnt_t (by omega) c19]; omega)), (by omega), hb, (by omega), hC⟩ (by omega)
  ·
   refine reg_nil ?_
   refine hK9 _ _ (wp_cond_false (ev_hit hN5 rfl) (wp_skip (hK8 _ _ (one_reg (op_move (ev_base hN5 rfl s5_6) (op_add (ev_hit hN5 rfl) rfl (add64 (by omega)) ?_))))))
   refine op_assign (ev_hit hN5 rfl) (reg_nil ?_)
   -- round 10T 19F
   exact loop_next _ hN5 hd5 ⟨(i + 1), rfl, (sl_base hN5 rfl s5_0), (sl_base hN5 rfl s5_1), (sl_base hN5 rfl s5_4), (sl_hit hN5 rfl).trans (congrArg (Value.int .i64) (by omega)), (sl_base hN5 rfl s5_5).trans (congrArg (Value.int .i64) (by rw [cnt_f (by omega) c19])), (by omega), hb, (by omega), hC⟩ (by omega)
 ·
  refine reg_nil (hK7 _ _ (wp_cond_false (ev_hit hN5 rfl) (wp_exit (then_exit (then_exit (blk_hit ?_))))))
  refine hK3 _ _ (seq_any fun K13 hK13 => ?_)
  refine one_reg (op_move (ev_base hN5 rfl s5_5) (op_eql (ev_hit hN5 rfl) rfl (fun c23 => ?_) (fun c23 => ?_)))
  ·
   refine op_assign (ev_hit hN5 rfl) (reg_nil (hK13 _ _ (wp_ret ?_)))
   refine ret1 rfl hd5 (ev_hit hN5 rfl) ⟨_, rfl, ?_⟩
   exact ⟨hb, congrArg Value.bool (by unfold onceN; rw [List.take_of_length_le (by omega)] at c23; exact (decide_eq_true (by omega)).symm)⟩
  ·
   refine op_assign (ev_hit hN5 rfl) (reg_nil (hK13 _ _ (wp_ret ?_)))
   refine ret1 rfl hd5 (ev_hit hN5 rfl) ⟨_, rfl, ?_⟩
   exact ⟨hb, congrArg Value.bool (by unfold onceN; rw [List.take_of_length_le (by omega)] at c23; exact (decide_eq_false (by omega)).symm)⟩

end Go.Proofs.Ythflnkfghogaoaa
