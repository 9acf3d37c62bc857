/- Walks, written by a program: what each function of the translation hands back. -/
import Derived.Test.YthflnkfghogaoaaB2
set_option linter.unusedVariables false
set_option linter.unusedSimpArgs false

namespace Go.Proofs.Ythflnkfghogaoaa
open Go.Gx Go.RowKit
attribute [local irreducible] wpList wpStill Code.wp Calls

theorem twin0_ret (tv : Value) (D : List DTab) (w : World) (hT : TsRd w w.heap.size tv D) (hD : D.length ≤ 1000000) (hsz : ∀ d ∈ D, d.t.cols.length ≤ 1000000 ∧ d.t.idx.length ≤ 1000000) : Ret Try.prog 60 #[(.agg #[tv, (.slice none 0 0)])] w (fun v' w' => Below w.heap.size w w' ∧ ∃ (tv' : Value) (D' : List DTab) (F' : Nat → Prop), v' = .agg #[tv', .slice none 0 0] ∧ Own w' w.heap.size 55 3 tv' D'.length (D'.flatMap cellsT) ∧ TabsR w' w.heap.size D' F' ∧ D'.map DTab.t = D.map DTab.t) := by
 have hR := hT.1
 have hb := Below.refl w.heap.size w
 refine enter (N := 53) Try.func60 rfl rfl (by simp) fun a0 hN hd hA => ?_
 have s0 : a0.tmps.getD 0 undef = (.agg #[tv, (.slice none 0 0)]) := hA 0 (by simp)
 clear hA
 refine zF fun K1 hK1 => ?_
 refine zH ?_
 refine op_box (cs := [tv, (.slice none 0 0)]) (zC hN rfl s0) rfl ?_
 intro w2 b3 lo_b3 hi_b3 hB5 E4
 have := E4.size
 have hR := hR.keep0 E4
 have hT := hT.keep0 E4
 have hb := zP hb E4 hb.size
 refine op_alloc (cs := [(.slice none 0 0), (.slice none 0 0)]) zero39 rfl ?_
 intro w6 b7 lo_b7 hi_b7 hB9 E8
 have := E8.size
 have hR := hR.keep0 E8
 have hT := hT.keep0 E8
 have hB5 := hB5.keep0 E8
 have hb := zP hb E8 hb.size
 refine zB ?_
 refine hK1 _ _ (zF fun K10 hK10 => ?_)
 refine zH ?_
 refine op_alloc (cs := [(.slice none 0 0), (.slice none 0 0)]) zero39 rfl ?_
 intro w11 b12 lo_b12 hi_b12 hB14 E13
 have := E13.size
 have hR := hR.keep0 E13
 have hT := hT.keep0 E13
 obtain ⟨hB5, hB9⟩ := kb2 E13 hB5 hB9
 have hb := zP hb E13 hb.size
 refine zB ?_
 refine hK10 _ _ (zF fun K15 hK15 => ?_)
 refine zF fun K16 hK16 => ?_
 refine zH ?_
 refine zM fld39_0 (zA hN rfl) ?_
 refine zN (v := tv) one36 (zA hN rfl) (hB5.cell rfl) ?_
 refine op_len_rd Try.underlying36 (zA hN rfl) hR ?_
 refine zG rfl ?_
 refine zB ?_
 refine hK16 _ _ (wp_block ?_)
 refine loop_m (fun mz_ az_ w' => ∃ (i : Nat) (lv : Value) (D2 : List DTab) (F0S : Nat → Prop), mz_ = D.length - i ∧ (az_.tmps.getD 1 undef = (ptr b3 0)) ∧ (az_.tmps.getD 2 undef = (ptr b7 0)) ∧ (az_.tmps.getD 3 undef = (ptr b12 0)) ∧ (az_.tmps.getD 9 undef = tv) ∧ (az_.tmps.getD 10 undef = (.int .i64 ((D.length : Nat) : Int))) ∧ (az_.tmps.getD 11 undef = (.int .i64 ((i : Nat) : Int))) ∧ (i ≤ D.length) ∧ (D2.length = i) ∧ (D2.map DTab.t = (D.take i).map DTab.t) ∧ (Below w.heap.size w w') ∧ (w11.heap.size ≤ w'.heap.size) ∧ (RdC w' 0 w.heap.size 3 tv D.length (D.flatMap cellsT)) ∧ (TsRd w' w.heap.size tv D) ∧ (Bx w' b3 39 [tv, (.slice none 0 0)]) ∧ (Bx w' b7 39 [(.slice none 0 0), (.slice none 0 0)]) ∧ (Bx w' b12 39 [lv, (.slice none 0 0)]) ∧ (TabsR w' w.heap.size D2 F0S) ∧ (Own w' w.heap.size 55 3 lv D2.length (D2.flatMap cellsT))) _ hN hd ⟨0, (.slice none 0 0), [], NoB, rfl, (zU hN rfl), (zU hN rfl), (zU hN rfl), (zU hN rfl), (zU hN rfl), (zU hN rfl), (Nat.zero_le _), rfl, rfl, hb, (Nat.le_refl _), hR, hT, hB5, hB9, hB14, (TabsR.nil _ _), (Own.nil _ _ _ _)⟩ ?_
 rintro _ a17 w17 hN17 hd17 ⟨i, lv, D2, F0S, rfl, s17_1, s17_2, s17_3, s17_9, s17_10, s17_11, hi, hl2, hM, hb, zl_w17, hR, hT, hB5, hB9, hxt, hS, hO18⟩
 have := hb.size
 refine zF fun K19 hK19 => ?_
 refine zH ?_
 refine op_lss (zC hN17 rfl s17_11) (zC hN17 rfl s17_10) (fun c12 => ?_) (fun c12 => ?_)
 ·
  refine zB ?_
  refine hK19 _ _ (zF fun K20 hK20 => ?_)
  refine wp_cond_true (zA hN17 rfl) (wp_skip (hK20 _ _ (zF fun K21 hK21 => ?_)))
  refine wp_block ?_
  refine zF fun K22 hK22 => ?_
  refine zH ?_
  refine zh slt36 (zC hN17 rfl s17_9) hR (zC hN17 rfl s17_11) zx zx ?_
  intro b23 o24 h0b23 h1b23 hc25
  refine zX (cs := [(.string (bs (D.getD i default).t.nm)), (D.getD i default).cv, (D.getD i default).iv]) agg55 rfl (zA hN17 rfl) (fun j u hu => hc25 j u (by have := (List.getElem?_eq_some_iff.1 hu).1; simpa using this) ((el_dt (i := i) zx zx) j u hu)) ?_
  refine op_alloc (cs := [(.string (bs [])), (.slice none 0 0), (.slice none 0 0)]) zero55 rfl ?_
  intro w26 b27 lo_b27 hi_b27 hB29 E28
  have dj30 : ¬ F0S b27 := fun hf => by have := (hS.lt _ hf).2; omega
  have ne_b27_lv : lv.ownBlock ≠ some b27 := fun hh => by have := (hO18.lt _ hh).2; omega
  have := E28.size
  have hR := hR.keep0 E28
  have hT := hT.keep0 E28
  have hxt := hxt.keep0 E28
  obtain ⟨hB5, hB9⟩ := kb2 E28 hB5 hB9
  have hS := hS.keepG (zi E28 NoB) (fun _ _ h => h)
  have hO18 := hO18.keep0 E28
  have hb := zP hb E28 hb.size
  have hB29_old := hB29
  refine zZ size55 (zA hN17 rfl) (zA hN17 rfl) rfl (by simp only [List.all_cons, List.all_nil, Bool.true_and, Bool.and_true, (hT.2 (D.getD i default) (getD_mem zx)).1.one, (hT.2 (D.getD i default) (getD_mem zx)).2.one]; try rfl) hB29 rfl ?_
  intro w33 hB29 E34
  have := E34.size
  have hR := hR.keep E34 sR
  have hT := hT.keep E34 sR
  have hB5 := hB5.keep E34 (sN hB5 hB29_old)
  have hB9 := hB9.keep E34 (sN hB9 hB29_old)
  have hxt := hxt.keep E34 (sN hxt hB29_old)
  have hS := hS.keepG (Gr.of E34) (Dj.one dj30)
  have hO18 := hO18.keep E34 (.inr ne_b27_lv)
  have hb := below_step1 hb E34 hb.size zx
  refine zB ?_
  refine hK22 _ _ (zF fun K35 hK35 => ?_)
  have hti := hT.2 (D.getD i default) (getD_mem zx)
  have htl := hsz (D.getD i default) (getD_mem zx)
  have htc := hti.1
  have htx := hti.2
  refine reg_split (hd := [_, _, _, _, _, _, _, _]) (tl := _) 8 mixed zy rfl rfl ?_
  refine any_treek (φ := phiV [(fun uz => uz = (ptr b27 1)), (fun uz => uz = (D.getD i default).cv), (fun _ => True), (fun uz => uz = (ptr b27 2)), (fun uz => uz = (D.getD i default).iv), (fun _ => True), (fun uz => uz = (ptr b27 1)), (fun _ => True)]) (G := fun t9 w' => 7 ∈ t9 → (Bx w' b27 55 [(.string (bs (D.getD i default).t.nm)), (D.getD i default).cv, (D.getD i default).iv])) [2, 5, 7] zy zy zy zy zy hN17 (fun _ w1 w2 E h hc9 => (h hc9).keep0 E) (fun _ => hB29) (ObRk9.cons ?_ (ObRk9.cons ?_ (ObRk9.pass rfl (ObRk9.cons ?_ (ObRk9.cons ?_ (ObRk9.pass rfl (ObRk9.cons ?_ (ObRk9.pass rfl (ObRk9.nil))))))))) (by simp only [putsL_defers]) ?_
  ·
   intro eA tA aA wA hNA hckA hGA hbsA hdpA
   have qA_5 := (hbsA 5 rfl).trans (zU hN17 rfl)
   refine zM fld55_1 (zC hNA rfl qA_5) ?_
   exact obTk_end rfl rfl
  ·
   intro eA tA aA wA hNA hckA hGA hbsA hdpA
   have qA_15 : Sl aA 15 (ptr b27 1) := (hdpA 0 _ 15 zy rfl rfl).2 rfl
   have hGA := hGA (hckA 7 rfl zy)
   refine zN (v := (D.getD i default).cv) one41 (zC hNA rfl qA_15) (hGA.cell rfl) ?_
   exact obTk_end rfl rfl
  ·
   intro eA tA aA wA hNA hckA hGA hbsA hdpA
   have qA_5 := (hbsA 5 rfl).trans (zU hN17 rfl)
   refine zM fld55_2 (zC hNA rfl qA_5) ?_
   exact obTk_end rfl rfl
  ·
   intro eA tA aA wA hNA hckA hGA hbsA hdpA
   have qA_18 : Sl aA 18 (ptr b27 2) := (hdpA 3 _ 18 zy rfl rfl).2 rfl
   have hGA := hGA (hckA 7 rfl zy)
   refine zN (v := (D.getD i default).iv) one53 (zC hNA rfl qA_18) (hGA.cell rfl) ?_
   exact obTk_end rfl rfl
  ·
   intro eA tA aA wA hNA hckA hGA hbsA hdpA
   have qA_5 := (hbsA 5 rfl).trans (zU hN17 rfl)
   refine zM fld55_1 (zC hNA rfl qA_5) ?_
   exact obTk_end rfl rfl
  refine ktk_step (rs := [2]) zy ?_
  refine one_mem ?_
  intro w37 E37 _ a37 hN37 hbs37 hdp37 o_ ho_; obtain rfl := zE ho_
  have := E37.size
  have hR := hR.keep0 E37
  have hT := hT.keep0 E37
  have hxt := hxt.keep0 E37
  obtain ⟨hB5, hB9⟩ := kb2 E37 hB5 hB9
  have hS := hS.keepG (zi E37 NoB) (fun _ _ h => h)
  have hO18 := hO18.keep0 E37
  have hB29 := hB29.keep0 E37
  have htc := htc.keep0 E37
  have htx := htx.keep0 E37
  have hb := zP hb E37 hb.size
  have q37_16 : Sl a37 16 (D.getD i default).cv := (hdp37 1 _ 16 zy rfl rfl).2 rfl
  refine zj ok89 (CloneC ((D.getD i default).t.cols) _ _ (by first | assumption | omega | (simp only [List.length_append, List.length_cons, List.length_nil, List.length_drop, List.length_take]; omega) | (dsimp only; omega) | decide | (simp [keyV, be8_len]; done)) (htc.mono (Nat.zero_le _) zx)) ⟨(zC hN37 rfl q37_16), trivial⟩ ?_
  rintro v38 w39 ⟨E40, hO38⟩
  have E40 := zQ E40
  have := E40.size
  have hR := hR.keep0 E40
  have hT := hT.keep0 E40
  have hxt := hxt.keep0 E40
  obtain ⟨hB5, hB9⟩ := kb2 E40 hB5 hB9
  have hS := hS.keepG (zi E40 NoB) (fun _ _ h => h)
  have hO18 := hO18.keep0 E40
  have hB29 := hB29.keep0 E40
  have htx := htx.keep0 E40
  have hb := zP hb E40 hb.size
  have hO38 := hO38.mono (base' := w.heap.size) zx
  refine ktk_end (G := fun t9 w' => 7 ∈ t9 → (Bx w' b27 55 [(.string (bs (D.getD i default).t.nm)), (D.getD i default).cv, (D.getD i default).iv])) (todo := [2, 5, 7]) (i := 2) rfl (fun _ => hB29) ?_
  refine ktk_step (rs := [5]) zy ?_
  refine one_mem ?_
  intro w43 E43 _ a43 hN43 hbs43 hdp43 o_ ho_; obtain rfl := zE ho_
  have := E43.size
  have hR := hR.keep0 E43
  have hT := hT.keep0 E43
  have hxt := hxt.keep0 E43
  obtain ⟨hB5, hB9⟩ := kb2 E43 hB5 hB9
  have hS := hS.keepG (zi E43 NoB) (fun _ _ h => h)
  have hO18 := hO18.keep0 E43
  have hB29 := hB29.keep0 E43
  have htx := htx.keep0 E43
  have hO38 := hO38.keep0 E43
  have hb := zP hb E43 hb.size
  have q43_19 : Sl a43 19 (D.getD i default).iv := (hdp43 4 _ 19 zy rfl rfl).2 rfl
  refine zj ok90 (CloneS ((D.getD i default).t.idx) _ _ (by first | assumption | omega | (simp only [List.length_append, List.length_cons, List.length_nil, List.length_drop, List.length_take]; omega) | (dsimp only; omega) | decide | (simp [keyV, be8_len]; done)) (htx.mono (Nat.zero_le _) zx)) ⟨(zC hN43 rfl q43_19), trivial⟩ ?_
  rintro v44 w45 ⟨E46, hO44⟩
  have E46 := zQ E46
  have := E46.size
  have hR := hR.keep0 E46
  have hT := hT.keep0 E46
  have hxt := hxt.keep0 E46
  obtain ⟨hB5, hB9⟩ := kb2 E46 hB5 hB9
  have hS := hS.keepG (zi E46 NoB) (fun _ _ h => h)
  have hO18 := hO18.keep0 E46
  have hB29 := hB29.keep0 E46
  have hO38 := hO38.keep0 E46
  have hb := zP hb E46 hb.size
  have hO44 := hO44.mono (base' := w.heap.size) zx
  refine ktk_end (G := fun t9 w' => 7 ∈ t9 → (Bx w' b27 55 [(.string (bs (D.getD i default).t.nm)), (D.getD i default).cv, (D.getD i default).iv])) (todo := [5, 7]) (i := 5) rfl (fun _ => hB29) ?_
  refine ktk_step (rs := [7]) zy ?_
  refine one_mem ?_
  intro w49 E49 _ a49 hN49 hbs49 hdp49 o_ ho_; obtain rfl := zE ho_
  have := E49.size
  have hR := hR.keep0 E49
  have hT := hT.keep0 E49
  have hxt := hxt.keep0 E49
  obtain ⟨hB5, hB9⟩ := kb2 E49 hB5 hB9
  have hS := hS.keepG (zi E49 NoB) (fun _ _ h => h)
  have hO18 := hO18.keep0 E49
  have hB29 := hB29.keep0 E49
  have hO38 := hO38.keep0 E49
  have hO44 := hO44.keep0 E49
  have hb := zP hb E49 hb.size
  have q49_21 : Sl a49 21 (ptr b27 1) := (hdp49 6 _ 21 zy rfl rfl).2 rfl
  have q49_17 : Sl a49 17 v38 := (zE ((hdp49 2 _ 17 zy rfl rfl).1 rfl)).symm
  have hB29_old := hB29
  refine za (vs := [v38]) (cs' := [(.string (bs (D.getD i default).t.nm)), v38, (D.getD i default).iv]) size41 (zC hN49 rfl q49_21) (zC hN49 rfl q49_17) hO38.cl rfl (by simp only [List.all_cons, List.all_nil, Bool.true_and, Bool.and_true, hO38.one]; try rfl) hB29 (zI rfl) rfl ?_
  intro w52 hB29 E53
  have := E53.size
  have hR := hR.keep E53 sR
  have hT := hT.keep E53 sR
  have hB5 := hB5.keep E53 (sN hB5 hB29_old)
  have hB9 := hB9.keep E53 (sN hB9 hB29_old)
  have hxt := hxt.keep E53 (sN hxt hB29_old)
  have hS := hS.keepG (Gr.of E53) (Dj.one dj30)
  have hO18 := hO18.keep E53 (.inr ne_b27_lv)
  have hO38 := hO38.keepX hB29_old E53 zz
  have hO44 := hO44.keepX hB29_old E53 zz
  have hb := below_step1 hb E53 hb.size zx
  refine ktk_end0 (G := fun t9 w' => 7 ∈ t9 → (Bx w' b27 55 [(.string (bs (D.getD i default).t.nm)), (D.getD i default).cv, (D.getD i default).iv])) (todo := [7]) (i := 7) rfl (fun h => absurd h zz) ?_
  intro w54 E54 a54 hN54 hd54 hbs54 hph54
  have hd54 := hd54.trans ((by simp only [putsL_defers] : _ = _).trans hd17)
  have := E54.size
  have hR := hR.keep0 E54
  have hT := hT.keep0 E54
  have hxt := hxt.keep0 E54
  obtain ⟨hB5, hB9⟩ := kb2 E54 hB5 hB9
  have hS := hS.keepG (zi E54 NoB) (fun _ _ h => h)
  have hO18 := hO18.keep0 E54
  have hO38 := hO38.keep0 E54
  have hO44 := hO44.keep0 E54
  have hB29 := hB29.keep0 E54
  have hb := zP hb E54 hb.size
  have s54_1 := (hbs54 1 rfl).trans (zL hN17 rfl s17_1)
  have s54_2 := (hbs54 2 rfl).trans (zL hN17 rfl s17_2)
  have s54_3 := (hbs54 3 rfl).trans (zL hN17 rfl s17_3)
  have s54_5 := (hbs54 5 rfl).trans (zU hN17 rfl)
  have s54_9 := (hbs54 9 rfl).trans (zL hN17 rfl s17_9)
  have s54_10 := (hbs54 10 rfl).trans (zL hN17 rfl s17_10)
  have s54_11 := (hbs54 11 rfl).trans (zL hN17 rfl s17_11)
  have s54_20 : Sl a54 20 v44 := (zE ((hph54 5 _ 20 rfl rfl).1 rfl)).symm
  refine split_end ?_
  refine from_seq (tl := [_, _]) zz zy rfl ?_
  refine zM fld55_2 (zC hN54 rfl s54_5) ?_
  have hB29_old := hB29
  refine za (vs := [v44]) (cs' := [(.string (bs (D.getD i default).t.nm)), v38, v44]) size53 (zA hN54 rfl) (zC hN54 rfl s54_20) hO44.cl rfl (by simp only [List.all_cons, List.all_nil, Bool.true_and, Bool.and_true, hO44.one]; try rfl) hB29 (zI rfl) rfl ?_
  intro w57 hB29 E58
  have := E58.size
  have hR := hR.keep E58 sR
  have hT := hT.keep E58 sR
  have hB5 := hB5.keep E58 (sN hB5 hB29_old)
  have hB9 := hB9.keep E58 (sN hB9 hB29_old)
  have hxt := hxt.keep E58 (sN hxt hB29_old)
  have hS := hS.keepG (Gr.of E58) (Dj.one dj30)
  have hO18 := hO18.keep E58 (.inr ne_b27_lv)
  have hO38 := hO38.keepX hB29_old E58 zz
  have hO44 := hO44.keepX hB29_old E58 zz
  have hb := below_step1 hb E58 hb.size zx
  refine zB ?_
  refine hK35 _ _ (zH ?_)
  refine zM fld39_0 (zC hN54 rfl s54_3) ?_
  refine zN (v := lv) one36 (zA hN54 rfl) (hxt.cell rfl) ?_
  refine zY agg55 rfl (zC hN54 rfl s54_5) hB29 ?_
  refine op_bslice (e := 55) (pv := [(0, (.agg #[(.string (bs (D.getD i default).t.nm)), v38, v44]))]) (cs := [(.string (bs (D.getD i default).t.nm)), v38, v44]) ⟨rfl, (zA hN54 rfl), trivial⟩ (by obtain ⟨_, _, _, rfl⟩ := hO38.sl; obtain ⟨_, _, _, rfl⟩ := hO44.sl; kernel_rfl) ?_
  intro w59 b60 lo_b60 hi_b60 hB62 E61
  have := E61.size
  have hR := hR.keep0 E61
  have hT := hT.keep0 E61
  have hxt := hxt.keep0 E61
  obtain ⟨hB5, hB9⟩ := kb2 E61 hB5 hB9
  have hS := hS.keepG (zi E61 NoB) (fun _ _ h => h)
  have hO18 := hO18.keep0 E61
  have hO38 := hO38.keep0 E61
  have hO44 := hO44.keep0 E61
  have hb := zP hb E61 hb.size
  have hP69 := hO18
  refine op_append slt36 (zA hN54 rfl) hP69 (zA hN54 rfl) (Src.ofRd Try.underlying36 zz (RdC.ofBx (sz := 3) (n := 1) hB62 rfl zz) (by simp only [List.all_cons, List.all_nil, Bool.true_and, Bool.and_true, hO38.one, hO44.one]; try rfl)) (by unfold maxLen; omega) zx hb.size ?_
  intro v64 w65 hO67 E66 hm68
  have := E66.size
  have hR := hR.keepO hP69 E66 zx
  have hT := hT.keepO hP69 E66 zx
  have hB5 := hB5.keepO hP69 E66 zz
  have hB9 := hB9.keepO hP69 E66 zz
  have hxt := hxt.keepO hP69 E66 zz
  have hS := hS.keepG (Gr.of E66) (hS.notOwn hP69 zz zz).symm
  have hO38 := hO38.keepT hP69 E66 zz
  have hO44 := hO44.keepT hP69 E66 zz
  have hb := below_stepO hb hP69 E66 hb.size zx
  have hO67 : Own w65 w.heap.size 55 3 v64 (D2 ++ [(DTab.mk (D.getD i default).t v38 v44)]).length (((D2 ++ [(DTab.mk (D.getD i default).t v38 v44)])).flatMap cellsT) := by exact hO67.cast (by simp) (by simp [cellsT])
  refine zM fld39_0 (zC hN54 rfl s54_3) ?_
  have hxt_old := hxt
  refine za (vs := [v64]) (cs' := [v64, (.slice none 0 0)]) size36 (zA hN54 rfl) (zA hN54 rfl) hO67.cl rfl (by simp only [List.all_cons, List.all_nil, Bool.true_and, Bool.and_true, hO67.one]; try rfl) hxt (zI rfl) rfl ?_
  intro w73 hxt E74
  have := E74.size
  have hR := hR.keep E74 sR
  have hT := hT.keep E74 sR
  have hB5 := hB5.keep E74 sB
  have hB9 := hB9.keep E74 sB
  have hS := hS.keepG (Gr.of E74) (Dj.one (hS.notBx hxt_old zz zz))
  have hO38 := hO38.keepX hxt_old E74 zz
  have hO44 := hO44.keepX hxt_old E74 zz
  have hO67 := hO67.keepX hxt_old E74 zz
  have hb := below_step1 hb E74 hb.size zx
  refine zB ?_
  refine hK21 _ _ (zH ?_)
  refine op_add (zC hN54 rfl s54_11) rfl (add64 zx) ?_
  refine zG (zA hN54 rfl) ?_
  refine zB ?_
  -- round 12T
  exact zg _ hN54 hd54 ⟨(i + 1), v64, (D2 ++ [(DTab.mk (D.getD i default).t v38 v44)]), _, rfl, (zL hN54 rfl s54_1), (zL hN54 rfl s54_2), (zL hN54 rfl s54_3), (zL hN54 rfl s54_9), (zL hN54 rfl s54_10), (zU hN54 rfl).trans (congrArg (Value.int .i64) zx), zx, (by simp; omega), (by rw [List.map_append, hM, take_map_snoc _ zx]; rfl), hb, zx, hR, hT, hB5, hB9, hxt, (hS.snoc (d := (DTab.mk (D.getD i default).t v38 v44)) hO38 hO44), (hO67.cast (by simp) rfl)⟩ zx
 refine zB ?_
 refine hK19 _ _ (zF fun K75 hK75 => ?_)
 refine wp_cond_false (zA hN17 rfl) (wp_exit (then_exit (then_exit (blk_hit ?_))))
 refine hK15 _ _ (zF fun K76 hK76 => ?_)
 refine zF fun K77 hK77 => ?_
 refine zH ?_
 refine zM fld39_1 (zC hN17 rfl s17_1) ?_
 refine zN (v := (Value.slice none 0 0)) one37 (zA hN17 rfl) (hB5.cell rfl) ?_
 refine op_len_rd Try.underlying37 (zA hN17 rfl) (RdC.nil _ 0 0 1) ?_
 refine zG rfl ?_
 refine zB ?_
 refine hK77 _ _ (wp_block ?_)
 refine wp_loop_rounds 1 ?_
 refine rounds_any fun K78 hK78 => ?_
 refine zF fun K79 hK79 => ?_
 refine zH ?_
 refine op_bin (v := .bool false) (zA hN17 rfl) (zA hN17 rfl) (by rw [binOp_lss]; rfl) (zB ?_)
 refine hK79 _ _ (zF fun K80 hK80 => ?_)
 refine wp_cond_false (zA hN17 rfl) (wp_exit (then_exit (then_exit (blk_hit ?_))))
 refine hK76 _ _ (zF fun K81 hK81 => ?_)
 refine zH ?_
 refine zY agg39 rfl (zC hN17 rfl s17_3) hxt ?_
 have hB9_old := hB9
 refine zZ size39 (zC hN17 rfl s17_2) (zA hN17 rfl) rfl (by simp only [List.all_cons, List.all_nil, Bool.true_and, Bool.and_true, hO18.one]; try rfl) hB9 rfl ?_
 intro w84 hB9 E85
 have := E85.size
 have hS := hS.keepG (Gr.of E85) (Dj.one (hS.notBx hB9_old zz zz))
 have hO18 := hO18.keepX hB9_old E85 zz
 have hb := below_step1 hb E85 hb.size zx
 refine zB ?_
 refine hK81 _ _ (wp_ret ?_)
 refine retC rfl hd17 (zC hN17 rfl s17_2) agg39 rfl hB9 ⟨_, rfl, ?_⟩
 exact ⟨hb, _, _, _, rfl, hO18, hS, by rw [hM, List.take_of_length_le zx]⟩

end Go.Proofs.Ythflnkfghogaoaa

namespace Go.Gx
theorem dt_get {D D' : List DTab} (h : D'.map DTab.t = D.map DTab.t) (k : Nat) : (D'.getD k default).t = (D.getD k default).t := by
  have e : ∀ l : List DTab, (l.getD k default).t = (l.map DTab.t).getD k (default : DTab).t := fun l => by
    simp only [List.getD_eq_getElem?_getD, List.getElem?_map]; cases l[k]? <;> rfl
  rw [e, e, h]
theorem dt_len {D D' : List DTab} (h : D'.map DTab.t = D.map DTab.t) : D'.length = D.length := by have := congrArg List.length h; simpa using this
theorem tab_find (D : List DTab) (nm : List UInt8) : tabAt (D.map DTab.t) nm = (D.find? fun d => decide (d.t.nm = nm)).map DTab.t := by unfold tabAt; rw [List.find?_map]; rfl
theorem tab_none {D : List DTab} {nm : List UInt8} (h : (ixOf (fun d => decide (d.t.nm = nm)) D) < 0) : tabAt (D.map DTab.t) nm = none := by
  rcases ixOf_cases (fun d : DTab => decide (d.t.nm = nm)) D with ⟨_, h2⟩ | ⟨i, hi, _⟩
  · rw [tab_find, h2]; rfl
  · omega
theorem tab_some {D : List DTab} {nm : List UInt8} (h : ¬ (ixOf (fun d => decide (d.t.nm = nm)) D) < 0) : ∃ k : Nat, ixOf (fun d => decide (d.t.nm = nm)) D = k ∧ k < D.length ∧ (D.getD k default).t.nm = nm ∧ tabAt (D.map DTab.t) nm = some (D.getD k default).t := by
  rcases ixOf_cases (fun d : DTab => decide (d.t.nm = nm)) D with ⟨h1, _⟩ | ⟨i, hi, hl, hp, hf⟩
  · omega
  · exact ⟨i, hi, hl, by simpa using hp, by rw [tab_find, hf]; rfl⟩
theorem cols_snoc {x : List UInt8} {l : List PCol} {i : Nat} (h : i < l.length) : colsOf x (l.take (i + 1)) = colsOf x (l.take i) ++ [⟨0, x, (l.getD i default).nm⟩] := take_map_snoc _ h
theorem kinds_snoc {l : List PCol} {i : Nat} (h : i < l.length) : kindsOf (l.take (i + 1)) = kindsOf (l.take i) ++ [(l.getD i default).kind] := take_map_snoc _ h
theorem cols_len {x : List UInt8} {l : List PCol} : (colsOf x l).length = l.length := List.length_map _
theorem kinds_len {l : List PCol} : (kindsOf l).length = l.length := List.length_map _
theorem tab_mem {T : List PTab} {nm : List UInt8} {t : PTab} (h : tabAt T nm = some t) : t ∈ T := List.mem_of_find?_eq_some h
end Go.Gx
namespace Go.Gx
def joinC (T : List PTab) (f : StF) (C : List PItm) : List PItm := if f.join = [] then C else match tabAt T f.join with | some u => C ++ colsOf f.join u.cols | none => C
def joinK (T : List PTab) (f : StF) (K : List Int) : List Int := if f.join = [] then K else match tabAt T f.join with | some u => K ++ kindsOf u.cols | none => K
def joinE (T : List PTab) (f : StF) (C : List PItm) (K : List Int) : Int :=
  if f.join = [] then 0 else match tabAt T f.join with | none => 9 | some u => if f.join = f.tb then 12 else onE (C ++ colsOf f.join u.cols) (K ++ kindsOf u.cols) f.on
theorem joinE_0 {T : List PTab} {f : StF} {C : List PItm} {K : List Int} (h : f.join = []) : joinE T f C K = 0 ∧ joinC T f C = C ∧ joinK T f K = K := ⟨if_pos h, if_pos h, if_pos h⟩
theorem joinE_n {T : List PTab} {f : StF} {C : List PItm} {K : List Int} (h : ¬ f.join = []) (h2 : (tabAt T f.join).isSome = false) : joinE T f C K = 9 := by
  unfold joinE; rw [if_neg h]; cases hh : tabAt T f.join with
  | none => rfl
  | some u => rw [hh] at h2; cases h2
theorem joinE_s {T : List PTab} {f : StF} {C : List PItm} {K : List Int} {u : PTab} (h : ¬ f.join = []) (h2 : tabAt T f.join = some u) :
    joinE T f C K = (if f.join = f.tb then 12 else onE (C ++ colsOf f.join u.cols) (K ++ kindsOf u.cols) f.on) ∧ joinC T f C = C ++ colsOf f.join u.cols ∧ joinK T f K = K ++ kindsOf u.cols := by
  unfold joinE joinC joinK; rw [if_neg h, if_neg h, if_neg h, h2]; exact ⟨rfl, rfl, rfl⟩
theorem joinC_le {T : List PTab} {f : StF} {C : List PItm} {n : Nat} (h : ∀ t ∈ T, t.cols.length ≤ n) : (joinC T f C).length ≤ C.length + n := by
  unfold joinC; split
  · omega
  · cases hh : tabAt T f.join with
    | none => simp
    | some u => have := h u (tab_mem hh); simp [cols_len]; omega
theorem joinK_le {T : List PTab} {f : StF} {K : List Int} {n : Nat} (h : ∀ t ∈ T, t.cols.length ≤ n) : (joinK T f K).length ≤ K.length + n := by
  unfold joinK; split
  · omega
  · cases hh : tabAt T f.join with
    | none => simp
    | some u => have := h u (tab_mem hh); simp [kinds_len]; omega
theorem selsE_none {T : List PTab} {f : StF} (h : (tabAt T f.tb).isSome = false) : selsE T f = 9 := by
  unfold selsE; cases hh : tabAt T f.tb with
  | none => rfl
  | some u => rw [hh] at h; cases h
theorem selsE_some {T : List PTab} {f : StF} {t : PTab} (h : tabAt T f.tb = some t) : selsE T f = if joinE T f (colsOf f.tb t.cols) (kindsOf t.cols) ≠ 0 then joinE T f (colsOf f.tb t.cols) (kindsOf t.cols) else selE f (joinC T f (colsOf f.tb t.cols)) (joinK T f (kindsOf t.cols)) := by
  unfold selsE; rw [h]
  by_cases hj : f.join = []
  · obtain ⟨a, b, c⟩ := @joinE_0 T f (colsOf f.tb t.cols) (kindsOf t.cols) hj
    rw [a, b, c, if_neg (by simp)]
    simp only []; rw [if_pos hj]
  · cases hh : tabAt T f.join with
    | none => rw [joinE_n hj (by rw [hh]; rfl), if_pos (by decide)]; simp only []; rw [if_neg hj]
    | some u =>
      obtain ⟨a, b, c⟩ := @joinE_s T f (colsOf f.tb t.cols) (kindsOf t.cols) u hj hh
      rw [a, b, c]; simp only []; rw [if_neg hj]
      by_cases he : f.join = f.tb
      · rw [if_pos he, if_pos he, if_pos (by decide)]
      · rw [if_neg he, if_neg he]
theorem selE_1 {f : StF} {C : List PItm} {K : List Int} (h : firstE (f.items.map (itemE C K)) ≠ 0) : selE f C K = firstE (f.items.map (itemE C K)) := if_pos h
theorem selE_2 {f : StF} {C : List PItm} {K : List Int} (h : firstE (f.items.map (itemE C K)) = 0) (h2 : 0 < aggsN f.items ∧ (aggsN f.items < f.items.length ∨ 0 < f.ord.length)) : selE f C K = 11 := by
  unfold selE; rw [if_neg (fun g => g h), if_pos h2]
theorem selE_3 {f : StF} {C : List PItm} {K : List Int} (h : firstE (f.items.map (itemE C K)) = 0) (h2 : ¬ (0 < aggsN f.items ∧ (aggsN f.items < f.items.length ∨ 0 < f.ord.length))) (h3 : whereX C K f.wh ≠ 0) : selE f C K = whereX C K f.wh := by
  unfold selE; rw [if_neg (fun g => g h), if_neg h2, if_pos h3]
theorem selE_4 {f : StF} {C : List PItm} {K : List Int} (h : firstE (f.items.map (itemE C K)) = 0) (h2 : ¬ (0 < aggsN f.items ∧ (aggsN f.items < f.items.length ∨ 0 < f.ord.length))) (h3 : whereX C K f.wh = 0) : selE f C K = firstE (f.ord.map fun e => (colAt C K e.tb e.nm).2) := by
  unfold selE; rw [if_neg (fun g => g h), if_neg h2, if_neg (fun g => g h3)]
theorem aggs_t {l : List PItm} {i : Nat} (h : i < l.length) (h2 : (l.getD i default).agg ≠ 0) : aggsN (l.take (i + 1)) = aggsN (l.take i) + 1 := by
  have : l.take (i + 1) = l.take i ++ [l.getD i default] := by simp [List.getD_eq_getElem?_getD, h]
  unfold aggsN; rw [this, List.countP_append]; simp only [List.countP_cons, List.countP_nil, decide_eq_true h2, if_true]
theorem aggs_f {l : List PItm} {i : Nat} (h : i < l.length) (h2 : (l.getD i default).agg = 0) : aggsN (l.take (i + 1)) = aggsN (l.take i) := by
  have : l.take (i + 1) = l.take i ++ [l.getD i default] := by simp [List.getD_eq_getElem?_getD, h]
  unfold aggsN; rw [this, List.countP_append]; simp only [List.countP_cons, List.countP_nil, h2]; simp
theorem aggs_le (l : List PItm) : aggsN l ≤ l.length := List.countP_le_length
end Go.Gx
namespace Go.Gx
theorem cols_t {E : List XE} (h : firstE (E.map fun e => if e.op = 2 ∧ e.args.length = 0 then (0 : Int) else 1) = 0) : colsOk E = true := by
  unfold colsOk; rw [List.all_eq_true]; intro e he
  have := firstE_all h _ (List.mem_map.2 ⟨e, he, rfl⟩)
  by_cases hc : e.op = 2 ∧ e.args.length = 0
  · simp [hc.1, hc.2]
  · rw [if_neg hc] at this; exact absurd this (by decide)
theorem cols_f {E : List XE} (h : ¬ firstE (E.map fun e => if e.op = 2 ∧ e.args.length = 0 then (0 : Int) else 1) = 0) : colsOk E = false := by
  rw [← Bool.not_eq_true]; intro hc; apply h
  unfold colsOk at hc; rw [List.all_eq_true] at hc
  refine firstE_zero fun x hx => ?_
  obtain ⟨e, he, rfl⟩ := List.mem_map.1 hx
  have := hc e he
  rw [Bool.and_eq_true, decide_eq_true_eq, decide_eq_true_eq] at this
  show (if _ then _ else _) = _
  rw [if_pos this]
end Go.Gx
namespace Go.Gx
theorem colIx_of (l : List PCol) (nm : List UInt8) : ixOf (fun d => decide (d.nm = nm)) l = colIx l nm := rfl
theorem colIx_lt {l : List PCol} {nm : List UInt8} (h : ¬ colIx l nm < 0) : (colIx l nm).toNat < l.length ∧ ((colIx l nm).toNat : Int) = colIx l nm := by
  rcases ixOf_cases (fun d : PCol => decide (d.nm = nm)) l with ⟨h1, _⟩ | ⟨i, hi, hl, _⟩
  · rw [colIx_of] at h1; omega
  · rw [colIx_of] at hi; omega
theorem updE_1 {t : PTab} {f : StF} (h : colIx t.cols f.nm < 0) : updE t f = 10 := if_pos h
theorem updE_2 {t : PTab} {f : StF} (h : ¬ colIx t.cols f.nm < 0) (h2 : colIx t.cols f.nm = 0 ∨ (t.cols.getD (colIx t.cols f.nm).toNat default).ref ≠ []) : updE t f = 24 := by unfold updE; rw [if_neg h, if_pos h2]
theorem updE_3 {t : PTab} {f : StF} (h : ¬ colIx t.cols f.nm < 0) (h2 : ¬ (colIx t.cols f.nm = 0 ∨ (t.cols.getD (colIx t.cols f.nm).toNat default).ref ≠ [])) (h3 : mustX (colsOf f.tb t.cols) (kindsOf t.cols) (f.vals.getD 0 default) (t.cols.getD (colIx t.cols f.nm).toNat default).kind ≠ 0) :
    updE t f = mustX (colsOf f.tb t.cols) (kindsOf t.cols) (f.vals.getD 0 default) (t.cols.getD (colIx t.cols f.nm).toNat default).kind := by unfold updE; rw [if_neg h, if_neg h2, if_pos h3]
theorem updE_4 {t : PTab} {f : StF} (h : ¬ colIx t.cols f.nm < 0) (h2 : ¬ (colIx t.cols f.nm = 0 ∨ (t.cols.getD (colIx t.cols f.nm).toNat default).ref ≠ [])) (h3 : mustX (colsOf f.tb t.cols) (kindsOf t.cols) (f.vals.getD 0 default) (t.cols.getD (colIx t.cols f.nm).toNat default).kind = 0) :
    updE t f = whereX (colsOf f.tb t.cols) (kindsOf t.cols) f.wh := by unfold updE; rw [if_neg h, if_neg h2, if_neg (fun g => g h3)]
theorem range_map_take {α : Type} [Inhabited α] (g : Nat → α) (n i : Nat) (h : i < n) : (((List.range n).map g).getD i default) = g i := by simp [List.getD_eq_getElem?_getD, h]
def insL (E : List XE) (l : List PCol) : List Int := (List.range E.length).map fun i => mustX [] [] (E.getD i default) (l.getD i default).kind
theorem insL_len {E : List XE} {l : List PCol} : (insL E l).length = E.length := by simp [insL]
theorem insL_at {E : List XE} {l : List PCol} {i : Nat} (h : i < E.length) : (insL E l).getD i 0 = mustX [] [] (E.getD i default) (l.getD i default).kind := range_map_take (α := Int) _ _ _ h
theorem insL_hit {E : List XE} {l : List PCol} {i : Nat} (h : i < E.length) (h2 : ∀ j, j < i → (insL E l).getD j 0 = 0) (h3 : mustX [] [] (E.getD i default) (l.getD i default).kind ≠ 0) : firstE (insL E l) = mustX [] [] (E.getD i default) (l.getD i default).kind := by
  rw [firstE_at (i := i) (by rw [insL_len]; exact h) h2 (by rw [insL_at h]; exact h3), insL_at h]
theorem insL_none {E : List XE} {l : List PCol} {i : Nat} (h : E.length ≤ i) (h2 : ∀ j, j < i → (insL E l).getD j 0 = 0) : firstE (insL E l) = 0 := by
  refine firstE_zero fun x hx => ?_
  obtain ⟨j, hj, rfl⟩ := List.mem_iff_getElem.1 hx
  have := h2 j (by rw [insL_len] at hj; omega)
  simpa [List.getD_eq_getElem?_getD, hj] using this
end Go.Gx

namespace Go.Proofs.Ythflnkfghogaoaa
open Go.Gx Go.RowKit
attribute [local irreducible] wpList wpStill Code.wp Calls

theorem Table_ret (tv : Value) (D : List DTab) (x : List UInt8) (w : World) (hT : TsRd w w.heap.size tv D) (hD : D.length ≤ 1000000) (hsz : ∀ d ∈ D, d.t.cols.length ≤ 1000000 ∧ d.t.idx.length ≤ 1000000) : Ret Try.prog 57 #[(.agg #[tv, (.slice none 0 0)]), (.string (bs x))] w (fun v' w' => Below w.heap.size w w' ∧ ((tabAt (D.map DTab.t) x = none ∧ v' = .tuple #[.agg #[.string (bs []), .slice none 0 0, .slice none 0 0], .bool false]) ∨ (∃ d : DTab, tabAt (D.map DTab.t) x = some d.t ∧ v' = .tuple #[.agg #[.string (bs d.t.nm), d.cv, d.iv], .bool true] ∧ Own w' w.heap.size 68 3 d.cv d.t.cols.length (d.t.cols.flatMap cellsC) ∧ Own w' w.heap.size 9 1 d.iv d.t.idx.length (d.t.idx.map sv)))) := by
 have hR := hT.1
 have hb := Below.refl w.heap.size w
 refine enter (N := 20) Try.func57 rfl rfl (by simp) fun a0 hN hd hA => ?_
 have s0 : a0.tmps.getD 0 undef = (.agg #[tv, (.slice none 0 0)]) := hA 0 (by simp)
 have s1 : a0.tmps.getD 1 undef = (.string (bs x)) := hA 1 (by simp)
 clear hA
 refine zF fun K1 hK1 => ?_
 refine zH ?_
 refine op_box (cs := [tv, (.slice none 0 0)]) (zC hN rfl s0) rfl ?_
 intro w2 b3 lo_b3 hi_b3 hB5 E4
 have := E4.size
 have hR := hR.keep0 E4
 have hT := hT.keep0 E4
 have hb := zP hb E4 hb.size
 refine op_alloc (cs := [(.string (bs [])), (.slice none 0 0), (.slice none 0 0)]) zero55 rfl ?_
 intro w6 b7 lo_b7 hi_b7 hB9 E8
 have := E8.size
 have hR := hR.keep0 E8
 have hT := hT.keep0 E8
 have hB5 := hB5.keep0 E8
 have hb := zP hb E8 hb.size
 refine zD rfl ?_
 refine zB ?_
 refine hK1 _ _ (zF fun K10 hK10 => ?_)
 refine zH ?_
 refine zM fld39_0 (zA hN rfl) ?_
 refine zN (v := tv) one36 (zA hN rfl) (hB5.cell rfl) ?_
 refine zG (zC hN rfl s1) ?_
 refine zj ok84 (findTable (L := (D : List DTab)) x (hR.mono (Nat.zero_le _) zx)) ⟨(zA hN rfl), ⟨(zA hN rfl), ⟨rfl, trivial⟩⟩⟩ ?_
 rintro _ w11 ⟨E12, rfl⟩
 have E12 := zQ E12
 have := E12.size
 have hT := hT.keep0 E12
 obtain ⟨hB5, hB9⟩ := kb2 E12 hB5 hB9
 have hb := zP hb E12 hb.size
 refine zD (zA hN rfl) ?_
 refine zB ?_
 refine hK10 _ _ (zF fun K13 hK13 => ?_)
 refine zF fun K14 hK14 => ?_
 refine zH ?_
 refine zG (zA hN rfl) ?_
 refine op_lss (zA hN rfl) rfl (fun c12 => ?_) (fun c12 => ?_)
 ·
  refine zB ?_
  refine hK14 _ _ (wp_cond_true (zA hN rfl) (zF fun K15 hK15 => ?_))
  refine zH ?_
  refine zf (pv := []) (v := (Value.agg #[(.string (bs [])), (.slice none 0 0), (.slice none 0 0)])) trivial zy ?_
  refine zZ size55 (zA hN rfl) (zA hN rfl) rfl rfl hB9 rfl ?_
  intro w18 hB9 E19
  have := E19.size
  have hb := below_step1 hb E19 hb.size zx
  refine zD rfl ?_
  refine zB ?_
  refine hK15 _ _ (wp_ret (zO ( ?_)))
  refine retN (rs := [.cell 4 55, .tmp 5]) (vs := [(.agg #[(.string (bs [])), (.slice none 0 0), (.slice none 0 0)]), (.bool false)]) rfl hd ⟨⟨_, (zA hN rfl), run_loadA (cs := [(.string (bs [])), (.slice none 0 0), (.slice none 0 0)]) agg55 rfl (fun j u hu => by rw [Nat.zero_add]; exact hB9.cell hu)⟩, ⟨(zA hN rfl), trivial⟩⟩ rfl ⟨_, rfl, ?_⟩
  exact ⟨hb, .inl ⟨tab_none c12, rfl⟩⟩
 refine zB ?_
 refine hK14 _ _ (wp_cond_false (zA hN rfl) (wp_skip (hK13 _ _ (zF fun K20 hK20 => ?_))))
 refine zH ?_
 obtain ⟨k9, hk9, hkl, hkn, hkt⟩ := tab_some c12
 refine zY agg39 rfl (zA hN rfl) hB5 ?_
 refine zj ok60 (twin0_ret _ _ _ (hT.mono zx) hD hsz) ⟨(zA hN rfl), trivial⟩ ?_
 rintro _ w22 ⟨E23, tv21, D21, F21, rfl, hO21, hS21, hM21⟩
 have lo_F21 : ∀ x, F21 x → w11.heap.size ≤ x := fun x hx => (hS21.lt x hx).1
 have dj25 : ¬ F21 b7 := fun hf => by have := lo_F21 _ hf; have := hB9.lt; omega
 have E23 := zQ E23
 have := E23.size
 have hB9 := hB9.keep0 E23
 have hb := zP hb E23 hb.size
 have hO21 := hO21.mono (base' := w.heap.size) zx
 have hS21 : TabsR w22 w.heap.size D21 F21 := hS21.mono zx
 have hDl := dt_len hM21
 have hDt := dt_get hM21 k9
 refine op_fieldv (v := tv21) (zA hN rfl) (by obtain ⟨_, _, _, rfl⟩ := hO21.sl; kernel_rfl) ?_
 refine zG (zA hN rfl) ?_
 refine zh slt36 (zA hN rfl) hO21.rdw (zA hN rfl) zx zx ?_
 intro b26 o27 h0b26 h1b26 hc28
 refine zX (cs := [(.string (bs (D21.getD k9 default).t.nm)), (D21.getD k9 default).cv, (D21.getD k9 default).iv]) agg55 rfl (zA hN rfl) (fun j u hu => hc28 j u (by have := (List.getElem?_eq_some_iff.1 hu).1; simpa using this) ((el_dt (i := k9) zx zx) j u hu)) ?_
 refine zZ size55 (zA hN rfl) (zA hN rfl) rfl (by simp only [List.all_cons, List.all_nil, Bool.true_and, Bool.and_true, (hS21.1 (D21.getD k9 default) (getD_mem zx)).1.one, (hS21.1 (D21.getD k9 default) (getD_mem zx)).2.one]; try rfl) hB9 rfl ?_
 intro w31 hB9 E32
 have := E32.size
 have hS21 := hS21.keepG (Gr.of E32) (Dj.one dj25)
 have hb := below_step1 hb E32 hb.size zx
 refine zD rfl ?_
 refine zB ?_
 refine hK20 _ _ (wp_ret ?_)
 refine retN (rs := [.cell 4 55, .tmp 5]) (vs := [(.agg #[(.string (bs (D21.getD k9 default).t.nm)), (D21.getD k9 default).cv, (D21.getD k9 default).iv]), (.bool true)]) rfl hd ⟨⟨_, (zA hN rfl), run_loadA (cs := [(.string (bs (D21.getD k9 default).t.nm)), (D21.getD k9 default).cv, (D21.getD k9 default).iv]) agg55 rfl (fun j u hu => by rw [Nat.zero_add]; exact hB9.cell hu)⟩, ⟨(zA hN rfl), trivial⟩⟩ rfl ⟨_, rfl, ?_⟩
 have ho9 := hS21.1 (D21.getD k9 default) (getD_mem zx)
 exact ⟨hb, .inr ⟨_, by rw [hkt, hDt], rfl, ho9.1, ho9.2⟩⟩

theorem TableT {tv : Value} {D : List DTab} {x : List UInt8} {w : World} (hk : (tabAt (D.map DTab.t) x).isSome = true) (hT : TsRd w w.heap.size tv D) (hD : D.length ≤ 1000000) (hsz : ∀ d ∈ D, d.t.cols.length ≤ 1000000 ∧ d.t.idx.length ≤ 1000000) : Ret Try.prog 57 #[.agg #[tv, .slice none 0 0], .string (bs x)] w (fun v' w' => Below w.heap.size w w' ∧ ∃ d : DTab, v' = .tuple #[.agg #[.string (bs d.t.nm), d.cv, d.iv], .bool true] ∧ tabAt (D.map DTab.t) x = some d.t ∧ Own w' w.heap.size 68 3 d.cv d.t.cols.length (d.t.cols.flatMap cellsC) ∧ Own w' w.heap.size 9 1 d.iv d.t.idx.length (d.t.idx.map sv)) :=
  (Table_ret tv D x w hT hD hsz).mono fun v' w' h => ⟨h.1, h.2.elim (fun q => by rw [q.1] at hk; cases hk) fun ⟨d, h1, h2, h3⟩ => ⟨d, h2, h1, h3⟩⟩
theorem TableF {tv : Value} {D : List DTab} {x : List UInt8} {w : World} (hk : (tabAt (D.map DTab.t) x).isSome = false) (hT : TsRd w w.heap.size tv D) (hD : D.length ≤ 1000000) (hsz : ∀ d ∈ D, d.t.cols.length ≤ 1000000 ∧ d.t.idx.length ≤ 1000000) : Ret Try.prog 57 #[.agg #[tv, .slice none 0 0], .string (bs x)] w (fun v' w' => Below w.heap.size w w' ∧ v' = .tuple #[.agg #[.string (bs []), .slice none 0 0, .slice none 0 0], .bool false]) :=
  (Table_ret tv D x w hT hD hsz).mono fun v' w' h => ⟨h.1, h.2.elim (fun q => q.2) fun ⟨d, h1, _⟩ => by rw [h1] at hk; cases hk⟩
end Go.Proofs.Ythflnkfghogaoaa

namespace Go.Gx
theorem at_pre9 {pre mid suf : List Value} {j : Nat} {u : Value} (h : mid[j]? = some u) : (pre ++ mid ++ suf)[pre.length + j]? = some u := by
  have hj := (List.getElem?_eq_some_iff.1 h).1
  rw [List.append_assoc, List.getElem?_append_right (by omega), Nat.add_sub_cancel_left, List.getElem?_append_left hj]; exact h
theorem inF_step {F : Nat → Prop} {v v2 : Value} {n n2 : Nat} (hm : v2.ownBlock = v.ownBlock ∨ ∀ k, v2.ownBlock = some k → n2 ≤ k) (hn : n ≤ n2) (h : ∀ k, k < n → Bl v k → F k) : ∀ k, k < n → Bl v2 k → F k := fun k hk hb => by
  rcases hm with hm | hm
  · exact h k hk (hm.symm.trans hb)
  · have := hm k hb; omega
end Go.Gx

namespace Go.Proofs.Ythflnkfghogaoaa
open Go.Gx Go.RowKit
attribute [local irreducible] wpList wpStill Code.wp Calls

theorem lookTable {tv : Value} {D : List DTab} {C : List PItm} {K : List Int} {cv kv : Value} {l B : Nat} (x : List UInt8) {w : World} (hT : TsRd w B tv D) (hD : D.length ≤ 1000000) (hsz : ∀ d ∈ D, d.t.cols.length ≤ 1000000 ∧ d.t.idx.length ≤ 1000000) (hB : B ≤ w.heap.size) (hlB : B ≤ l) (hx : Bx w l 92 [tv, .slice none 0 0, cv, kv]) (O : Own w B 63 3 cv C.length (C.flatMap cellsI)) (P : Own w B 3 1 kv K.length (K.map (Value.int .i64))) (hCl : C.length ≤ 1000000000) (hKl : K.length ≤ 1000000000) : Ret Try.prog 45 #[(ptr l 0), (.string (bs x))] w (fun v' w' => Gr w w' (fun y => y = l ∨ Bl cv y ∨ Bl kv y) ∧ ∃ cv' kv' C' K', Bx w' l 92 [tv, .slice none 0 0, cv', kv'] ∧ Own w' B 63 3 cv' C'.length (C'.flatMap cellsI) ∧ Own w' B 3 1 kv' K'.length (K'.map (Value.int .i64)) ∧ (∀ k, k < w.heap.size → Bl cv' k → k = l ∨ Bl cv k ∨ Bl kv k) ∧ (∀ k, k < w.heap.size → Bl kv' k → k = l ∨ Bl cv k ∨ Bl kv k) ∧ (((tabAt (D.map DTab.t) x).isSome = false ∧ C' = C ∧ K' = K ∧ v' = .tuple #[.agg #[.string (bs []), .slice none 0 0, .slice none 0 0], .int .i64 9]) ∨ ∃ d : DTab, tabAt (D.map DTab.t) x = some d.t ∧ C' = C ++ colsOf x d.t.cols ∧ K' = K ++ kindsOf d.t.cols ∧ v' = .tuple #[.agg #[.string (bs d.t.nm), d.cv, d.iv], .int .i64 0] ∧ Own w' w.heap.size 68 3 d.cv d.t.cols.length (d.t.cols.flatMap cellsC) ∧ Own w' w.heap.size 9 1 d.iv d.t.idx.length (d.t.idx.map sv))) := by
 have hR := hT.1
 have hi_l := hx.lt
 have hsz9 : ∀ t ∈ D.map DTab.t, t.cols.length ≤ 1000000 ∧ t.idx.length ≤ 1000000 := fun t ht => by obtain ⟨d, hd, rfl⟩ := List.mem_map.1 ht; exact hsz d hd
 have hb := Gr.refl w (fun y => y = l ∨ Bl cv y ∨ Bl kv y)
 refine enter (N := 55) Try.func45 rfl rfl (by simp) fun a0 hN hd hA => ?_
 have s0 : a0.tmps.getD 0 undef = (ptr l 0) := hA 0 (by simp)
 have s1 : a0.tmps.getD 1 undef = (.string (bs x)) := hA 1 (by simp)
 clear hA
 refine zF fun K1 hK1 => ?_
 refine zH ?_
 refine op_alloc (cs := [(.string (bs [])), (.slice none 0 0), (.slice none 0 0)]) zero55 rfl ?_
 intro w2 b3 lo_b3 hi_b3 hB5 E4
 have := E4.size
 have hx := hx.keep0 E4
 have O := O.keep0 E4
 have P := P.keep0 E4
 have hR := hR.keep0 E4
 have hT := hT.keep0 E4
 have hb := hb.step0 E4
 refine zD rfl ?_
 refine zB ?_
 refine hK1 _ _ (zF fun K6 hK6 => ?_)
 refine zH ?_
 refine zG (zC hN rfl s0) ?_
 refine op_nil (zA hN rfl) (zM fld92_0 (zA hN rfl) ?_)
 refine zX (cs := [tv, (.slice none 0 0)]) agg39 rfl (zA hN rfl) (fun j u hu => hx.cell (at_pre9 (pre := []) (suf := [cv, kv]) hu)) ?_
 refine zG (zC hN rfl s1) ?_
 rcases Bool.eq_false_or_eq_true ((tabAt (D.map DTab.t) x).isSome) with k16 | k16
 ·
  refine zj ok57 (TableT k16 (hT.mono zx) hD hsz) ⟨(zA hN rfl), ⟨(zA hN rfl), trivial⟩⟩ ?_
  rintro _ w8 ⟨E9, d7, rfl, ht7, hO7, hP7⟩
  have E9 := zQ E9
  have := E9.size
  have hx := hx.keep0 E9
  have O := O.keep0 E9
  have P := P.keep0 E9
  have hR := hR.keep0 E9
  have hT := hT.keep0 E9
  have hB5 := hB5.keep0 E9
  have hb := hb.step0 E9
  have hO7 := hO7.mono (base' := w.heap.size) zx
  have hP7 := hP7.mono (base' := w.heap.size) zx
  refine zG (zA hN rfl) ?_
  refine zW (zA hN rfl) rfl ?_
  refine zW (zA hN rfl) rfl ?_
  refine op_alloc (cs := [(.string (bs [])), (.slice none 0 0), (.slice none 0 0)]) zero55 rfl ?_
  intro w10 b11 lo_b11 hi_b11 hB13 E12
  have := E12.size
  have hx := hx.keep0 E12
  have O := O.keep0 E12
  have P := P.keep0 E12
  have hR := hR.keep0 E12
  have hT := hT.keep0 E12
  have hB5 := hB5.keep0 E12
  have hO7 := hO7.keep0 E12
  have hP7 := hP7.keep0 E12
  have hb := hb.step0 E12
  have hB13_old := hB13
  refine zZ size55 (zA hN rfl) (zA hN rfl) rfl (by simp only [List.all_cons, List.all_nil, Bool.true_and, Bool.and_true, hO7.one, hP7.one]; try rfl) hB13 rfl ?_
  intro w16 hB13 E17
  have := E17.size
  have hx := hx.keep E17 (sN hx hB13_old)
  have O := O.keepX hB13_old E17 zz
  have P := P.keepX hB13_old E17 zz
  have hR := hR.keep E17 sR
  have hT := hT.keep E17 sR
  have hB5 := hB5.keep E17 sB
  have hO7 := hO7.keepX hB13_old E17 zz
  have hP7 := hP7.keepX hB13_old E17 zz
  have hb := hb.step1 E17 zx
  refine zD (zA hN rfl) ?_
  refine zB ?_
  refine hK6 _ _ (zF fun K18 hK18 => ?_)
  refine zF fun K19 hK19 => ?_
  refine zH ?_
  refine zG (zA hN rfl) ?_
  refine op_not (zA hN rfl) ?_
  refine zB ?_
  refine hK19 _ _ (wp_cond_false (zA hN rfl) (wp_skip (hK18 _ _ (zF fun K20 hK20 => ?_))))
  refine zF fun K21 hK21 => ?_
  refine zH ?_
  refine zM fld55_1 (zA hN rfl) ?_
  refine zN (v := d7.cv) one41 (zA hN rfl) (hB13.cell rfl) ?_
  refine op_len_rd Try.underlying41 (zA hN rfl) hO7.rdw ?_
  refine zG rfl ?_
  refine zB ?_
  refine hK21 _ _ (wp_block ?_)
  refine loop_m (fun mz_ az_ w' => ∃ (i : Nat) (cv2 kv2 : Value), mz_ = d7.t.cols.length - i ∧ (az_.tmps.getD 0 undef = (ptr l 0)) ∧ (az_.tmps.getD 1 undef = (.string (bs x))) ∧ (az_.tmps.getD 4 undef = (ptr b3 0)) ∧ (az_.tmps.getD 5 undef = (.int .i64 0)) ∧ (az_.tmps.getD 6 undef = (ptr b11 0)) ∧ (az_.tmps.getD 23 undef = d7.cv) ∧ (az_.tmps.getD 24 undef = (.int .i64 ((d7.t.cols.length : Nat) : Int))) ∧ (az_.tmps.getD 25 undef = (.int .i64 ((i : Nat) : Int))) ∧ (i ≤ d7.t.cols.length) ∧ (∀ k, k < w.heap.size → Bl cv2 k → k = l ∨ Bl cv k ∨ Bl kv k) ∧ (∀ k, k < w.heap.size → Bl kv2 k → k = l ∨ Bl cv k ∨ Bl kv k) ∧ (Gr w w' (fun y => y = l ∨ Bl cv y ∨ Bl kv y)) ∧ (w16.heap.size ≤ w'.heap.size) ∧ (RdC w' 0 B 3 tv D.length (D.flatMap cellsT)) ∧ (TsRd w' B tv D) ∧ (Bx w' b3 55 [(.string (bs [])), (.slice none 0 0), (.slice none 0 0)]) ∧ (Own w' w.heap.size 68 3 d7.cv d7.t.cols.length (d7.t.cols.flatMap cellsC)) ∧ (Own w' w.heap.size 9 1 d7.iv d7.t.idx.length (d7.t.idx.map sv)) ∧ (Bx w' b11 55 [(.string (bs d7.t.nm)), d7.cv, d7.iv]) ∧ (Bx w' l 92 [tv, (.slice none 0 0), cv2, kv2]) ∧ (Own w' B 63 3 cv2 (C ++ colsOf x (d7.t.cols.take i)).length ((C ++ colsOf x (d7.t.cols.take i)).flatMap cellsI)) ∧ (Own w' B 3 1 kv2 (K ++ kindsOf (d7.t.cols.take i)).length ((K ++ kindsOf (d7.t.cols.take i)).map (Value.int .i64)))) _ hN hd ⟨0, cv, kv, rfl, (zL hN rfl s0), (zL hN rfl s1), (zU hN rfl), (zU hN rfl), (zU hN rfl), (zU hN rfl), (zU hN rfl), (zU hN rfl), (Nat.zero_le _), (fun k _ h => .inr (.inl h)), (fun k _ h => .inr (.inr h)), hb, (Nat.le_refl _), hR, hT, hB5, hO7, hP7, hB13, hx, (O.cast (by simp [colsOf]) (by simp [colsOf])), (P.cast (by simp [kindsOf]) (by simp [kindsOf]))⟩ ?_
  rintro _ a22 w22 hN22 hd22 ⟨i, cv2, kv2, rfl, s22_0, s22_1, s22_4, s22_5, s22_6, s22_23, s22_24, s22_25, hi, hcF, hkF, hb, zl_w22, hR, hT, hB5, hO7, hP7, hB13, hxl, hO23, hO24⟩
  have := hb.size
  refine zF fun K25 hK25 => ?_
  refine zH ?_
  refine op_lss (zC hN22 rfl s22_25) (zC hN22 rfl s22_24) (fun c26 => ?_) (fun c26 => ?_)
  ·
   refine zB ?_
   refine hK25 _ _ (zF fun K26 hK26 => ?_)
   refine wp_cond_true (zA hN22 rfl) (wp_skip (hK26 _ _ (zF fun K27 hK27 => ?_)))
   refine wp_block ?_
   refine zF fun K28 hK28 => ?_
   refine zH ?_
   refine zh slt41 (zC hN22 rfl s22_23) hO7.rdw (zC hN22 rfl s22_25) zx zx ?_
   intro b29 o30 h0b29 h1b29 hc31
   refine zX (cs := [(.string (bs (d7.t.cols.getD i default).nm)), (.int .i64 (d7.t.cols.getD i default).kind), (.string (bs (d7.t.cols.getD i default).ref))]) agg68 rfl (zA hN22 rfl) (fun j u hu => hc31 j u (by have := (List.getElem?_eq_some_iff.1 hu).1; simpa using this) ((el_pc (i := i) zx zx) j u hu)) ?_
   refine op_alloc (cs := [(.string (bs [])), (.int .i64 0), (.string (bs []))]) zero68 rfl ?_
   intro w32 b33 lo_b33 hi_b33 hB35 E34
   have ne_b33_d7_cv : d7.cv.ownBlock ≠ some b33 := fun hh => by have := (hO7.lt _ hh).2; omega
   have := E34.size
   have hR := hR.keep0 E34
   have hT := hT.keep0 E34
   have hO7 := hO7.keep0 E34
   have hP7 := hP7.keep0 E34
   have hO23 := hO23.keep0 E34
   have hO24 := hO24.keep0 E34
   obtain ⟨hB5, hB13, hxl⟩ := kb3 E34 hB5 hB13 hxl
   have hb := hb.step0 E34
   have hB35_old := hB35
   refine zZ size68 (zA hN22 rfl) (zA hN22 rfl) rfl rfl hB35 rfl ?_
   intro w38 hB35 E39
   have := E39.size
   have hR := hR.keep E39 sR
   have hT := hT.keep E39 sR
   have hB5 := hB5.keep E39 (sN hB5 hB35_old)
   have hO7 := hO7.keep E39 (.inr ne_b33_d7_cv)
   have hP7 := hP7.keepX hB35_old E39 zz
   have hB13 := hB13.keep E39 (sN hB13 hB35_old)
   have hxl := hxl.keep E39 (sN hxl hB35_old)
   have hO23 := hO23.keepX hB35_old E39 zz
   have hO24 := hO24.keepX hB35_old E39 zz
   have hb := hb.step1 E39 zx
   refine zB ?_
   refine hK28 _ _ ?_
   have hml := (hsz9 _ (tab_mem ht7)).1
   have hcl := @cols_len x (d7.t.cols.take i)
   have hkl := @kinds_len (d7.t.cols.take i)
   rw [List.length_take] at hcl hkl
   have hcl2 : (C ++ colsOf x (d7.t.cols.take i)).length = C.length + (colsOf x (d7.t.cols.take i)).length := List.length_append
   have hkl2 : (K ++ kindsOf (d7.t.cols.take i)).length = K.length + (kindsOf (d7.t.cols.take i)).length := List.length_append
   refine reg_split (hd := [_, _, _, _, _, _, _, _, _, _, _, _, _, _, _, _, _, _, _, _, _, _, _]) (tl := _) 23 mixed zy rfl rfl ?_
   refine any_treek (φ := phiV [(fun uz => uz = (ptr l 0)), (fun uz => uz = (ptr l 0)), (fun uz => uz = (ptr l 0)), (fun uz => uz = (ptr l 0)), (fun uz => uz = (ptr l 2)), (fun uz => uz = cv2), (fun uz => uz = (.string (bs x))), (fun uz => uz = (ptr b33 0)), (fun uz => uz = (.string (bs (d7.t.cols.getD i default).nm))), (fun uz => uz = (.agg #[(.int .i64 0), (.string (bs x)), (.string (bs (d7.t.cols.getD i default).nm))])), (fun _ => True), (fun _ => True), (fun uz => uz = (ptr l 0)), (fun uz => uz = (ptr l 0)), (fun uz => uz = (ptr l 3)), (fun uz => uz = kv2), (fun uz => uz = (ptr b33 1)), (fun uz => uz = (.int .i64 (d7.t.cols.getD i default).kind)), (fun _ => True), (fun _ => True), (fun uz => uz = (ptr l 0)), (fun uz => uz = (ptr l 2)), (fun _ => True)]) (G := fun t9 w' => (22 ∈ t9 → (Bx w' l 92 [tv, (.slice none 0 0), cv2, kv2])) ∧ (Bx w' b33 68 [(.string (bs (d7.t.cols.getD i default).nm)), (.int .i64 (d7.t.cols.getD i default).kind), (.string (bs (d7.t.cols.getD i default).ref))])) [10, 11, 18, 19, 22] zy zy zy zy zy hN22 (fun _ w1 w2 E h => ⟨fun hc9 => (h.1 hc9).keep0 E, h.2.keep0 E⟩) ⟨fun _ => hxl, hB35⟩ (ObRk9.cons ?_ (ObRk9.cons ?_ (ObRk9.cons ?_ (ObRk9.cons ?_ (ObRk9.cons ?_ (ObRk9.cons ?_ (ObRk9.cons ?_ (ObRk9.cons ?_ (ObRk9.cons ?_ (ObRk9.cons ?_ (ObRk9.pass rfl (ObRk9.pass rfl (ObRk9.cons ?_ (ObRk9.cons ?_ (ObRk9.cons ?_ (ObRk9.cons ?_ (ObRk9.cons ?_ (ObRk9.cons ?_ (ObRk9.pass rfl (ObRk9.pass rfl (ObRk9.cons ?_ (ObRk9.cons ?_ (ObRk9.pass rfl (ObRk9.nil)))))))))))))))))))))))) (by simp only [putsL_defers]) ?_
   ·
    intro eA tA aA wA hNA hckA hGA hbsA hdpA
    have qA_0 := (hbsA 0 rfl).trans (zL hN22 rfl s22_0)
    refine zG (zC hNA rfl qA_0) ?_
    exact obTk_end rfl rfl
   ·
    intro eA tA aA wA hNA hckA hGA hbsA hdpA
    have qA_0 := (hbsA 0 rfl).trans (zL hN22 rfl s22_0)
    refine zG (zC hNA rfl qA_0) ?_
    exact obTk_end rfl rfl
   ·
    intro eA tA aA wA hNA hckA hGA hbsA hdpA
    have qA_0 := (hbsA 0 rfl).trans (zL hN22 rfl s22_0)
    refine zG (zC hNA rfl qA_0) ?_
    exact obTk_end rfl rfl
   ·
    intro eA tA aA wA hNA hckA hGA hbsA hdpA
    have qA_31 : Sl aA 31 (ptr l 0) := (hdpA 2 _ 31 zy rfl rfl).2 rfl
    refine op_nil (zC hNA rfl qA_31) ?_
    exact obTk_end rfl rfl
   ·
    intro eA tA aA wA hNA hckA hGA hbsA hdpA
    have qA_32 : Sl aA 32 (ptr l 0) := (hdpA 3 _ 32 zy rfl rfl).2 rfl
    refine zM fld92_1 (zC hNA rfl qA_32) ?_
    exact obTk_end rfl rfl
   ·
    intro eA tA aA wA hNA hckA hGA hbsA hdpA
    have qA_33 : Sl aA 33 (ptr l 2) := (hdpA 4 _ 33 zy rfl rfl).2 rfl
    have hGA := hGA.1 (hckA 22 rfl zy)
    refine zN (v := cv2) one22 (zC hNA rfl qA_33) (hGA.cell rfl) ?_
    exact obTk_end rfl rfl
   ·
    intro eA tA aA wA hNA hckA hGA hbsA hdpA
    have qA_1 := (hbsA 1 rfl).trans (zL hN22 rfl s22_1)
    refine zG (zC hNA rfl qA_1) ?_
    exact obTk_end rfl rfl
   ·
    intro eA tA aA wA hNA hckA hGA hbsA hdpA
    have qA_9 := (hbsA 9 rfl).trans (zU hN22 rfl)
    refine zM fld68_0 (zC hNA rfl qA_9) ?_
    exact obTk_end rfl rfl
   ·
    intro eA tA aA wA hNA hckA hGA hbsA hdpA
    have qA_36 : Sl aA 36 (ptr b33 0) := (hdpA 7 _ 36 zy rfl rfl).2 rfl
    have hGA := hGA.2
    refine zN (v := (Value.string (bs (d7.t.cols.getD i default).nm))) one9 (zC hNA rfl qA_36) (hGA.cell rfl) ?_
    exact obTk_end rfl rfl
   ·
    intro eA tA aA wA hNA hckA hGA hbsA hdpA
    have qA_35 : Sl aA 35 (.string (bs x)) := (hdpA 6 _ 35 zy rfl rfl).2 rfl
    have qA_37 : Sl aA 37 (.string (bs (d7.t.cols.getD i default).nm)) := (hdpA 8 _ 37 zy rfl rfl).2 rfl
    refine zf (pv := [(1, (.string (bs x))), (2, (.string (bs (d7.t.cols.getD i default).nm)))]) (v := (Value.agg #[(.int .i64 0), (.string (bs x)), (.string (bs (d7.t.cols.getD i default).nm))])) ⟨rfl, (zC hNA rfl qA_35), ⟨rfl, (zC hNA rfl qA_37), trivial⟩⟩ zy ?_
    exact obTk_end rfl rfl
   ·
    intro eA tA aA wA hNA hckA hGA hbsA hdpA
    have qA_0 := (hbsA 0 rfl).trans (zL hN22 rfl s22_0)
    refine zG (zC hNA rfl qA_0) ?_
    exact obTk_end rfl rfl
   ·
    intro eA tA aA wA hNA hckA hGA hbsA hdpA
    have qA_41 : Sl aA 41 (ptr l 0) := (hdpA 12 _ 41 zy rfl rfl).2 rfl
    refine op_nil (zC hNA rfl qA_41) ?_
    exact obTk_end rfl rfl
   ·
    intro eA tA aA wA hNA hckA hGA hbsA hdpA
    have qA_42 : Sl aA 42 (ptr l 0) := (hdpA 13 _ 42 zy rfl rfl).2 rfl
    refine zM fld92_2 (zC hNA rfl qA_42) ?_
    exact obTk_end rfl rfl
   ·
    intro eA tA aA wA hNA hckA hGA hbsA hdpA
    have qA_43 : Sl aA 43 (ptr l 3) := (hdpA 14 _ 43 zy rfl rfl).2 rfl
    have hGA := hGA.1 (hckA 22 rfl zy)
    refine zN (v := kv2) one23 (zC hNA rfl qA_43) (hGA.cell rfl) ?_
    exact obTk_end rfl rfl
   ·
    intro eA tA aA wA hNA hckA hGA hbsA hdpA
    have qA_9 := (hbsA 9 rfl).trans (zU hN22 rfl)
    refine zM fld68_1 (zC hNA rfl qA_9) ?_
    exact obTk_end rfl rfl
   ·
    intro eA tA aA wA hNA hckA hGA hbsA hdpA
    have qA_45 : Sl aA 45 (ptr b33 1) := (hdpA 16 _ 45 zy rfl rfl).2 rfl
    have hGA := hGA.2
    refine zN (v := (Value.int .i64 (d7.t.cols.getD i default).kind)) one3 (zC hNA rfl qA_45) (hGA.cell rfl) ?_
    exact obTk_end rfl rfl
   ·
    intro eA tA aA wA hNA hckA hGA hbsA hdpA
    have qA_29 : Sl aA 29 (ptr l 0) := (hdpA 0 _ 29 zy rfl rfl).2 rfl
    refine op_nil (zC hNA rfl qA_29) ?_
    exact obTk_end rfl rfl
   ·
    intro eA tA aA wA hNA hckA hGA hbsA hdpA
    have qA_49 : Sl aA 49 (ptr l 0) := (hdpA 20 _ 49 zy rfl rfl).2 rfl
    refine zM fld92_1 (zC hNA rfl qA_49) ?_
    exact obTk_end rfl rfl
   refine ktk_step (rs := [10, 18]) zy ?_
   refine more_mem ?_ ?_
   ·
    intro w41 E41 _ a41 hN41 hbs41 hdp41 o_ ho_; obtain rfl := zE ho_
    have := E41.size
    have hR := hR.keep0 E41
    have hT := hT.keep0 E41
    have hO7 := hO7.keep0 E41
    have hP7 := hP7.keep0 E41
    have hO23 := hO23.keep0 E41
    have hO24 := hO24.keep0 E41
    obtain ⟨hB5, hB13, hxl, hB35⟩ := kb4 E41 hB5 hB13 hxl hB35
    have hb := hb.step0 E41
    have q41_38 : Sl a41 38 (.agg #[(.int .i64 0), (.string (bs x)), (.string (bs (d7.t.cols.getD i default).nm))]) := (hdp41 9 _ 38 zy rfl rfl).2 rfl
    refine op_bslice (e := 63) (pv := [(0, (.agg #[(.int .i64 0), (.string (bs x)), (.string (bs (d7.t.cols.getD i default).nm))]))]) (cs := [(.int .i64 0), (.string (bs x)), (.string (bs (d7.t.cols.getD i default).nm))]) ⟨rfl, (zC hN41 rfl q41_38), trivial⟩ zy ?_
    intro w42 b43 lo_b43 hi_b43 hB45 E44
    have := E44.size
    have hR := hR.keep0 E44
    have hT := hT.keep0 E44
    have hO7 := hO7.keep0 E44
    have hP7 := hP7.keep0 E44
    have hO23 := hO23.keep0 E44
    have hO24 := hO24.keep0 E44
    obtain ⟨hB5, hB13, hxl, hB35⟩ := kb4 E44 hB5 hB13 hxl hB35
    have hb := hb.step0 E44
    refine ktk_end (G := fun t9 w' => (22 ∈ t9 → (Bx w' l 92 [tv, (.slice none 0 0), cv2, kv2])) ∧ (Bx w' b33 68 [(.string (bs (d7.t.cols.getD i default).nm)), (.int .i64 (d7.t.cols.getD i default).kind), (.string (bs (d7.t.cols.getD i default).ref))])) (todo := [10, 11, 18, 19, 22]) (i := 10) rfl ⟨(fun _ => hxl), hB35⟩ ?_
    refine ktk_step (rs := [11, 18]) zy ?_
    refine more_mem ?_ ?_
    ·
     intro w47 E47 _ a47 hN47 hbs47 hdp47 o_ ho_; obtain rfl := zE ho_
     have := E47.size
     have hR := hR.keep0 E47
     have hT := hT.keep0 E47
     have hO7 := hO7.keep0 E47
     have hP7 := hP7.keep0 E47
     have hO23 := hO23.keep0 E47
     have hO24 := hO24.keep0 E47
     obtain ⟨hB5, hB13, hxl, hB35, hB45⟩ := kb5 E47 hB5 hB13 hxl hB35 hB45
     have hb := hb.step0 E47
     have q47_34 : Sl a47 34 cv2 := (hdp47 5 _ 34 zy rfl rfl).2 rfl
     have q47_39 : Sl a47 39 (.slice (some ⟨b43, 0, none⟩) 1 1) := (zE ((hdp47 10 _ 39 zy rfl rfl).1 rfl)).symm
     have hP53 := hO23
     refine op_append slt22 (zC hN47 rfl q47_34) hP53 (zC hN47 rfl q47_39) (Src.ofRd Try.underlying22 zz (RdC.ofBx (sz := 3) (n := 1) hB45 rfl zz) (by simp [Value.oneCell', u8v])) (by unfold maxLen; omega) zx (by first | exact Nat.le_trans (by assumption) hb.size | (have := hb.size; omega)) ?_
     intro v48 w49 hO51 E50 hm52
     have := E50.size
     have hR := hR.keepO hP53 E50 zx
     have hT := hT.keepO hP53 E50 zx
     have hB5 := hB5.keepO hP53 E50 zz
     have hO7 := hO7.keepT hP53 E50 zz
     have hP7 := hP7.keepT hP53 E50 zz
     have hB13 := hB13.keepO hP53 E50 zz
     have hxl := hxl.keepO hP53 E50 zz
     have hO24 := hO24.keepT hP53 E50 zz
     have hB35 := hB35.keepO hP53 E50 zz
     have hb := hb.stepL E50 hcF
     have hO51 : Own w49 B 63 3 v48 ((C ++ colsOf x (d7.t.cols.take i)).length + 1) (((C ++ colsOf x (d7.t.cols.take i)).flatMap cellsI ++ [(.int .i64 0), (.string (bs x)), (.string (bs (d7.t.cols.getD i default).nm))])) := by simpa [u8v, u16v, sv] using hO51
     refine ktk_end (G := fun t9 w' => (22 ∈ t9 → (Bx w' l 92 [tv, (.slice none 0 0), cv2, kv2])) ∧ (Bx w' b33 68 [(.string (bs (d7.t.cols.getD i default).nm)), (.int .i64 (d7.t.cols.getD i default).kind), (.string (bs (d7.t.cols.getD i default).ref))])) (todo := [11, 18, 19, 22]) (i := 11) rfl ⟨(fun _ => hxl), hB35⟩ ?_
     refine ktk_step (rs := [18]) zy ?_
     refine one_mem ?_
     intro w55 E55 _ a55 hN55 hbs55 hdp55 o_ ho_; obtain rfl := zE ho_
     have := E55.size
     have hR := hR.keep0 E55
     have hT := hT.keep0 E55
     have hO7 := hO7.keep0 E55
     have hP7 := hP7.keep0 E55
     have hO24 := hO24.keep0 E55
     have hO51 := hO51.keep0 E55
     obtain ⟨hB5, hB13, hxl, hB35⟩ := kb4 E55 hB5 hB13 hxl hB35
     have hb := hb.step0 E55
     have q55_46 : Sl a55 46 (.int .i64 (d7.t.cols.getD i default).kind) := (hdp55 17 _ 46 zy rfl rfl).2 rfl
     refine op_bslice (e := 3) (pv := [(0, (.int .i64 (d7.t.cols.getD i default).kind))]) (cs := [(.int .i64 (d7.t.cols.getD i default).kind)]) ⟨rfl, (zC hN55 rfl q55_46), trivial⟩ zy ?_
     intro w56 b57 lo_b57 hi_b57 hB59 E58
     have := E58.size
     have hR := hR.keep0 E58
     have hT := hT.keep0 E58
     have hO7 := hO7.keep0 E58
     have hP7 := hP7.keep0 E58
     have hO24 := hO24.keep0 E58
     have hO51 := hO51.keep0 E58
     obtain ⟨hB5, hB13, hxl, hB35⟩ := kb4 E58 hB5 hB13 hxl hB35
     have hb := hb.step0 E58
     refine ktk_end (G := fun t9 w' => (22 ∈ t9 → (Bx w' l 92 [tv, (.slice none 0 0), cv2, kv2])) ∧ (Bx w' b33 68 [(.string (bs (d7.t.cols.getD i default).nm)), (.int .i64 (d7.t.cols.getD i default).kind), (.string (bs (d7.t.cols.getD i default).ref))])) (todo := [18, 19, 22]) (i := 18) rfl ⟨(fun _ => hxl), hB35⟩ ?_
     refine ktk_step (rs := [19]) zy ?_
     refine one_mem ?_
     intro w61 E61 _ a61 hN61 hbs61 hdp61 o_ ho_; obtain rfl := zE ho_
     have := E61.size
     have hR := hR.keep0 E61
     have hT := hT.keep0 E61
     have hO7 := hO7.keep0 E61
     have hP7 := hP7.keep0 E61
     have hO24 := hO24.keep0 E61
     have hO51 := hO51.keep0 E61
     obtain ⟨hB5, hB13, hxl, hB35, hB59⟩ := kb5 E61 hB5 hB13 hxl hB35 hB59
     have hb := hb.step0 E61
     have q61_44 : Sl a61 44 kv2 := (hdp61 15 _ 44 zy rfl rfl).2 rfl
     have q61_47 : Sl a61 47 (.slice (some ⟨b57, 0, none⟩) 1 1) := (zE ((hdp61 18 _ 47 zy rfl rfl).1 rfl)).symm
     have hP67 := hO24
     refine op_append slt23 (zC hN61 rfl q61_44) hP67 (zC hN61 rfl q61_47) (Src.ofRd Try.underlying23 zz (RdC.ofBx (sz := 1) (n := 1) hB59 rfl zz) (by simp [Value.oneCell', u8v])) (by unfold maxLen; omega) zx (by first | exact Nat.le_trans (by assumption) hb.size | (have := hb.size; omega)) ?_
     intro v62 w63 hO65 E64 hm66
     have := E64.size
     have hR := hR.keepO hP67 E64 zx
     have hT := hT.keepO hP67 E64 zx
     have hB5 := hB5.keepO hP67 E64 zz
     have hO7 := hO7.keepT hP67 E64 zz
     have hP7 := hP7.keepT hP67 E64 zz
     have hB13 := hB13.keepO hP67 E64 zz
     have hxl := hxl.keepO hP67 E64 zz
     have hB35 := hB35.keepO hP67 E64 zz
     have hO51 := hO51.keepT hP67 E64 zz
     have hb := hb.stepL E64 hkF
     have hO65 : Own w63 B 3 1 v62 ((K ++ kindsOf (d7.t.cols.take i)).length + 1) ((((K ++ kindsOf (d7.t.cols.take i)) ++ [(d7.t.cols.getD i default).kind])).map (Value.int .i64)) := by simpa [u8v, u16v, sv] using hO65
     refine ktk_end (G := fun t9 w' => (22 ∈ t9 → (Bx w' l 92 [tv, (.slice none 0 0), cv2, kv2])) ∧ (Bx w' b33 68 [(.string (bs (d7.t.cols.getD i default).nm)), (.int .i64 (d7.t.cols.getD i default).kind), (.string (bs (d7.t.cols.getD i default).ref))])) (todo := [19, 22]) (i := 19) rfl ⟨(fun _ => hxl), hB35⟩ ?_
     refine ktk_step (rs := [22]) zy ?_
     refine one_mem ?_
     intro w69 E69 _ a69 hN69 hbs69 hdp69 o_ ho_; obtain rfl := zE ho_
     have := E69.size
     have hR := hR.keep0 E69
     have hT := hT.keep0 E69
     have hO7 := hO7.keep0 E69
     have hP7 := hP7.keep0 E69
     have hO51 := hO51.keep0 E69
     have hO65 := hO65.keep0 E69
     obtain ⟨hB5, hB13, hxl, hB35⟩ := kb4 E69 hB5 hB13 hxl hB35
     have hb := hb.step0 E69
     have q69_50 : Sl a69 50 (ptr l 2) := (hdp69 21 _ 50 zy rfl rfl).2 rfl
     have q69_40 : Sl a69 40 v48 := (zE ((hdp69 11 _ 40 zy rfl rfl).1 rfl)).symm
     have hxl_old := hxl
     refine za (vs := [v48]) (cs' := [tv, (.slice none 0 0), v48, kv2]) size22 (zC hN69 rfl q69_50) (zC hN69 rfl q69_40) hO51.cl rfl (by simp only [List.all_cons, List.all_nil, Bool.true_and, Bool.and_true, hO51.one]; try rfl) hxl (zI rfl) rfl ?_
     intro w72 hxl E73
     have := E73.size
     have hR := hR.keep E73 sR
     have hT := hT.keep E73 sR
     have hB5 := hB5.keep E73 (sN hB5 hxl_old)
     have hO7 := hO7.keepX hxl_old E73 zz
     have hP7 := hP7.keepX hxl_old E73 zz
     have hB13 := hB13.keep E73 (sN hB13 hxl_old)
     have hB35 := hB35.keep E73 (sN hB35 hxl_old)
     have hO51 := hO51.keepX hxl_old E73 zz
     have hO65 := hO65.keepX hxl_old E73 zz
     have hb := hb.stepB E73 (.inl rfl)
     refine ktk_end0 (G := fun t9 w' => (22 ∈ t9 → (Bx w' l 92 [tv, (.slice none 0 0), cv2, kv2])) ∧ (Bx w' b33 68 [(.string (bs (d7.t.cols.getD i default).nm)), (.int .i64 (d7.t.cols.getD i default).kind), (.string (bs (d7.t.cols.getD i default).ref))])) (todo := [22]) (i := 22) rfl ⟨(fun h => absurd h zz), hB35⟩ ?_
     intro w74 E74 a74 hN74 hd74 hbs74 hph74
     have hd74 := hd74.trans ((by simp only [putsL_defers] : _ = _).trans hd22)
     have := E74.size
     have hR := hR.keep0 E74
     have hT := hT.keep0 E74
     have hO7 := hO7.keep0 E74
     have hP7 := hP7.keep0 E74
     have hO51 := hO51.keep0 E74
     have hO65 := hO65.keep0 E74
     obtain ⟨hB5, hB13, hxl⟩ := kb3 E74 hB5 hB13 hxl
     have hb := hb.step0 E74
     have s74_0 := (hbs74 0 rfl).trans (zL hN22 rfl s22_0)
     have s74_1 := (hbs74 1 rfl).trans (zL hN22 rfl s22_1)
     have s74_4 := (hbs74 4 rfl).trans (zL hN22 rfl s22_4)
     have s74_5 := (hbs74 5 rfl).trans (zL hN22 rfl s22_5)
     have s74_6 := (hbs74 6 rfl).trans (zL hN22 rfl s22_6)
     have s74_23 := (hbs74 23 rfl).trans (zL hN22 rfl s22_23)
     have s74_24 := (hbs74 24 rfl).trans (zL hN22 rfl s22_24)
     have s74_25 := (hbs74 25 rfl).trans (zL hN22 rfl s22_25)
     have s74_30 : Sl a74 30 (ptr l 0) := (hph74 1 _ 30 rfl rfl).2 rfl
     have s74_48 : Sl a74 48 v62 := (zE ((hph74 19 _ 48 rfl rfl).1 rfl)).symm
     refine split_end ?_
     refine from_seq (tl := [_, _, _]) zz zy rfl ?_
     refine op_nil (zC hN74 rfl s74_30) (zM fld92_2 (zA hN74 rfl) ?_)
     have hxl_old := hxl
     refine za (vs := [v62]) (cs' := [tv, (.slice none 0 0), v48, v62]) size23 (zA hN74 rfl) (zC hN74 rfl s74_48) hO65.cl rfl (by simp only [List.all_cons, List.all_nil, Bool.true_and, Bool.and_true, hO65.one]; try rfl) hxl (zI rfl) rfl ?_
     intro w77 hxl E78
     have := E78.size
     have hR := hR.keep E78 sR
     have hT := hT.keep E78 sR
     have hB5 := hB5.keep E78 (sN hB5 hxl_old)
     have hO7 := hO7.keepX hxl_old E78 zz
     have hP7 := hP7.keepX hxl_old E78 zz
     have hB13 := hB13.keep E78 (sN hB13 hxl_old)
     have hO51 := hO51.keepX hxl_old E78 zz
     have hO65 := hO65.keepX hxl_old E78 zz
     have hb := hb.stepB E78 (.inl rfl)
     refine zB ?_
     refine hK27 _ _ (zH ?_)
     refine op_add (zC hN74 rfl s74_25) rfl (add64 zx) ?_
     refine zG (zA hN74 rfl) ?_
     refine zB ?_
     -- round 16T 26T
     exact zg _ hN74 hd74 ⟨(i + 1), v48, v62, rfl, (zL hN74 rfl s74_0), (zL hN74 rfl s74_1), (zL hN74 rfl s74_4), (zL hN74 rfl s74_5), (zL hN74 rfl s74_6), (zL hN74 rfl s74_23), (zL hN74 rfl s74_24), (zU hN74 rfl).trans (congrArg (Value.int .i64) zx), zx, (inF_step (n := w.heap.size) hm52 zx hcF), (inF_step (n := w.heap.size) hm66 zx hkF), hb, zx, hR, hT, hB5, hO7, hP7, hB13, hxl, (hO51.cast (by rw [cols_snoc zx]; simp only [List.length_append, List.length_cons, List.length_nil]; omega) (by rw [cols_snoc zx]; simp [List.append_assoc, cellsI])), (hO65.cast (by rw [kinds_snoc zx]; simp only [List.length_append, List.length_cons, List.length_nil]; omega) (by rw [kinds_snoc zx]; simp [List.append_assoc]))⟩ zx
    refine one_mem ?_
    intro w79 E79 _ a79 hN79 hbs79 hdp79 o_ ho_; obtain rfl := zE ho_
    have := E79.size
    have hR := hR.keep0 E79
    have hT := hT.keep0 E79
    have hO7 := hO7.keep0 E79
    have hP7 := hP7.keep0 E79
    have hO23 := hO23.keep0 E79
    have hO24 := hO24.keep0 E79
    obtain ⟨hB5, hB13, hxl, hB35, hB45⟩ := kb5 E79 hB5 hB13 hxl hB35 hB45
    have hb := hb.step0 E79
    have q79_46 : Sl a79 46 (.int .i64 (d7.t.cols.getD i default).kind) := (hdp79 17 _ 46 zy rfl rfl).2 rfl
    refine op_bslice (e := 3) (pv := [(0, (.int .i64 (d7.t.cols.getD i default).kind))]) (cs := [(.int .i64 (d7.t.cols.getD i default).kind)]) ⟨rfl, (zC hN79 rfl q79_46), trivial⟩ zy ?_
    intro w80 b81 lo_b81 hi_b81 hB83 E82
    have := E82.size
    have hR := hR.keep0 E82
    have hT := hT.keep0 E82
    have hO7 := hO7.keep0 E82
    have hP7 := hP7.keep0 E82
    have hO23 := hO23.keep0 E82
    have hO24 := hO24.keep0 E82
    obtain ⟨hB5, hB13, hxl, hB35, hB45⟩ := kb5 E82 hB5 hB13 hxl hB35 hB45
    have hb := hb.step0 E82
    refine ktk_end (G := fun t9 w' => (22 ∈ t9 → (Bx w' l 92 [tv, (.slice none 0 0), cv2, kv2])) ∧ (Bx w' b33 68 [(.string (bs (d7.t.cols.getD i default).nm)), (.int .i64 (d7.t.cols.getD i default).kind), (.string (bs (d7.t.cols.getD i default).ref))])) (todo := [11, 18, 19, 22]) (i := 18) rfl ⟨(fun _ => hxl), hB35⟩ ?_
    refine ktk_step (rs := [11]) zy ?_
    refine one_mem ?_
    intro w85 E85 _ a85 hN85 hbs85 hdp85 o_ ho_; obtain rfl := zE ho_
    have := E85.size
    have hR := hR.keep0 E85
    have hT := hT.keep0 E85
    have hO7 := hO7.keep0 E85
    have hP7 := hP7.keep0 E85
    have hO23 := hO23.keep0 E85
    have hO24 := hO24.keep0 E85
    obtain ⟨hB5, hB13, hxl, hB35, hB45, hB83⟩ := kb6 E85 hB5 hB13 hxl hB35 hB45 hB83
    have hb := hb.step0 E85
    have q85_34 : Sl a85 34 cv2 := (hdp85 5 _ 34 zy rfl rfl).2 rfl
    have q85_39 : Sl a85 39 (.slice (some ⟨b43, 0, none⟩) 1 1) := (zE ((hdp85 10 _ 39 zy rfl rfl).1 rfl)).symm
    have hP91 := hO23
    refine op_append slt22 (zC hN85 rfl q85_34) hP91 (zC hN85 rfl q85_39) (Src.ofRd Try.underlying22 zz (RdC.ofBx (sz := 3) (n := 1) hB45 rfl zz) (by simp [Value.oneCell', u8v])) (by unfold maxLen; omega) zx (by first | exact Nat.le_trans (by assumption) hb.size | (have := hb.size; omega)) ?_
    intro v86 w87 hO89 E88 hm90
    have := E88.size
    have hR := hR.keepO hP91 E88 zx
    have hT := hT.keepO hP91 E88 zx
    have hB5 := hB5.keepO hP91 E88 zz
    have hO7 := hO7.keepT hP91 E88 zz
    have hP7 := hP7.keepT hP91 E88 zz
    have hB13 := hB13.keepO hP91 E88 zz
    have hxl := hxl.keepO hP91 E88 zz
    have hO24 := hO24.keepT hP91 E88 zz
    have hB35 := hB35.keepO hP91 E88 zz
    have hB83 := hB83.keepO hP91 E88 zz
    have hb := hb.stepL E88 hcF
    have hO89 : Own w87 B 63 3 v86 ((C ++ colsOf x (d7.t.cols.take i)).length + 1) (((C ++ colsOf x (d7.t.cols.take i)).flatMap cellsI ++ [(.int .i64 0), (.string (bs x)), (.string (bs (d7.t.cols.getD i default).nm))])) := by simpa [u8v, u16v, sv] using hO89
    refine ktk_end (G := fun t9 w' => (22 ∈ t9 → (Bx w' l 92 [tv, (.slice none 0 0), cv2, kv2])) ∧ (Bx w' b33 68 [(.string (bs (d7.t.cols.getD i default).nm)), (.int .i64 (d7.t.cols.getD i default).kind), (.string (bs (d7.t.cols.getD i default).ref))])) (todo := [11, 19, 22]) (i := 11) rfl ⟨(fun _ => hxl), hB35⟩ ?_
    refine ktk_step (rs := [19]) zy ?_
    refine one_mem ?_
    intro w93 E93 _ a93 hN93 hbs93 hdp93 o_ ho_; obtain rfl := zE ho_
    have := E93.size
    have hR := hR.keep0 E93
    have hT := hT.keep0 E93
    have hO7 := hO7.keep0 E93
    have hP7 := hP7.keep0 E93
    have hO24 := hO24.keep0 E93
    have hO89 := hO89.keep0 E93
    obtain ⟨hB5, hB13, hxl, hB35, hB83⟩ := kb5 E93 hB5 hB13 hxl hB35 hB83
    have hb := hb.step0 E93
    have q93_44 : Sl a93 44 kv2 := (hdp93 15 _ 44 zy rfl rfl).2 rfl
    have q93_47 : Sl a93 47 (.slice (some ⟨b81, 0, none⟩) 1 1) := (zE ((hdp93 18 _ 47 zy rfl rfl).1 rfl)).symm
    have hP99 := hO24
    refine op_append slt23 (zC hN93 rfl q93_44) hP99 (zC hN93 rfl q93_47) (Src.ofRd Try.underlying23 zz (RdC.ofBx (sz := 1) (n := 1) hB83 rfl zz) (by simp [Value.oneCell', u8v])) (by unfold maxLen; omega) zx (by first | exact Nat.le_trans (by assumption) hb.size | (have := hb.size; omega)) ?_
    intro v94 w95 hO97 E96 hm98
    have := E96.size
    have hR := hR.keepO hP99 E96 zx
    have hT := hT.keepO hP99 E96 zx
    have hB5 := hB5.keepO hP99 E96 zz
    have hO7 := hO7.keepT hP99 E96 zz
    have hP7 := hP7.keepT hP99 E96 zz
    have hB13 := hB13.keepO hP99 E96 zz
    have hxl := hxl.keepO hP99 E96 zz
    have hB35 := hB35.keepO hP99 E96 zz
    have hO89 := hO89.keepT hP99 E96 zz
    have hb := hb.stepL E96 hkF
    have hO97 : Own w95 B 3 1 v94 ((K ++ kindsOf (d7.t.cols.take i)).length + 1) ((((K ++ kindsOf (d7.t.cols.take i)) ++ [(d7.t.cols.getD i default).kind])).map (Value.int .i64)) := by simpa [u8v, u16v, sv] using hO97
    refine ktk_end (G := fun t9 w' => (22 ∈ t9 → (Bx w' l 92 [tv, (.slice none 0 0), cv2, kv2])) ∧ (Bx w' b33 68 [(.string (bs (d7.t.cols.getD i default).nm)), (.int .i64 (d7.t.cols.getD i default).kind), (.string (bs (d7.t.cols.getD i default).ref))])) (todo := [19, 22]) (i := 19) rfl ⟨(fun _ => hxl), hB35⟩ ?_
    refine ktk_step (rs := [22]) zy ?_
    refine one_mem ?_
    intro w101 E101 _ a101 hN101 hbs101 hdp101 o_ ho_; obtain rfl := zE ho_
    have := E101.size
    have hR := hR.keep0 E101
    have hT := hT.keep0 E101
    have hO7 := hO7.keep0 E101
    have hP7 := hP7.keep0 E101
    have hO89 := hO89.keep0 E101
    have hO97 := hO97.keep0 E101
    obtain ⟨hB5, hB13, hxl, hB35⟩ := kb4 E101 hB5 hB13 hxl hB35
    have hb := hb.step0 E101
    have q101_50 : Sl a101 50 (ptr l 2) := (hdp101 21 _ 50 zy rfl rfl).2 rfl
    have q101_40 : Sl a101 40 v86 := (zE ((hdp101 11 _ 40 zy rfl rfl).1 rfl)).symm
    have hxl_old := hxl
    refine za (vs := [v86]) (cs' := [tv, (.slice none 0 0), v86, kv2]) size22 (zC hN101 rfl q101_50) (zC hN101 rfl q101_40) hO89.cl rfl (by simp only [List.all_cons, List.all_nil, Bool.true_and, Bool.and_true, hO89.one]; try rfl) hxl (zI rfl) rfl ?_
    intro w104 hxl E105
    have := E105.size
    have hR := hR.keep E105 sR
    have hT := hT.keep E105 sR
    have hB5 := hB5.keep E105 (sN hB5 hxl_old)
    have hO7 := hO7.keepX hxl_old E105 zz
    have hP7 := hP7.keepX hxl_old E105 zz
    have hB13 := hB13.keep E105 (sN hB13 hxl_old)
    have hB35 := hB35.keep E105 (sN hB35 hxl_old)
    have hO89 := hO89.keepX hxl_old E105 zz
    have hO97 := hO97.keepX hxl_old E105 zz
    have hb := hb.stepB E105 (.inl rfl)
    refine ktk_end0 (G := fun t9 w' => (22 ∈ t9 → (Bx w' l 92 [tv, (.slice none 0 0), cv2, kv2])) ∧ (Bx w' b33 68 [(.string (bs (d7.t.cols.getD i default).nm)), (.int .i64 (d7.t.cols.getD i default).kind), (.string (bs (d7.t.cols.getD i default).ref))])) (todo := [22]) (i := 22) rfl ⟨(fun h => absurd h zz), hB35⟩ ?_
    intro w106 E106 a106 hN106 hd106 hbs106 hph106
    have hd106 := hd106.trans ((by simp only [putsL_defers] : _ = _).trans hd22)
    have := E106.size
    have hR := hR.keep0 E106
    have hT := hT.keep0 E106
    have hO7 := hO7.keep0 E106
    have hP7 := hP7.keep0 E106
    have hO89 := hO89.keep0 E106
    have hO97 := hO97.keep0 E106
    obtain ⟨hB5, hB13, hxl⟩ := kb3 E106 hB5 hB13 hxl
    have hb := hb.step0 E106
    have s106_0 := (hbs106 0 rfl).trans (zL hN22 rfl s22_0)
    have s106_1 := (hbs106 1 rfl).trans (zL hN22 rfl s22_1)
    have s106_4 := (hbs106 4 rfl).trans (zL hN22 rfl s22_4)
    have s106_5 := (hbs106 5 rfl).trans (zL hN22 rfl s22_5)
    have s106_6 := (hbs106 6 rfl).trans (zL hN22 rfl s22_6)
    have s106_23 := (hbs106 23 rfl).trans (zL hN22 rfl s22_23)
    have s106_24 := (hbs106 24 rfl).trans (zL hN22 rfl s22_24)
    have s106_25 := (hbs106 25 rfl).trans (zL hN22 rfl s22_25)
    have s106_30 : Sl a106 30 (ptr l 0) := (hph106 1 _ 30 rfl rfl).2 rfl
    have s106_48 : Sl a106 48 v94 := (zE ((hph106 19 _ 48 rfl rfl).1 rfl)).symm
    refine split_end ?_
    refine from_seq (tl := [_, _, _]) zz zy rfl ?_
    refine op_nil (zC hN106 rfl s106_30) (zM fld92_2 (zA hN106 rfl) ?_)
    have hxl_old := hxl
    refine za (vs := [v94]) (cs' := [tv, (.slice none 0 0), v86, v94]) size23 (zA hN106 rfl) (zC hN106 rfl s106_48) hO97.cl rfl (by simp only [List.all_cons, List.all_nil, Bool.true_and, Bool.and_true, hO97.one]; try rfl) hxl (zI rfl) rfl ?_
    intro w109 hxl E110
    have := E110.size
    have hR := hR.keep E110 sR
    have hT := hT.keep E110 sR
    have hB5 := hB5.keep E110 (sN hB5 hxl_old)
    have hO7 := hO7.keepX hxl_old E110 zz
    have hP7 := hP7.keepX hxl_old E110 zz
    have hB13 := hB13.keep E110 (sN hB13 hxl_old)
    have hO89 := hO89.keepX hxl_old E110 zz
    have hO97 := hO97.keepX hxl_old E110 zz
    have hb := hb.stepB E110 (.inl rfl)
    refine zB ?_
    refine hK27 _ _ (zH ?_)
    refine op_add (zC hN106 rfl s106_25) rfl (add64 zx) ?_
    refine zG (zA hN106 rfl) ?_
    refine zB ?_
    -- round 16T 26T
    exact zg _ hN106 hd106 ⟨(i + 1), v86, v94, rfl, (zL hN106 rfl s106_0), (zL hN106 rfl s106_1), (zL hN106 rfl s106_4), (zL hN106 rfl s106_5), (zL hN106 rfl s106_6), (zL hN106 rfl s106_23), (zL hN106 rfl s106_24), (zU hN106 rfl).trans (congrArg (Value.int .i64) zx), zx, (inF_step (n := w.heap.size) hm90 zx hcF), (inF_step (n := w.heap.size) hm98 zx hkF), hb, zx, hR, hT, hB5, hO7, hP7, hB13, hxl, (hO89.cast (by rw [cols_snoc zx]; simp only [List.length_append, List.length_cons, List.length_nil]; omega) (by rw [cols_snoc zx]; simp [List.append_assoc, cellsI])), (hO97.cast (by rw [kinds_snoc zx]; simp only [List.length_append, List.length_cons, List.length_nil]; omega) (by rw [kinds_snoc zx]; simp [List.append_assoc]))⟩ zx
   refine one_mem ?_
   intro w111 E111 _ a111 hN111 hbs111 hdp111 o_ ho_; obtain rfl := zE ho_
   have := E111.size
   have hR := hR.keep0 E111
   have hT := hT.keep0 E111
   have hO7 := hO7.keep0 E111
   have hP7 := hP7.keep0 E111
   have hO23 := hO23.keep0 E111
   have hO24 := hO24.keep0 E111
   obtain ⟨hB5, hB13, hxl, hB35⟩ := kb4 E111 hB5 hB13 hxl hB35
   have hb := hb.step0 E111
   have q111_46 : Sl a111 46 (.int .i64 (d7.t.cols.getD i default).kind) := (hdp111 17 _ 46 zy rfl rfl).2 rfl
   refine op_bslice (e := 3) (pv := [(0, (.int .i64 (d7.t.cols.getD i default).kind))]) (cs := [(.int .i64 (d7.t.cols.getD i default).kind)]) ⟨rfl, (zC hN111 rfl q111_46), trivial⟩ zy ?_
   intro w112 b113 lo_b113 hi_b113 hB115 E114
   have := E114.size
   have hR := hR.keep0 E114
   have hT := hT.keep0 E114
   have hO7 := hO7.keep0 E114
   have hP7 := hP7.keep0 E114
   have hO23 := hO23.keep0 E114
   have hO24 := hO24.keep0 E114
   obtain ⟨hB5, hB13, hxl, hB35⟩ := kb4 E114 hB5 hB13 hxl hB35
   have hb := hb.step0 E114
   refine ktk_end (G := fun t9 w' => (22 ∈ t9 → (Bx w' l 92 [tv, (.slice none 0 0), cv2, kv2])) ∧ (Bx w' b33 68 [(.string (bs (d7.t.cols.getD i default).nm)), (.int .i64 (d7.t.cols.getD i default).kind), (.string (bs (d7.t.cols.getD i default).ref))])) (todo := [10, 11, 18, 19, 22]) (i := 18) rfl ⟨(fun _ => hxl), hB35⟩ ?_
   refine ktk_step (rs := [10]) zy ?_
   refine one_mem ?_
   intro w117 E117 _ a117 hN117 hbs117 hdp117 o_ ho_; obtain rfl := zE ho_
   have := E117.size
   have hR := hR.keep0 E117
   have hT := hT.keep0 E117
   have hO7 := hO7.keep0 E117
   have hP7 := hP7.keep0 E117
   have hO23 := hO23.keep0 E117
   have hO24 := hO24.keep0 E117
   obtain ⟨hB5, hB13, hxl, hB35, hB115⟩ := kb5 E117 hB5 hB13 hxl hB35 hB115
   have hb := hb.step0 E117
   have q117_38 : Sl a117 38 (.agg #[(.int .i64 0), (.string (bs x)), (.string (bs (d7.t.cols.getD i default).nm))]) := (hdp117 9 _ 38 zy rfl rfl).2 rfl
   refine op_bslice (e := 63) (pv := [(0, (.agg #[(.int .i64 0), (.string (bs x)), (.string (bs (d7.t.cols.getD i default).nm))]))]) (cs := [(.int .i64 0), (.string (bs x)), (.string (bs (d7.t.cols.getD i default).nm))]) ⟨rfl, (zC hN117 rfl q117_38), trivial⟩ zy ?_
   intro w118 b119 lo_b119 hi_b119 hB121 E120
   have := E120.size
   have hR := hR.keep0 E120
   have hT := hT.keep0 E120
   have hO7 := hO7.keep0 E120
   have hP7 := hP7.keep0 E120
   have hO23 := hO23.keep0 E120
   have hO24 := hO24.keep0 E120
   obtain ⟨hB5, hB13, hxl, hB35, hB115⟩ := kb5 E120 hB5 hB13 hxl hB35 hB115
   have hb := hb.step0 E120
   refine ktk_end (G := fun t9 w' => (22 ∈ t9 → (Bx w' l 92 [tv, (.slice none 0 0), cv2, kv2])) ∧ (Bx w' b33 68 [(.string (bs (d7.t.cols.getD i default).nm)), (.int .i64 (d7.t.cols.getD i default).kind), (.string (bs (d7.t.cols.getD i default).ref))])) (todo := [10, 11, 19, 22]) (i := 10) rfl ⟨(fun _ => hxl), hB35⟩ ?_
   refine ktk_step (rs := [11]) zy ?_
   refine one_mem ?_
   intro w123 E123 _ a123 hN123 hbs123 hdp123 o_ ho_; obtain rfl := zE ho_
   have := E123.size
   have hR := hR.keep0 E123
   have hT := hT.keep0 E123
   have hO7 := hO7.keep0 E123
   have hP7 := hP7.keep0 E123
   have hO23 := hO23.keep0 E123
   have hO24 := hO24.keep0 E123
   obtain ⟨hB5, hB13, hxl, hB35, hB115, hB121⟩ := kb6 E123 hB5 hB13 hxl hB35 hB115 hB121
   have hb := hb.step0 E123
   have q123_34 : Sl a123 34 cv2 := (hdp123 5 _ 34 zy rfl rfl).2 rfl
   have q123_39 : Sl a123 39 (.slice (some ⟨b119, 0, none⟩) 1 1) := (zE ((hdp123 10 _ 39 zy rfl rfl).1 rfl)).symm
   have hP129 := hO23
   refine op_append slt22 (zC hN123 rfl q123_34) hP129 (zC hN123 rfl q123_39) (Src.ofRd Try.underlying22 zz (RdC.ofBx (sz := 3) (n := 1) hB121 rfl zz) (by simp [Value.oneCell', u8v])) (by unfold maxLen; omega) zx (by first | exact Nat.le_trans (by assumption) hb.size | (have := hb.size; omega)) ?_
   intro v124 w125 hO127 E126 hm128
   have := E126.size
   have hR := hR.keepO hP129 E126 zx
   have hT := hT.keepO hP129 E126 zx
   have hB5 := hB5.keepO hP129 E126 zz
   have hO7 := hO7.keepT hP129 E126 zz
   have hP7 := hP7.keepT hP129 E126 zz
   have hB13 := hB13.keepO hP129 E126 zz
   have hxl := hxl.keepO hP129 E126 zz
   have hO24 := hO24.keepT hP129 E126 zz
   have hB35 := hB35.keepO hP129 E126 zz
   have hB115 := hB115.keepO hP129 E126 zz
   have hb := hb.stepL E126 hcF
   have hO127 : Own w125 B 63 3 v124 ((C ++ colsOf x (d7.t.cols.take i)).length + 1) (((C ++ colsOf x (d7.t.cols.take i)).flatMap cellsI ++ [(.int .i64 0), (.string (bs x)), (.string (bs (d7.t.cols.getD i default).nm))])) := by simpa [u8v, u16v, sv] using hO127
   refine ktk_end (G := fun t9 w' => (22 ∈ t9 → (Bx w' l 92 [tv, (.slice none 0 0), cv2, kv2])) ∧ (Bx w' b33 68 [(.string (bs (d7.t.cols.getD i default).nm)), (.int .i64 (d7.t.cols.getD i default).kind), (.string (bs (d7.t.cols.getD i default).ref))])) (todo := [11, 19, 22]) (i := 11) rfl ⟨(fun _ => hxl), hB35⟩ ?_
   refine ktk_step (rs := [19]) zy ?_
   refine one_mem ?_
   intro w131 E131 _ a131 hN131 hbs131 hdp131 o_ ho_; obtain rfl := zE ho_
   have := E131.size
   have hR := hR.keep0 E131
   have hT := hT.keep0 E131
   have hO7 := hO7.keep0 E131
   have hP7 := hP7.keep0 E131
   have hO24 := hO24.keep0 E131
   have hO127 := hO127.keep0 E131
   obtain ⟨hB5, hB13, hxl, hB35, hB115⟩ := kb5 E131 hB5 hB13 hxl hB35 hB115
   have hb := hb.step0 E131
   have q131_44 : Sl a131 44 kv2 := (hdp131 15 _ 44 zy rfl rfl).2 rfl
   have q131_47 : Sl a131 47 (.slice (some ⟨b113, 0, none⟩) 1 1) := (zE ((hdp131 18 _ 47 zy rfl rfl).1 rfl)).symm
   have hP137 := hO24
   refine op_append slt23 (zC hN131 rfl q131_44) hP137 (zC hN131 rfl q131_47) (Src.ofRd Try.underlying23 zz (RdC.ofBx (sz := 1) (n := 1) hB115 rfl zz) (by simp [Value.oneCell', u8v])) (by unfold maxLen; omega) zx (by first | exact Nat.le_trans (by assumption) hb.size | (have := hb.size; omega)) ?_
   intro v132 w133 hO135 E134 hm136
   have := E134.size
   have hR := hR.keepO hP137 E134 zx
   have hT := hT.keepO hP137 E134 zx
   have hB5 := hB5.keepO hP137 E134 zz
   have hO7 := hO7.keepT hP137 E134 zz
   have hP7 := hP7.keepT hP137 E134 zz
   have hB13 := hB13.keepO hP137 E134 zz
   have hxl := hxl.keepO hP137 E134 zz
   have hB35 := hB35.keepO hP137 E134 zz
   have hO127 := hO127.keepT hP137 E134 zz
   have hb := hb.stepL E134 hkF
   have hO135 : Own w133 B 3 1 v132 ((K ++ kindsOf (d7.t.cols.take i)).length + 1) ((((K ++ kindsOf (d7.t.cols.take i)) ++ [(d7.t.cols.getD i default).kind])).map (Value.int .i64)) := by simpa [u8v, u16v, sv] using hO135
   refine ktk_end (G := fun t9 w' => (22 ∈ t9 → (Bx w' l 92 [tv, (.slice none 0 0), cv2, kv2])) ∧ (Bx w' b33 68 [(.string (bs (d7.t.cols.getD i default).nm)), (.int .i64 (d7.t.cols.getD i default).kind), (.string (bs (d7.t.cols.getD i default).ref))])) (todo := [19, 22]) (i := 19) rfl ⟨(fun _ => hxl), hB35⟩ ?_
   refine ktk_step (rs := [22]) zy ?_
   refine one_mem ?_
   intro w139 E139 _ a139 hN139 hbs139 hdp139 o_ ho_; obtain rfl := zE ho_
   have := E139.size
   have hR := hR.keep0 E139
   have hT := hT.keep0 E139
   have hO7 := hO7.keep0 E139
   have hP7 := hP7.keep0 E139
   have hO127 := hO127.keep0 E139
   have hO135 := hO135.keep0 E139
   obtain ⟨hB5, hB13, hxl, hB35⟩ := kb4 E139 hB5 hB13 hxl hB35
   have hb := hb.step0 E139
   have q139_50 : Sl a139 50 (ptr l 2) := (hdp139 21 _ 50 zy rfl rfl).2 rfl
   have q139_40 : Sl a139 40 v124 := (zE ((hdp139 11 _ 40 zy rfl rfl).1 rfl)).symm
   have hxl_old := hxl
   refine za (vs := [v124]) (cs' := [tv, (.slice none 0 0), v124, kv2]) size22 (zC hN139 rfl q139_50) (zC hN139 rfl q139_40) hO127.cl rfl (by simp only [List.all_cons, List.all_nil, Bool.true_and, Bool.and_true, hO127.one]; try rfl) hxl (zI rfl) rfl ?_
   intro w142 hxl E143
   have := E143.size
   have hR := hR.keep E143 sR
   have hT := hT.keep E143 sR
   have hB5 := hB5.keep E143 (sN hB5 hxl_old)
   have hO7 := hO7.keepX hxl_old E143 zz
   have hP7 := hP7.keepX hxl_old E143 zz
   have hB13 := hB13.keep E143 (sN hB13 hxl_old)
   have hB35 := hB35.keep E143 (sN hB35 hxl_old)
   have hO127 := hO127.keepX hxl_old E143 zz
   have hO135 := hO135.keepX hxl_old E143 zz
   have hb := hb.stepB E143 (.inl rfl)
   refine ktk_end0 (G := fun t9 w' => (22 ∈ t9 → (Bx w' l 92 [tv, (.slice none 0 0), cv2, kv2])) ∧ (Bx w' b33 68 [(.string (bs (d7.t.cols.getD i default).nm)), (.int .i64 (d7.t.cols.getD i default).kind), (.string (bs (d7.t.cols.getD i default).ref))])) (todo := [22]) (i := 22) rfl ⟨(fun h => absurd h zz), hB35⟩ ?_
   intro w144 E144 a144 hN144 hd144 hbs144 hph144
   have hd144 := hd144.trans ((by simp only [putsL_defers] : _ = _).trans hd22)
   have := E144.size
   have hR := hR.keep0 E144
   have hT := hT.keep0 E144
   have hO7 := hO7.keep0 E144
   have hP7 := hP7.keep0 E144
   have hO127 := hO127.keep0 E144
   have hO135 := hO135.keep0 E144
   obtain ⟨hB5, hB13, hxl⟩ := kb3 E144 hB5 hB13 hxl
   have hb := hb.step0 E144
   have s144_0 := (hbs144 0 rfl).trans (zL hN22 rfl s22_0)
   have s144_1 := (hbs144 1 rfl).trans (zL hN22 rfl s22_1)
   have s144_4 := (hbs144 4 rfl).trans (zL hN22 rfl s22_4)
   have s144_5 := (hbs144 5 rfl).trans (zL hN22 rfl s22_5)
   have s144_6 := (hbs144 6 rfl).trans (zL hN22 rfl s22_6)
   have s144_23 := (hbs144 23 rfl).trans (zL hN22 rfl s22_23)
   have s144_24 := (hbs144 24 rfl).trans (zL hN22 rfl s22_24)
   have s144_25 := (hbs144 25 rfl).trans (zL hN22 rfl s22_25)
   have s144_30 : Sl a144 30 (ptr l 0) := (hph144 1 _ 30 rfl rfl).2 rfl
   have s144_48 : Sl a144 48 v132 := (zE ((hph144 19 _ 48 rfl rfl).1 rfl)).symm
   refine split_end ?_
   refine from_seq (tl := [_, _, _]) zz zy rfl ?_
   refine op_nil (zC hN144 rfl s144_30) (zM fld92_2 (zA hN144 rfl) ?_)
   have hxl_old := hxl
   refine za (vs := [v132]) (cs' := [tv, (.slice none 0 0), v124, v132]) size23 (zA hN144 rfl) (zC hN144 rfl s144_48) hO135.cl rfl (by simp only [List.all_cons, List.all_nil, Bool.true_and, Bool.and_true, hO135.one]; try rfl) hxl (zI rfl) rfl ?_
   intro w147 hxl E148
   have := E148.size
   have hR := hR.keep E148 sR
   have hT := hT.keep E148 sR
   have hB5 := hB5.keep E148 (sN hB5 hxl_old)
   have hO7 := hO7.keepX hxl_old E148 zz
   have hP7 := hP7.keepX hxl_old E148 zz
   have hB13 := hB13.keep E148 (sN hB13 hxl_old)
   have hO127 := hO127.keepX hxl_old E148 zz
   have hO135 := hO135.keepX hxl_old E148 zz
   have hb := hb.stepB E148 (.inl rfl)
   refine zB ?_
   refine hK27 _ _ (zH ?_)
   refine op_add (zC hN144 rfl s144_25) rfl (add64 zx) ?_
   refine zG (zA hN144 rfl) ?_
   refine zB ?_
   -- round 16T 26T
   exact zg _ hN144 hd144 ⟨(i + 1), v124, v132, rfl, (zL hN144 rfl s144_0), (zL hN144 rfl s144_1), (zL hN144 rfl s144_4), (zL hN144 rfl s144_5), (zL hN144 rfl s144_6), (zL hN144 rfl s144_23), (zL hN144 rfl s144_24), (zU hN144 rfl).trans (congrArg (Value.int .i64) zx), zx, (inF_step (n := w.heap.size) hm128 zx hcF), (inF_step (n := w.heap.size) hm136 zx hkF), hb, zx, hR, hT, hB5, hO7, hP7, hB13, hxl, (hO127.cast (by rw [cols_snoc zx]; simp only [List.length_append, List.length_cons, List.length_nil]; omega) (by rw [cols_snoc zx]; simp [List.append_assoc, cellsI])), (hO135.cast (by rw [kinds_snoc zx]; simp only [List.length_append, List.length_cons, List.length_nil]; omega) (by rw [kinds_snoc zx]; simp [List.append_assoc]))⟩ zx
  refine zB ?_
  refine hK25 _ _ (zF fun K149 hK149 => ?_)
  refine wp_cond_false (zA hN22 rfl) (wp_exit (then_exit (then_exit (blk_hit ?_))))
  refine hK20 _ _ (zF fun K150 hK150 => ?_)
  refine zH ?_
  refine zY agg55 rfl (zC hN22 rfl s22_6) hB13 ?_
  have hB5_old := hB5
  refine zZ size55 (zC hN22 rfl s22_4) (zA hN22 rfl) rfl (by simp only [List.all_cons, List.all_nil, Bool.true_and, Bool.and_true, hO7.one, hP7.one]; try rfl) hB5 rfl ?_
  intro w153 hB5 E154
  have := E154.size
  have hO7 := hO7.keepX hB5_old E154 zz
  have hP7 := hP7.keepX hB5_old E154 zz
  have hxl := hxl.keep E154 (sN hxl hB5_old)
  have hO23 := hO23.keepX hB5_old E154 zz
  have hO24 := hO24.keepX hB5_old E154 zz
  have hb := hb.step1 E154 zx
  refine zD rfl ?_
  refine zB ?_
  refine hK150 _ _ (wp_ret ?_)
  refine retN (rs := [.cell 4 55, .tmp 5]) (vs := [(.agg #[(.string (bs d7.t.nm)), d7.cv, d7.iv]), (.int .i64 0)]) rfl hd22 ⟨⟨_, (zC hN22 rfl s22_4), run_loadA (cs := [(.string (bs d7.t.nm)), d7.cv, d7.iv]) agg55 rfl (fun j u hu => by rw [Nat.zero_add]; exact hB5.cell hu)⟩, ⟨(zA hN22 rfl), trivial⟩⟩ rfl ⟨_, rfl, ?_⟩
  have e9 : d7.t.cols.take i = d7.t.cols := List.take_of_length_le zx
  rw [e9] at hO23 hO24
  exact ⟨hb, _, _, _, _, hxl, hO23, hO24, hcF, hkF, .inr ⟨_, ht7, rfl, rfl, rfl, hO7, hP7⟩⟩
 refine zj ok57 (TableF k16 (hT.mono zx) hD hsz) ⟨(zA hN rfl), ⟨(zA hN rfl), trivial⟩⟩ ?_
 rintro _ w155 ⟨E156, rfl⟩
 have E156 := zQ E156
 have := E156.size
 have hx := hx.keep0 E156
 have O := O.keep0 E156
 have P := P.keep0 E156
 have hB5 := hB5.keep0 E156
 have hb := hb.step0 E156
 refine zG (zA hN rfl) ?_
 refine zW (zA hN rfl) rfl ?_
 refine zW (zA hN rfl) rfl ?_
 refine op_alloc (cs := [(.string (bs [])), (.slice none 0 0), (.slice none 0 0)]) zero55 rfl ?_
 intro w157 b158 lo_b158 hi_b158 hB160 E159
 have := E159.size
 have hx := hx.keep0 E159
 have O := O.keep0 E159
 have P := P.keep0 E159
 have hB5 := hB5.keep0 E159
 have hb := hb.step0 E159
 have hB160_old := hB160
 refine zZ size55 (zA hN rfl) (zA hN rfl) rfl rfl hB160 rfl ?_
 intro w163 hB160 E164
 have := E164.size
 have hx := hx.keep E164 (sN hx hB160_old)
 have O := O.keepX hB160_old E164 zz
 have P := P.keepX hB160_old E164 zz
 have hB5 := hB5.keep E164 sB
 have hb := hb.step1 E164 zx
 refine zD (zA hN rfl) ?_
 refine zB ?_
 refine hK6 _ _ (zF fun K165 hK165 => ?_)
 refine zF fun K166 hK166 => ?_
 refine zH ?_
 refine zG (zA hN rfl) ?_
 refine op_not (zA hN rfl) ?_
 refine zB ?_
 refine hK166 _ _ (wp_cond_true (zA hN rfl) (zF fun K167 hK167 => ?_))
 refine zH ?_
 refine zY agg55 rfl (zA hN rfl) hB160 ?_
 have hB5_old := hB5
 refine zZ size55 (zA hN rfl) (zA hN rfl) rfl rfl hB5 rfl ?_
 intro w170 hB5 E171
 have := E171.size
 have hx := hx.keep E171 (sN hx hB5_old)
 have O := O.keepX hB5_old E171 zz
 have P := P.keepX hB5_old E171 zz
 have hb := hb.step1 E171 zx
 refine zD rfl ?_
 refine zB ?_
 refine hK167 _ _ (wp_ret (zO ( ?_)))
 refine retN (rs := [.cell 4 55, .tmp 5]) (vs := [(.agg #[(.string (bs [])), (.slice none 0 0), (.slice none 0 0)]), (.int .i64 9)]) rfl hd ⟨⟨_, (zA hN rfl), run_loadA (cs := [(.string (bs [])), (.slice none 0 0), (.slice none 0 0)]) agg55 rfl (fun j u hu => by rw [Nat.zero_add]; exact hB5.cell hu)⟩, ⟨(zA hN rfl), trivial⟩⟩ rfl ⟨_, rfl, ?_⟩
 exact ⟨hb, _, _, _, _, hx, O, P, fun k _ h => .inr (.inl h), fun k _ h => .inr (.inr h), .inl ⟨k16, rfl, rfl, rfl⟩⟩

theorem lookTable_ret {tv : Value} {D : List DTab} {C : List PItm} {K : List Int} {l B : Nat} {F : Nat → Prop} (x : List UInt8) {w : World} (hT : TsRd w B tv D) (hD : D.length ≤ 1000000) (hsz : ∀ d ∈ D, d.t.cols.length ≤ 1000000 ∧ d.t.idx.length ≤ 1000000) (hB : B ≤ w.heap.size) (h : LookR w B l tv (.slice none 0 0) C K F) (hCl : C.length ≤ 1000000000) (hKl : K.length ≤ 1000000000) : Ret Try.prog 45 #[ptr l 0, .string (bs x)] w (fun v' w' => Gr w w' F ∧ (((tabAt (D.map DTab.t) x).isSome = false ∧ v' = .tuple #[.agg #[.string (bs []), .slice none 0 0, .slice none 0 0], .int .i64 9] ∧ ∃ F', LookR w' B l tv (.slice none 0 0) C K F' ∧ NewF w.heap.size F F') ∨
    ∃ d : DTab, tabAt (D.map DTab.t) x = some d.t ∧ v' = .tuple #[.agg #[.string (bs d.t.nm), d.cv, d.iv], .int .i64 0] ∧ Own w' w.heap.size 68 3 d.cv d.t.cols.length (d.t.cols.flatMap cellsC) ∧ Own w' w.heap.size 9 1 d.iv d.t.idx.length (d.t.idx.map sv) ∧ ∃ F', LookR w' B l tv (.slice none 0 0) (C ++ colsOf x d.t.cols) (K ++ kindsOf d.t.cols) F' ∧ NewF w.heap.size F F')) := by
  obtain ⟨cv, kv, h0, hx, O, P, hF⟩ := h
  refine (lookTable x hT hD hsz hB h0 hx O P hCl hKl).mono fun v' w' q => ?_
  obtain ⟨E, cv', kv', C', K', hx', O', P', f1, f2, q⟩ := q
  have hn : NewF w.heap.size F (fun y => y = l ∨ Bl cv' y ∨ Bl kv' y) := fun k hk => by
    by_cases hlt : k < w.heap.size
    · refine .inl ((hF k).2 ?_)
      rcases hk with hk | hk | hk
      · exact .inl hk
      · exact f1 k hlt hk
      · exact f2 k hlt hk
    · exact .inr zx
  refine ⟨E.mono fun k _ hk => (hF k).2 hk, ?_⟩
  rcases q with ⟨k1, rfl, rfl, rfl⟩ | ⟨d, h1, rfl, rfl, rfl, h2, h3⟩
  · exact .inl ⟨k1, rfl, _, ⟨cv', kv', h0, hx', O', P', fun _ => Iff.rfl⟩, hn⟩
  · exact .inr ⟨d, h1, rfl, h2, h3, _, ⟨cv', kv', h0, hx', O', P', fun _ => Iff.rfl⟩, hn⟩
theorem lookTableT {tv : Value} {D : List DTab} {C : List PItm} {K : List Int} {l B : Nat} {F : Nat → Prop} {x : List UInt8} {w : World} (hk : (tabAt (D.map DTab.t) x).isSome = true) (hT : TsRd w B tv D) (hD : D.length ≤ 1000000) (hsz : ∀ d ∈ D, d.t.cols.length ≤ 1000000 ∧ d.t.idx.length ≤ 1000000) (hB : B ≤ w.heap.size) (h : LookR w B l tv (.slice none 0 0) C K F) (hCl : C.length ≤ 1000000000) (hKl : K.length ≤ 1000000000) : Ret Try.prog 45 #[ptr l 0, .string (bs x)] w (fun v' w' => Gr w w' F ∧ ∃ d : DTab, v' = .tuple #[.agg #[.string (bs d.t.nm), d.cv, d.iv], .int .i64 0] ∧ tabAt (D.map DTab.t) x = some d.t ∧ Own w' w.heap.size 68 3 d.cv d.t.cols.length (d.t.cols.flatMap cellsC) ∧ Own w' w.heap.size 9 1 d.iv d.t.idx.length (d.t.idx.map sv) ∧ ∃ F', LookR w' B l tv (.slice none 0 0) (C ++ colsOf x d.t.cols) (K ++ kindsOf d.t.cols) F' ∧ NewF w.heap.size F F') :=
  (lookTable_ret x hT hD hsz hB h hCl hKl).mono fun v' w' q => ⟨q.1, q.2.elim (fun q => by rw [q.1] at hk; cases hk) fun ⟨d, h1, h2, h3⟩ => ⟨d, h2, h1, h3⟩⟩
theorem lookTableF {tv : Value} {D : List DTab} {C : List PItm} {K : List Int} {l B : Nat} {F : Nat → Prop} {x : List UInt8} {w : World} (hk : (tabAt (D.map DTab.t) x).isSome = false) (hT : TsRd w B tv D) (hD : D.length ≤ 1000000) (hsz : ∀ d ∈ D, d.t.cols.length ≤ 1000000 ∧ d.t.idx.length ≤ 1000000) (hB : B ≤ w.heap.size) (h : LookR w B l tv (.slice none 0 0) C K F) (hCl : C.length ≤ 1000000000) (hKl : K.length ≤ 1000000000) : Ret Try.prog 45 #[ptr l 0, .string (bs x)] w (fun v' w' => Gr w w' F ∧ v' = .tuple #[.agg #[.string (bs []), .slice none 0 0, .slice none 0 0], .int .i64 9] ∧ ∃ F', LookR w' B l tv (.slice none 0 0) C K F' ∧ NewF w.heap.size F F') :=
  (lookTable_ret x hT hD hsz hB h hCl hKl).mono fun v' w' q => ⟨q.1, q.2.elim (fun q => q.2) fun ⟨d, h1, _⟩ => by rw [h1] at hk; cases hk⟩

theorem lkKind {tv vv : Value} {C : List PItm} {K : List Int} {l B : Nat} {F : Nat → Prop} (e : XE) {w : World} (hB : B ≤ w.heap.size) (h : LookR w B l tv vv C K F) (hCl : C.length ≤ 2000000000) (hKl : K.length ≤ 2000000000) (he : XRd w w.heap.size e) : Ret Try.prog 99 #[(ptr l 0), (.agg #[(.int .i64 e.op), (.int .i64 e.vk), (.int .i64 e.vi), (.string (bs e.vt)), (.string (bs e.tb)), (.string (bs e.nm)), e.av])] w (fun v' w' => Below w.heap.size w w' ∧ v' = .tuple #[.int .i64 (kindX C K e).1, .int .i64 (kindX C K e).2]) := by
 obtain ⟨cv, kv, h0, hx, O, P, hF⟩ := h
 have hi_l := hx.lt
 have hb := Below.refl w.heap.size w
 refine enter (N := 18) Try.func99 rfl rfl (by simp) fun a0 hN hd hA => ?_
 have s0 : a0.tmps.getD 0 undef = (ptr l 0) := hA 0 (by simp)
 have s1 : a0.tmps.getD 1 undef = (.agg #[(.int .i64 e.op), (.int .i64 e.vk), (.int .i64 e.vi), (.string (bs e.vt)), (.string (bs e.tb)), (.string (bs e.nm)), e.av]) := hA 1 (by simp)
 clear hA
 refine zF fun K1 hK1 => ?_
 refine zH ?_
 refine op_box (cs := [(.int .i64 e.op), (.int .i64 e.vk), (.int .i64 e.vi), (.string (bs e.vt)), (.string (bs e.tb)), (.string (bs e.nm)), e.av]) (zC hN rfl s1) rfl ?_
 intro w2 b3 lo_b3 hi_b3 hB5 E4
 have := E4.size
 have hx := hx.keep0 E4
 have O := O.keep0 E4
 have P := P.keep0 E4
 have he := he.keep0 E4
 have hb := zP hb E4 hb.size
 refine zD rfl ?_
 refine zD rfl ?_
 refine zB ?_
 refine hK1 _ _ (zF fun K6 hK6 => ?_)
 refine reg_from mixed ?_
 intro w8 E7
 have := E7.size
 have hx := hx.keep0 E7
 have O := O.keep0 E7
 have P := P.keep0 E7
 have he := he.keep0 E7
 have hB5 := hB5.keep0 E7
 have hb := zP hb E7 hb.size
 refine from_still (m := 9) 9 (hd := [_, _, _, _, _, _, _, _, _]) zy rfl rfl ?_
 refine st_step rfl (fun _ h9 => zG (zC hN rfl s0) h9) ?_
 refine st_step rfl (fun _ h9 => op_nil (zA hN rfl) h9) ?_
 refine st_step rfl (fun _ h9 => zM fld92_1 (zA hN rfl) h9) ?_
 refine st_step rfl (fun _ h9 => zN (v := cv) one22 (zA hN rfl) (hx.cell rfl) h9) ?_
 refine st_step rfl (fun _ h9 => zG (zC hN rfl s0) h9) ?_
 refine st_step rfl (fun _ h9 => op_nil (zA hN rfl) h9) ?_
 refine st_step rfl (fun _ h9 => zM fld92_2 (zA hN rfl) h9) ?_
 refine st_step rfl (fun _ h9 => zN (v := kv) one23 (zA hN rfl) (hx.cell rfl) h9) ?_
 refine st_step rfl (fun _ h9 => zY agg28 rfl (zA hN rfl) hB5 h9) ?_
 refine st_nil ?_
 refine from_one (k' := 10) zy rfl rfl ?_
 refine ze (vs := [cv, kv, (.agg #[(.int .i64 e.op), (.int .i64 e.vk), (.int .i64 e.vi), (.string (bs e.vt)), (.string (bs e.tb)), (.string (bs e.nm)), e.av])]) ok14 ⟨(zA hN rfl), ⟨(zA hN rfl), ⟨(zA hN rfl), trivial⟩⟩⟩ ((Kind_all e) (by first | assumption | omega | (simp only [List.length_append, List.length_cons, List.length_nil, List.length_drop, List.length_take]; omega) | (dsimp only; omega) | decide | (simp [keyV, be8_len]; done)) (by first | assumption | omega | (simp only [List.length_append, List.length_cons, List.length_nil, List.length_drop, List.length_take]; omega) | (dsimp only; omega) | decide | (simp [keyV, be8_len]; done)) (O.rdw.mono (Nat.zero_le _) zx) (P.rdw.mono (Nat.zero_le _) zx) (he.mono zx)) ?_
 rintro _ w9 ⟨E10, rfl⟩
 have E10 := zQ E10
 have := E10.size
 have hb := zP hb E10 hb.size
 refine from_next ?_
 refine from_still (m := 14) 4 (hd := [_, _, _, _]) zy rfl rfl ?_
 refine st_step rfl (fun _ h9 => zW (zA hN rfl) rfl h9) ?_
 refine st_step rfl (fun _ h9 => zW (zA hN rfl) rfl h9) ?_
 refine st_step rfl (fun _ h9 => zD (zA hN rfl) h9) ?_
 refine st_step rfl (fun _ h9 => zD (zA hN rfl) h9) ?_
 refine st_nil ?_
 refine from_end ?_ rfl
 refine hK6 _ _ (wp_ret ?_)
 refine ret2 rfl hd (zA hN rfl) (zA hN rfl) ⟨_, rfl, ?_⟩
 exact ⟨hb, rfl⟩

theorem lkMust {tv vv : Value} {C : List PItm} {K : List Int} {l B : Nat} {F : Nat → Prop} (e : XE) (kd : Int) {w : World} (hB : B ≤ w.heap.size) (h : LookR w B l tv vv C K F) (hCl : C.length ≤ 2000000000) (hKl : K.length ≤ 2000000000) (he : XRd w w.heap.size e) : Ret Try.prog 70 #[(ptr l 0), (.agg #[(.int .i64 e.op), (.int .i64 e.vk), (.int .i64 e.vi), (.string (bs e.vt)), (.string (bs e.tb)), (.string (bs e.nm)), e.av]), (.int .i64 kd)] w (fun v' w' => Below w.heap.size w w' ∧ v' = .int .i64 (mustX C K e kd)) := by
 have hb := Below.refl w.heap.size w
 refine enter (N := 23) Try.func70 rfl rfl (by simp) fun a0 hN hd hA => ?_
 have s0 : a0.tmps.getD 0 undef = (ptr l 0) := hA 0 (by simp)
 have s1 : a0.tmps.getD 1 undef = (.agg #[(.int .i64 e.op), (.int .i64 e.vk), (.int .i64 e.vi), (.string (bs e.vt)), (.string (bs e.tb)), (.string (bs e.nm)), e.av]) := hA 1 (by simp)
 have s2 : a0.tmps.getD 2 undef = (.int .i64 kd) := hA 2 (by simp)
 clear hA
 refine zF fun K11 hK11 => ?_
 refine zH ?_
 refine op_box (cs := [(.int .i64 e.op), (.int .i64 e.vk), (.int .i64 e.vi), (.string (bs e.vt)), (.string (bs e.tb)), (.string (bs e.nm)), e.av]) (zC hN rfl s1) rfl ?_
 intro w12 b13 lo_b13 hi_b13 hB15 E14
 have := E14.size
 have h := h.keepG (zi E14 NoB) (fun _ _ h => h)
 have he := he.keep0 E14
 have hb := zP hb E14 hb.size
 refine zD rfl ?_
 refine zB ?_
 refine hK11 _ _ (zF fun K17 hK17 => ?_)
 refine zH ?_
 refine zG (zC hN rfl s0) ?_
 refine zY agg28 rfl (zA hN rfl) hB15 ?_
 refine zj ok99 (lkKind e zx h hCl hKl (he.mono zx)) ⟨(zA hN rfl), ⟨(zA hN rfl), trivial⟩⟩ ?_
 rintro _ w18 ⟨E19, rfl⟩
 have E19 := zQ E19
 have := E19.size
 have hb := zP hb E19 hb.size
 refine zG (zA hN rfl) ?_
 refine zW (zA hN rfl) rfl ?_
 refine zW (zA hN rfl) rfl ?_
 refine zD (zA hN rfl) ?_
 refine zD (zA hN rfl) ?_
 refine zB ?_
 refine hK17 _ _ (zF fun K20 hK20 => ?_)
 refine wp_block ?_
 refine zF fun K21 hK21 => ?_
 refine zH ?_
 refine zG (zA hN rfl) ?_
 refine op_neq (zA hN rfl) rfl (fun c17 => ?_) (fun c17 => ?_)
 ·
  refine zD (zA hN rfl) ?_
  refine zB ?_
  refine hK21 _ _ (wp_cond_true (zA hN rfl) (zF fun K22 hK22 => ?_))
  refine zH ?_
  refine zG (zA hN rfl) ?_
  refine zD (zA hN rfl) ?_
  refine zB ?_
  refine hK22 _ _ (wp_ret (zb (zO ( ?_))))
  refine ret1 rfl hd (zA hN rfl) ⟨_, rfl, ?_⟩
  have e9 : mustX C K e kd = (kindX C K e).2 := by unfold mustX; rw [if_pos c17]
  rw [e9]; exact ⟨hb, rfl⟩
 refine zD (zA hN rfl) ?_
 refine zB ?_
 refine hK21 _ _ (wp_cond_false (zA hN rfl) (zF fun K23 hK23 => ?_))
 refine zH ?_
 refine zG (zA hN rfl) ?_
 refine zG (zC hN rfl s2) ?_
 refine op_neq (zA hN rfl) (zA hN rfl) (fun c22 => ?_) (fun c22 => ?_)
 ·
  refine zD (zA hN rfl) ?_
  refine zB ?_
  refine hK23 _ _ (wp_cond_true (zA hN rfl) (zF fun K24 hK24 => ?_))
  refine zH ?_
  refine zD rfl ?_
  refine zB ?_
  refine hK24 _ _ (wp_ret (zb (zO ( ?_))))
  refine ret1 rfl hd (zA hN rfl) ⟨_, rfl, ?_⟩
  have e9 : mustX C K e kd = 11 := by unfold mustX; rw [if_neg (fun g => g c17), if_pos c22]
  rw [e9]; exact ⟨hb, rfl⟩
 refine zD (zA hN rfl) ?_
 refine zB ?_
 refine hK23 _ _ (wp_cond_false (zA hN rfl) (wp_skip (hK20 _ _ (zF fun K25 hK25 => ?_))))
 refine zH ?_
 refine zD rfl ?_
 refine zB ?_
 refine hK25 _ _ (wp_ret ?_)
 refine ret1 rfl hd (zA hN rfl) ⟨_, rfl, ?_⟩
 have e9 : mustX C K e kd = 0 := by unfold mustX; rw [if_neg (fun g => g c17), if_neg (fun g => g c22)]
 rw [e9]; exact ⟨hb, rfl⟩

theorem lkWh1 {tv vv : Value} {C : List PItm} {K : List Int} {l B : Nat} {F : Nat → Prop} (e : XE) {lb : Nat} {w : World} (hB : B ≤ w.heap.size) (h : LookR w B l tv vv C K F) (hCl : C.length ≤ 2000000000) (hKl : K.length ≤ 2000000000) (he : XRd w w.heap.size e) (hlb : Bx w lb 90 [ptr l 0]) : Ret Try.prog 76 #[(.agg #[(.int .i64 e.op), (.int .i64 e.vk), (.int .i64 e.vi), (.string (bs e.vt)), (.string (bs e.tb)), (.string (bs e.nm)), e.av]), (ptr lb 0)] w (fun v' w' => Below w.heap.size w w' ∧ v' = .int .i64 (mustX C K e 3)) := by
 have hb := Below.refl w.heap.size w
 refine enter (N := 7) Try.func76 rfl rfl (by simp) fun a0 hN hd hA => ?_
 have s0 : a0.tmps.getD 0 undef = (.agg #[(.int .i64 e.op), (.int .i64 e.vk), (.int .i64 e.vi), (.string (bs e.vt)), (.string (bs e.tb)), (.string (bs e.nm)), e.av]) := hA 0 (by simp)
 have s1 : a0.tmps.getD 1 undef = (ptr lb 0) := hA 1 (by simp)
 clear hA
 refine zF fun K26 hK26 => ?_
 refine zH ?_
 refine op_box (cs := [(.int .i64 e.op), (.int .i64 e.vk), (.int .i64 e.vi), (.string (bs e.vt)), (.string (bs e.tb)), (.string (bs e.nm)), e.av]) (zC hN rfl s0) rfl ?_
 intro w27 b28 lo_b28 hi_b28 hB30 E29
 have := E29.size
 have h := h.keepG (zi E29 NoB) (fun _ _ h => h)
 have he := he.keep0 E29
 have hlb := hlb.keep0 E29
 have hb := zP hb E29 hb.size
 refine zD rfl ?_
 refine zB ?_
 refine hK26 _ _ (zF fun K32 hK32 => ?_)
 refine zH ?_
 refine zN (v := (ptr l 0)) one90 (zC hN rfl s1) (hlb.cell rfl) ?_
 refine zY agg28 rfl (zA hN rfl) hB30 ?_
 refine zj ok70 (lkMust e 3 zx h hCl hKl (he.mono zx)) ⟨(zA hN rfl), ⟨(zA hN rfl), ⟨rfl, trivial⟩⟩⟩ ?_
 rintro _ w33 ⟨E34, rfl⟩
 have E34 := zQ E34
 have := E34.size
 have hlb := hlb.keep0 E34
 have hb := zP hb E34 hb.size
 refine zD (zA hN rfl) ?_
 refine zB ?_
 refine hK32 _ _ (wp_ret ?_)
 refine ret1 rfl hd (zA hN rfl) ⟨_, rfl, ?_⟩
 exact ⟨hb, rfl⟩

theorem lkWhere {tv vv : Value} {C : List PItm} {K : List Int} {l B : Nat} {F : Nat → Prop} {v : Value} {E : List XE} {w : World} (hB : B ≤ w.heap.size) (h : LookR w B l tv vv C K F) (hCl : C.length ≤ 2000000000) (hKl : K.length ≤ 2000000000) (hX : XsRd w w.heap.size v E) : Ret Try.prog 46 #[(ptr l 0), v] w (fun v' w' => Below w.heap.size w w' ∧ v' = .int .i64 (whereX C K E)) := by
 have hR := hX.1
 have hltl := fun k hk => (h.lt k hk).2
 have hb := Below.refl w.heap.size w
 refine enter (N := 8) Try.func46 rfl rfl (by simp) fun a0 hN hd hA => ?_
 have s0 : a0.tmps.getD 0 undef = (ptr l 0) := hA 0 (by simp)
 have s1 : a0.tmps.getD 1 undef = v := hA 1 (by simp)
 clear hA
 refine zF fun K35 hK35 => ?_
 refine zH ?_
 refine op_box (cs := [(ptr l 0)]) (zC hN rfl s0) rfl ?_
 intro w36 b37 lo_b37 hi_b37 hB39 E38
 have := E38.size
 have h := h.keepG (zi E38 NoB) (fun _ _ h => h)
 have hX := hX.keep0 E38
 have hb := zP hb E38 hb.size
 refine zD rfl ?_
 refine zB ?_
 refine hK35 _ _ (zF fun K41 hK41 => ?_)
 refine zH ?_
 refine zG (zC hN rfl s1) ?_
 refine op_mkfn (cv := [(ptr b37 0)]) ⟨(zA hN rfl), trivial⟩ ?_
 refine zj ok31 (FoldX (g := 76) (fs := []) (cs := [(ptr b37 0)]) (R := (fun e => mustX C K e 3)) (hX.mono zx) ok76 (fun i hi w1 E9 => lkWh1 (E.getD i default) (by have := E9.size; omega) (h.keepG (zi (zQ E9) NoB) (fun _ _ h => h)) hCl hKl (((hX.2 _ (getD_mem hi)).keep0 (zQ E9)).mono (by have := E9.size; omega)) (hB39.keep0 (zQ E9)))) ⟨(zA hN rfl), ⟨(zA hN rfl), trivial⟩⟩ ?_
 rintro _ w42 ⟨E43, rfl⟩
 have E43 := zQ E43
 have := E43.size
 have hb := zP hb E43 hb.size
 refine zD (zA hN rfl) ?_
 refine zB ?_
 refine hK41 _ _ (wp_ret ?_)
 refine ret1 rfl hd (zA hN rfl) ⟨_, rfl, ?_⟩
 exact ⟨hb, rfl⟩

theorem lkSel1 {tv vv : Value} {C : List PItm} {K : List Int} {l B : Nat} {F : Nat → Prop} (e : XE) {lb : Nat} {w : World} (hB : B ≤ w.heap.size) (h : LookR w B l tv vv C K F) (hCl : C.length ≤ 2000000000) (hKl : K.length ≤ 2000000000) (he : XRd w w.heap.size e) (hlb : Bx w lb 90 [ptr l 0]) : Ret Try.prog 75 #[(.agg #[(.int .i64 e.op), (.int .i64 e.vk), (.int .i64 e.vi), (.string (bs e.vt)), (.string (bs e.tb)), (.string (bs e.nm)), e.av]), (ptr lb 0)] w (fun v' w' => Below w.heap.size w w' ∧ v' = .int .i64 (colAt C K e.tb e.nm).2) := by
 obtain ⟨cv, kv, h0, hx, O, P, hF⟩ := h
 have hi_l := hx.lt
 have hb := Below.refl w.heap.size w
 refine enter (N := 23) Try.func75 rfl rfl (by simp) fun a0 hN hd hA => ?_
 have s0 : a0.tmps.getD 0 undef = (.agg #[(.int .i64 e.op), (.int .i64 e.vk), (.int .i64 e.vi), (.string (bs e.vt)), (.string (bs e.tb)), (.string (bs e.nm)), e.av]) := hA 0 (by simp)
 have s1 : a0.tmps.getD 1 undef = (ptr lb 0) := hA 1 (by simp)
 clear hA
 refine zF fun K44 hK44 => ?_
 refine zH ?_
 refine op_box (cs := [(.int .i64 e.op), (.int .i64 e.vk), (.int .i64 e.vi), (.string (bs e.vt)), (.string (bs e.tb)), (.string (bs e.nm)), e.av]) (zC hN rfl s0) rfl ?_
 intro w45 b46 lo_b46 hi_b46 hB48 E47
 have := E47.size
 have hx := hx.keep0 E47
 have O := O.keep0 E47
 have P := P.keep0 E47
 have hlb := hlb.keep0 E47
 have hb := zP hb E47 hb.size
 refine zD rfl ?_
 refine zB ?_
 refine hK44 _ _ (zF fun K49 hK49 => ?_)
 refine reg_from mixed ?_
 intro w51 E50
 have := E50.size
 have hx := hx.keep0 E50
 have O := O.keep0 E50
 have P := P.keep0 E50
 have hlb := hlb.keep0 E50
 have hB48 := hB48.keep0 E50
 have hb := zP hb E50 hb.size
 refine from_still (m := 12) 12 (hd := [_, _, _, _, _, _, _, _, _, _, _, _]) zy rfl rfl ?_
 refine st_step rfl (fun _ h9 => zN (v := (ptr l 0)) one90 (zC hN rfl s1) (hlb.cell rfl) h9) ?_
 refine st_step rfl (fun _ h9 => op_nil (zA hN rfl) h9) ?_
 refine st_step rfl (fun _ h9 => zM fld92_1 (zA hN rfl) h9) ?_
 refine st_step rfl (fun _ h9 => zN (v := cv) one22 (zA hN rfl) (hx.cell rfl) h9) ?_
 refine st_step rfl (fun _ h9 => zN (v := (ptr l 0)) one90 (zC hN rfl s1) (hlb.cell rfl) h9) ?_
 refine st_step rfl (fun _ h9 => op_nil (zA hN rfl) h9) ?_
 refine st_step rfl (fun _ h9 => zM fld92_2 (zA hN rfl) h9) ?_
 refine st_step rfl (fun _ h9 => zN (v := kv) one23 (zA hN rfl) (hx.cell rfl) h9) ?_
 refine st_step rfl (fun _ h9 => zM fld28_2 (zA hN rfl) h9) ?_
 refine st_step rfl (fun _ h9 => zN (v := (Value.string (bs e.tb))) one9 (zA hN rfl) (hB48.cell rfl) h9) ?_
 refine st_step rfl (fun _ h9 => zM fld28_3 (zA hN rfl) h9) ?_
 refine st_step rfl (fun _ h9 => zN (v := (Value.string (bs e.nm))) one9 (zA hN rfl) (hB48.cell rfl) h9) ?_
 refine st_nil ?_
 refine from_one (k' := 13) zy rfl rfl ?_
 refine zj ok66 (column_ret C K _ _ e.tb e.nm _ (by first | assumption | omega | (simp only [List.length_append, List.length_cons, List.length_nil, List.length_drop, List.length_take]; omega) | (dsimp only; omega) | decide | (simp [keyV, be8_len]; done)) (by first | assumption | omega | (simp only [List.length_append, List.length_cons, List.length_nil, List.length_drop, List.length_take]; omega) | (dsimp only; omega) | decide | (simp [keyV, be8_len]; done)) (O.rdw.mono (Nat.zero_le _) zx) (P.rdw.mono (Nat.zero_le _) zx)) ⟨(zA hN rfl), ⟨(zA hN rfl), ⟨(zA hN rfl), ⟨(zA hN rfl), trivial⟩⟩⟩⟩ ?_
 rintro _ w52 ⟨E53, rfl⟩
 have E53 := zQ E53
 have := E53.size
 have hlb := hlb.keep0 E53
 have hb := zP hb E53 hb.size
 refine from_next ?_
 refine from_still (m := 18) 5 (hd := [_, _, _, _, _]) zy rfl rfl ?_
 refine st_step rfl (fun _ h9 => zG (zA hN rfl) h9) ?_
 refine st_step rfl (fun _ h9 => zW (zA hN rfl) rfl h9) ?_
 refine st_step rfl (fun _ h9 => zW (zA hN rfl) rfl h9) ?_
 refine st_step rfl (fun _ h9 => zD (zA hN rfl) h9) ?_
 refine st_step rfl (fun _ h9 => zD (zA hN rfl) h9) ?_
 refine st_nil ?_
 refine from_end ?_ rfl
 refine hK49 _ _ (zF fun K54 hK54 => ?_)
 refine zH ?_
 refine zG (zA hN rfl) ?_
 refine zD (zA hN rfl) ?_
 refine zB ?_
 refine hK54 _ _ (wp_ret ?_)
 refine ret1 rfl hd (zA hN rfl) ⟨_, rfl, ?_⟩
 exact ⟨hb, rfl⟩

theorem lkItem {tv vv : Value} {C : List PItm} {K : List Int} {l B : Nat} {F : Nat → Prop} (x : PItm) {w : World} (hB : B ≤ w.heap.size) (h : LookR w B l tv vv C K F) (hCl : C.length ≤ 2000000000) (hKl : K.length ≤ 2000000000) : Ret Try.prog 73 #[(ptr l 0), (.agg #[(.int .i64 x.agg), (.string (bs x.tb)), (.string (bs x.nm))])] w (fun v' w' => Below w.heap.size w w' ∧ v' = .int .i64 (itemE C K x)) := by
 obtain ⟨cv, kv, h0, hx, O, P, hF⟩ := h
 have hi_l := hx.lt
 have hb := Below.refl w.heap.size w
 refine enter (N := 54) Try.func73 rfl rfl (by simp) fun a0 hN hd hA => ?_
 have s0 : a0.tmps.getD 0 undef = (ptr l 0) := hA 0 (by simp)
 have s1 : a0.tmps.getD 1 undef = (.agg #[(.int .i64 x.agg), (.string (bs x.tb)), (.string (bs x.nm))]) := hA 1 (by simp)
 clear hA
 refine zF fun K55 hK55 => ?_
 refine zH ?_
 refine op_box (cs := [(.int .i64 x.agg), (.string (bs x.tb)), (.string (bs x.nm))]) (zC hN rfl s1) rfl ?_
 intro w56 b57 lo_b57 hi_b57 hB59 E58
 have := E58.size
 have hx := hx.keep0 E58
 have O := O.keep0 E58
 have P := P.keep0 E58
 have hb := zP hb E58 hb.size
 refine zD rfl ?_
 refine zB ?_
 refine hK55 _ _ (zF fun K60 hK60 => ?_)
 refine reg_from mixed ?_
 intro w62 E61
 have := E61.size
 have hx := hx.keep0 E61
 have O := O.keep0 E61
 have P := P.keep0 E61
 have hB59 := hB59.keep0 E61
 have hb := zP hb E61 hb.size
 refine from_still (m := 12) 12 (hd := [_, _, _, _, _, _, _, _, _, _, _, _]) zy rfl rfl ?_
 refine st_step rfl (fun _ h9 => zG (zC hN rfl s0) h9) ?_
 refine st_step rfl (fun _ h9 => op_nil (zA hN rfl) h9) ?_
 refine st_step rfl (fun _ h9 => zM fld92_1 (zA hN rfl) h9) ?_
 refine st_step rfl (fun _ h9 => zN (v := cv) one22 (zA hN rfl) (hx.cell rfl) h9) ?_
 refine st_step rfl (fun _ h9 => zG (zC hN rfl s0) h9) ?_
 refine st_step rfl (fun _ h9 => op_nil (zA hN rfl) h9) ?_
 refine st_step rfl (fun _ h9 => zM fld92_2 (zA hN rfl) h9) ?_
 refine st_step rfl (fun _ h9 => zN (v := kv) one23 (zA hN rfl) (hx.cell rfl) h9) ?_
 refine st_step rfl (fun _ h9 => zM fld63_1 (zA hN rfl) h9) ?_
 refine st_step rfl (fun _ h9 => zN (v := (Value.string (bs x.tb))) one9 (zA hN rfl) (hB59.cell rfl) h9) ?_
 refine st_step rfl (fun _ h9 => zM fld63_2 (zA hN rfl) h9) ?_
 refine st_step rfl (fun _ h9 => zN (v := (Value.string (bs x.nm))) one9 (zA hN rfl) (hB59.cell rfl) h9) ?_
 refine st_nil ?_
 refine from_one (k' := 13) zy rfl rfl ?_
 refine zj ok66 (column_ret C K _ _ x.tb x.nm _ (by first | assumption | omega | (simp only [List.length_append, List.length_cons, List.length_nil, List.length_drop, List.length_take]; omega) | (dsimp only; omega) | decide | (simp [keyV, be8_len]; done)) (by first | assumption | omega | (simp only [List.length_append, List.length_cons, List.length_nil, List.length_drop, List.length_take]; omega) | (dsimp only; omega) | decide | (simp [keyV, be8_len]; done)) (O.rdw.mono (Nat.zero_le _) zx) (P.rdw.mono (Nat.zero_le _) zx)) ⟨(zA hN rfl), ⟨(zA hN rfl), ⟨(zA hN rfl), ⟨(zA hN rfl), trivial⟩⟩⟩⟩ ?_
 rintro _ w63 ⟨E64, rfl⟩
 have E64 := zQ E64
 have := E64.size
 have hB59 := hB59.keep0 E64
 have hb := zP hb E64 hb.size
 refine from_next ?_
 refine from_still (m := 18) 5 (hd := [_, _, _, _, _]) zy rfl rfl ?_
 refine st_step rfl (fun _ h9 => zG (zA hN rfl) h9) ?_
 refine st_step rfl (fun _ h9 => zW (zA hN rfl) rfl h9) ?_
 refine st_step rfl (fun _ h9 => zW (zA hN rfl) rfl h9) ?_
 refine st_step rfl (fun _ h9 => zD (zA hN rfl) h9) ?_
 refine st_step rfl (fun _ h9 => zD (zA hN rfl) h9) ?_
 refine st_nil ?_
 refine from_end ?_ rfl
 refine hK60 _ _ (zF fun K65 hK65 => ?_)
 refine wp_block ?_
 refine zF fun K66 hK66 => ?_
 refine zF fun K67 hK67 => ?_
 refine zH ?_
 refine zM fld63_0 (zA hN rfl) ?_
 refine zN (v := (Value.int .i64 x.agg)) one3 (zA hN rfl) (hB59.cell rfl) ?_
 refine op_lss (zA hN rfl) rfl (fun c26 => ?_) (fun c26 => ?_)
 ·
  refine zD (zA hN rfl) ?_
  refine zB ?_
  refine hK67 _ _ (wp_cond_true (zA hN rfl) (wp_skip (hK66 _ _ (wp_cond_true (zA hN rfl) (zF fun K68 hK68 => ?_)))))
  refine zH ?_
  refine zD rfl ?_
  refine zB ?_
  refine hK68 _ _ (wp_ret (zb (zO ( ?_))))
  refine ret1 rfl hd (zA hN rfl) ⟨_, rfl, ?_⟩
  have e9 : itemE C K x = 1 := by unfold itemE; rw [if_pos zx]
  rw [e9]; exact ⟨hb, rfl⟩
 refine zD (zA hN rfl) ?_
 refine zB ?_
 refine hK67 _ _ (wp_cond_false (zA hN rfl) (zF fun K69 hK69 => ?_))
 refine zH ?_
 refine zM fld63_0 (zA hN rfl) ?_
 refine zN (v := (Value.int .i64 x.agg)) one3 (zA hN rfl) (hB59.cell rfl) ?_
 refine op_gtr (zA hN rfl) rfl (fun c29 => ?_) (fun c29 => ?_)
 ·
  refine zD (zA hN rfl) ?_
  refine zB ?_
  refine hK69 _ _ (wp_cond_true (zA hN rfl) (wp_skip (hK66 _ _ (wp_cond_true (zA hN rfl) (zF fun K70 hK70 => ?_)))))
  refine zH ?_
  refine zD rfl ?_
  refine zB ?_
  refine hK70 _ _ (wp_ret (zb (zO ( ?_))))
  refine ret1 rfl hd (zA hN rfl) ⟨_, rfl, ?_⟩
  have e9 : itemE C K x = 1 := by unfold itemE; rw [if_pos zx]
  rw [e9]; exact ⟨hb, rfl⟩
 refine zD (zA hN rfl) ?_
 refine zB ?_
 refine hK69 _ _ (wp_cond_false (zA hN rfl) (zH ?_))
 refine zM fld63_0 (zA hN rfl) ?_
 refine zN (v := (Value.int .i64 x.agg)) one3 (zA hN rfl) (hB59.cell rfl) ?_
 refine op_eql (zA hN rfl) rfl (fun c32 => ?_) (fun c32 => ?_)
 ·
  refine zG (zA hN rfl) ?_
  refine zS (j := 3) (dj := 33) (b := true) rfl rfl rfl (zA hN rfl) ?_
  refine zM fld63_2 (zA hN rfl) ?_
  refine zS (j := 3) (dj := 33) (b := true) rfl rfl rfl (zA hN rfl) ?_
  refine zN (v := (Value.string (bs x.nm))) one9 (zA hN rfl) (hB59.cell rfl) ?_
  refine zS (j := 3) (dj := 33) (b := true) rfl rfl rfl (zA hN rfl) ?_
  refine op_sneq (zA hN rfl) rfl (fun c36 => ?_) (fun c36 => ?_)
  ·
   refine zc (zA hN rfl) (zA hN rfl) ?_
   refine zD (zA hN rfl) ?_
   refine zB ?_
   refine hK66 _ _ (wp_cond_true (zA hN rfl) (zF fun K71 hK71 => ?_))
   refine zH ?_
   refine zD rfl ?_
   refine zB ?_
   refine hK71 _ _ (wp_ret (zb (zO ( ?_))))
   refine ret1 rfl hd (zA hN rfl) ⟨_, rfl, ?_⟩
   have e9 : itemE C K x = 1 := by unfold itemE; rw [if_pos (.inr (.inr ⟨c32, c36⟩))]
   rw [e9]; exact ⟨hb, rfl⟩
  refine zc (zA hN rfl) (zA hN rfl) ?_
  refine zD (zA hN rfl) ?_
  refine zB ?_
  refine hK66 _ _ (wp_cond_false (zA hN rfl) (zF fun K72 hK72 => ?_))
  refine zH ?_
  refine zM fld63_0 (zA hN rfl) ?_
  refine zN (v := (Value.int .i64 x.agg)) one3 (zA hN rfl) (hB59.cell rfl) ?_
  refine op_eql (zA hN rfl) rfl (fun c41 => ?_) (fun c41 => ?_)
  ·
   refine zD (zA hN rfl) ?_
   refine zB ?_
   refine hK72 _ _ (wp_cond_true (zA hN rfl) (zF fun K73 hK73 => ?_))
   refine zH ?_
   refine zD rfl ?_
   refine zB ?_
   refine hK73 _ _ (wp_ret (zb (zO ( ?_))))
   refine ret1 rfl hd (zA hN rfl) ⟨_, rfl, ?_⟩
   have e9 : itemE C K x = 0 := by unfold itemE; rw [if_neg (fun g => g.elim (fun g => by omega) fun g => g.elim (fun g => by omega) fun g => g.2 c36)]; rw [if_pos c41]
   rw [e9]; exact ⟨hb, rfl⟩
  refine zD (zA hN rfl) ?_
  refine zB ?_
  refine hK72 _ _ (wp_cond_false (zA hN rfl) (zF fun K74 hK74 => ?_))
  refine zH ?_
  refine zG (zA hN rfl) ?_
  refine op_neq (zA hN rfl) rfl (fun c44 => ?_) (fun c44 => ?_)
  ·
   refine zD (zA hN rfl) ?_
   refine zB ?_
   refine hK74 _ _ (wp_cond_true (zA hN rfl) (zF fun K75 hK75 => ?_))
   refine zH ?_
   refine zG (zA hN rfl) ?_
   refine zD (zA hN rfl) ?_
   refine zB ?_
   refine hK75 _ _ (wp_ret (zb (zO ( ?_))))
   refine ret1 rfl hd (zA hN rfl) ⟨_, rfl, ?_⟩
   have e9 : itemE C K x = (colAt C K x.tb x.nm).2 := by unfold itemE; rw [if_neg (fun g => g.elim (fun g => by omega) fun g => g.elim (fun g => by omega) fun g => g.2 c36)]; rw [if_neg c41, if_pos c44]
   rw [e9]; exact ⟨hb, rfl⟩
  refine zD (zA hN rfl) ?_
  refine zB ?_
  refine hK74 _ _ (wp_cond_false (zA hN rfl) (zF fun K76 hK76 => ?_))
  refine zH ?_
  refine zM fld63_0 (zA hN rfl) ?_
  refine zN (v := (Value.int .i64 x.agg)) one3 (zA hN rfl) (hB59.cell rfl) ?_
  refine op_eql (zA hN rfl) rfl (fun c49 => ?_) (fun c49 => ?_)
  ·
   refine zG (zA hN rfl) ?_
   refine zS (j := 3) (dj := 50) (b := true) rfl rfl rfl (zA hN rfl) ?_
   refine zG (zA hN rfl) ?_
   refine zS (j := 3) (dj := 50) (b := true) rfl rfl rfl (zA hN rfl) ?_
   refine op_eql (zA hN rfl) rfl (fun c52 => ?_) (fun c52 => ?_)
   ·
    refine zc (zA hN rfl) (zA hN rfl) ?_
    refine zD (zA hN rfl) ?_
    refine zB ?_
    refine hK76 _ _ (wp_cond_true (zA hN rfl) (zF fun K77 hK77 => ?_))
    refine zH ?_
    refine zD rfl ?_
    refine zB ?_
    refine hK77 _ _ (wp_ret (zb (zO ( ?_))))
    refine ret1 rfl hd (zA hN rfl) ⟨_, rfl, ?_⟩
    have e9 : itemE C K x = 11 := by unfold itemE; rw [if_neg (fun g => g.elim (fun g => by omega) fun g => g.elim (fun g => by omega) fun g => g.2 c36)]; rw [if_neg c41, if_neg (fun g => g c44), if_pos ⟨c49, c52⟩]
    rw [e9]; exact ⟨hb, rfl⟩
   refine zc (zA hN rfl) (zA hN rfl) ?_
   refine zD (zA hN rfl) ?_
   refine zB ?_
   refine hK76 _ _ (wp_cond_false (zA hN rfl) (wp_skip (hK65 _ _ (zF fun K78 hK78 => ?_))))
   refine zH ?_
   refine zD rfl ?_
   refine zB ?_
   refine hK78 _ _ (wp_ret ?_)
   refine ret1 rfl hd (zA hN rfl) ⟨_, rfl, ?_⟩
   have e9 : itemE C K x = 0 := by unfold itemE; rw [if_neg (fun g => g.elim (fun g => by omega) fun g => g.elim (fun g => by omega) fun g => g.2 c36)]; rw [if_neg c41, if_neg (fun g => g c44), if_neg (fun g => c52 g.2)]
   rw [e9]; exact ⟨hb, rfl⟩
  refine zG (zA hN rfl) ?_
  refine zR (j := 3) (dj := 50) (b := true) rfl rfl rfl (zA hN rfl) rfl rfl ?_
  refine zR (j := 3) (dj := 50) (b := true) rfl rfl rfl (zA hN rfl) rfl rfl ?_
  refine zd (zA hN rfl) rfl ?_
  refine zD (zA hN rfl) ?_
  refine zB ?_
  refine hK76 _ _ (wp_cond_false (zA hN rfl) (wp_skip (hK65 _ _ (zF fun K79 hK79 => ?_))))
  refine zH ?_
  refine zD rfl ?_
  refine zB ?_
  refine hK79 _ _ (wp_ret ?_)
  refine ret1 rfl hd (zA hN rfl) ⟨_, rfl, ?_⟩
  have e9 : itemE C K x = 0 := by unfold itemE; rw [if_neg (fun g => g.elim (fun g => by omega) fun g => g.elim (fun g => by omega) fun g => g.2 c36)]; rw [if_neg c41, if_neg (fun g => g c44), if_neg (fun g => c49 g.1)]
  rw [e9]; exact ⟨hb, rfl⟩
 refine zG (zA hN rfl) ?_
 refine zR (j := 3) (dj := 33) (b := true) rfl rfl rfl (zA hN rfl) rfl rfl ?_
 refine zR (j := 3) (dj := 33) (b := true) rfl rfl rfl (zA hN rfl) rfl rfl ?_
 refine zR (j := 3) (dj := 33) (b := true) rfl rfl rfl (zA hN rfl) rfl rfl ?_
 refine zd (zA hN rfl) rfl ?_
 refine zD (zA hN rfl) ?_
 refine zB ?_
 refine hK66 _ _ (wp_cond_false (zA hN rfl) (zF fun K80 hK80 => ?_))
 refine zH ?_
 refine zM fld63_0 (zA hN rfl) ?_
 refine zN (v := (Value.int .i64 x.agg)) one3 (zA hN rfl) (hB59.cell rfl) ?_
 refine op_eql (zA hN rfl) rfl (fun c41 => ?_) (fun c41 => ?_)
 ·
  refine zD (zA hN rfl) ?_
  refine zB ?_
  refine hK80 _ _ (wp_cond_true (zA hN rfl) (zF fun K81 hK81 => ?_))
  refine zH ?_
  refine zD rfl ?_
  refine zB ?_
  refine hK81 _ _ (wp_ret (zb (zO ( ?_))))
  refine ret1 rfl hd (zA hN rfl) ⟨_, rfl, ?_⟩
  have e9 : itemE C K x = 0 := by unfold itemE; rw [if_neg (fun g => g.elim (fun g => by omega) fun g => g.elim (fun g => by omega) fun g => c32 g.1)]; rw [if_pos c41]
  rw [e9]; exact ⟨hb, rfl⟩
 refine zD (zA hN rfl) ?_
 refine zB ?_
 refine hK80 _ _ (wp_cond_false (zA hN rfl) (zF fun K82 hK82 => ?_))
 refine zH ?_
 refine zG (zA hN rfl) ?_
 refine op_neq (zA hN rfl) rfl (fun c44 => ?_) (fun c44 => ?_)
 ·
  refine zD (zA hN rfl) ?_
  refine zB ?_
  refine hK82 _ _ (wp_cond_true (zA hN rfl) (zF fun K83 hK83 => ?_))
  refine zH ?_
  refine zG (zA hN rfl) ?_
  refine zD (zA hN rfl) ?_
  refine zB ?_
  refine hK83 _ _ (wp_ret (zb (zO ( ?_))))
  refine ret1 rfl hd (zA hN rfl) ⟨_, rfl, ?_⟩
  have e9 : itemE C K x = (colAt C K x.tb x.nm).2 := by unfold itemE; rw [if_neg (fun g => g.elim (fun g => by omega) fun g => g.elim (fun g => by omega) fun g => c32 g.1)]; rw [if_neg c41, if_pos c44]
  rw [e9]; exact ⟨hb, rfl⟩
 refine zD (zA hN rfl) ?_
 refine zB ?_
 refine hK82 _ _ (wp_cond_false (zA hN rfl) (zF fun K84 hK84 => ?_))
 refine zH ?_
 refine zM fld63_0 (zA hN rfl) ?_
 refine zN (v := (Value.int .i64 x.agg)) one3 (zA hN rfl) (hB59.cell rfl) ?_
 refine op_eql (zA hN rfl) rfl (fun c49 => ?_) (fun c49 => ?_)
 ·
  refine zG (zA hN rfl) ?_
  refine zS (j := 3) (dj := 50) (b := true) rfl rfl rfl (zA hN rfl) ?_
  refine zG (zA hN rfl) ?_
  refine zS (j := 3) (dj := 50) (b := true) rfl rfl rfl (zA hN rfl) ?_
  refine op_eql (zA hN rfl) rfl (fun c52 => ?_) (fun c52 => ?_)
  ·
   refine zc (zA hN rfl) (zA hN rfl) ?_
   refine zD (zA hN rfl) ?_
   refine zB ?_
   refine hK84 _ _ (wp_cond_true (zA hN rfl) (zF fun K85 hK85 => ?_))
   refine zH ?_
   refine zD rfl ?_
   refine zB ?_
   refine hK85 _ _ (wp_ret (zb (zO ( ?_))))
   refine ret1 rfl hd (zA hN rfl) ⟨_, rfl, ?_⟩
   have e9 : itemE C K x = 11 := by unfold itemE; rw [if_neg (fun g => g.elim (fun g => by omega) fun g => g.elim (fun g => by omega) fun g => c32 g.1)]; rw [if_neg c41, if_neg (fun g => g c44), if_pos ⟨c49, c52⟩]
   rw [e9]; exact ⟨hb, rfl⟩
  refine zc (zA hN rfl) (zA hN rfl) ?_
  refine zD (zA hN rfl) ?_
  refine zB ?_
  refine hK84 _ _ (wp_cond_false (zA hN rfl) (wp_skip (hK65 _ _ (zF fun K86 hK86 => ?_))))
  refine zH ?_
  refine zD rfl ?_
  refine zB ?_
  refine hK86 _ _ (wp_ret ?_)
  refine ret1 rfl hd (zA hN rfl) ⟨_, rfl, ?_⟩
  have e9 : itemE C K x = 0 := by unfold itemE; rw [if_neg (fun g => g.elim (fun g => by omega) fun g => g.elim (fun g => by omega) fun g => c32 g.1)]; rw [if_neg c41, if_neg (fun g => g c44), if_neg (fun g => c52 g.2)]
  rw [e9]; exact ⟨hb, rfl⟩
 refine zG (zA hN rfl) ?_
 refine zR (j := 3) (dj := 50) (b := true) rfl rfl rfl (zA hN rfl) rfl rfl ?_
 refine zR (j := 3) (dj := 50) (b := true) rfl rfl rfl (zA hN rfl) rfl rfl ?_
 refine zd (zA hN rfl) rfl ?_
 refine zD (zA hN rfl) ?_
 refine zB ?_
 refine hK84 _ _ (wp_cond_false (zA hN rfl) (wp_skip (hK65 _ _ (zF fun K87 hK87 => ?_))))
 refine zH ?_
 refine zD rfl ?_
 refine zB ?_
 refine hK87 _ _ (wp_ret ?_)
 refine ret1 rfl hd (zA hN rfl) ⟨_, rfl, ?_⟩
 have e9 : itemE C K x = 0 := by unfold itemE; rw [if_neg (fun g => g.elim (fun g => by omega) fun g => g.elim (fun g => by omega) fun g => c32 g.1)]; rw [if_neg c41, if_neg (fun g => g c44), if_neg (fun g => c49 g.1)]
 rw [e9]; exact ⟨hb, rfl⟩

theorem colsK1 (e : XE) {w : World} (he : XRd w w.heap.size e) : Ret Try.prog 98 #[(.agg #[(.int .i64 e.op), (.int .i64 e.vk), (.int .i64 e.vi), (.string (bs e.vt)), (.string (bs e.tb)), (.string (bs e.nm)), e.av])] w (fun v' w' => Below w.heap.size w w' ∧ v' = .int .i64 (if e.op = 2 ∧ e.args.length = 0 then 0 else 1)) := by
 have hR := he.list.1
 have hb := Below.refl w.heap.size w
 refine enter (N := 12) Try.func98 rfl rfl (by simp) fun a0 hN hd hA => ?_
 have s0 : a0.tmps.getD 0 undef = (.agg #[(.int .i64 e.op), (.int .i64 e.vk), (.int .i64 e.vi), (.string (bs e.vt)), (.string (bs e.tb)), (.string (bs e.nm)), e.av]) := hA 0 (by simp)
 clear hA
 refine zF fun K88 hK88 => ?_
 refine zH ?_
 refine op_box (cs := [(.int .i64 e.op), (.int .i64 e.vk), (.int .i64 e.vi), (.string (bs e.vt)), (.string (bs e.tb)), (.string (bs e.nm)), e.av]) (zC hN rfl s0) rfl ?_
 intro w89 b90 lo_b90 hi_b90 hB92 E91
 have := E91.size
 have hR := hR.keep0 E91
 have hb := zP hb E91 hb.size
 refine zD rfl ?_
 refine zB ?_
 refine hK88 _ _ (zF fun K93 hK93 => ?_)
 refine zF fun K94 hK94 => ?_
 refine zH ?_
 refine zM fld28_0 (zA hN rfl) ?_
 refine zN (v := (Value.int .i64 e.op)) one3 (zA hN rfl) (hB92.cell rfl) ?_
 refine op_neq (zA hN rfl) rfl (fun c5 => ?_) (fun c5 => ?_)
 ·
  refine zG (zA hN rfl) ?_
  refine zR (j := 3) (dj := 6) (b := false) rfl rfl rfl (zA hN rfl) rfl rfl ?_
  refine zR (j := 3) (dj := 6) (b := false) rfl rfl rfl (zA hN rfl) rfl rfl ?_
  refine zR (j := 3) (dj := 6) (b := false) rfl rfl rfl (zA hN rfl) rfl rfl ?_
  refine zR (j := 3) (dj := 6) (b := false) rfl rfl rfl (zA hN rfl) rfl rfl ?_
  refine zc (zA hN rfl) rfl ?_
  refine zB ?_
  refine hK94 _ _ (wp_cond_true (zA hN rfl) (zF fun K95 hK95 => ?_))
  refine zH ?_
  refine zD rfl ?_
  refine zB ?_
  refine hK95 _ _ (wp_ret (zO ( ?_)))
  refine ret1 rfl hd (zA hN rfl) ⟨_, rfl, ?_⟩
  rw [if_neg (fun g => c5 g.1)]; exact ⟨hb, rfl⟩
 refine zG (zA hN rfl) ?_
 refine zS (j := 3) (dj := 6) (b := false) rfl rfl rfl (zA hN rfl) ?_
 refine zM fld28_4 (zA hN rfl) ?_
 refine zS (j := 3) (dj := 6) (b := false) rfl rfl rfl (zA hN rfl) ?_
 refine zN (v := e.av) one26 (zA hN rfl) (hB92.cell rfl) ?_
 refine zS (j := 3) (dj := 6) (b := false) rfl rfl rfl (zA hN rfl) ?_
 refine op_len_rd Try.underlying26 (zA hN rfl) hR ?_
 refine zS (j := 3) (dj := 6) (b := false) rfl rfl rfl (zA hN rfl) ?_
 refine op_gtr (zA hN rfl) rfl (fun c10 => ?_) (fun c10 => ?_)
 ·
  refine zd (zA hN rfl) (zA hN rfl) ?_
  refine zB ?_
  refine hK94 _ _ (wp_cond_true (zA hN rfl) (zF fun K96 hK96 => ?_))
  refine zH ?_
  refine zD rfl ?_
  refine zB ?_
  refine hK96 _ _ (wp_ret (zO ( ?_)))
  refine ret1 rfl hd (zA hN rfl) ⟨_, rfl, ?_⟩
  rw [if_neg (fun g => by omega)]; exact ⟨hb, rfl⟩
 refine zd (zA hN rfl) (zA hN rfl) ?_
 refine zB ?_
 refine hK94 _ _ (wp_cond_false (zA hN rfl) (wp_skip (hK93 _ _ (zF fun K97 hK97 => ?_))))
 refine zH ?_
 refine zD rfl ?_
 refine zB ?_
 refine hK97 _ _ (wp_ret ?_)
 refine ret1 rfl hd (zA hN rfl) ⟨_, rfl, ?_⟩
 rw [if_pos ⟨Classical.not_not.1 (fun g => g c5), by omega⟩]; exact ⟨hb, rfl⟩

theorem cols_ret {v : Value} {E : List XE} {w : World} (hX : XsRd w w.heap.size v E) : Ret Try.prog 68 #[v] w (fun v' w' => Below w.heap.size w w' ∧ v' = .bool (colsOk E)) := by
 have hR := hX.1
 have hb := Below.refl w.heap.size w
 refine enter (N := 6) Try.func68 rfl rfl (by simp) fun a0 hN hd hA => ?_
 have s0 : a0.tmps.getD 0 undef = v := hA 0 (by simp)
 clear hA
 refine zF fun K98 hK98 => ?_
 refine zH ?_
 refine zD rfl ?_
 refine zB ?_
 refine hK98 _ _ (zF fun K99 hK99 => ?_)
 refine zH ?_
 refine zG (zC hN rfl s0) ?_
 refine zj ok31 (FoldX (g := 98) (fs := []) (cs := []) (R := (fun e : XE => if e.op = 2 ∧ e.args.length = 0 then (0 : Int) else 1)) (hX.mono zx) ok98 (fun i hi w1 E9 => colsK1 (E.getD i default) (((hX.2 _ (getD_mem hi)).keep0 (zQ E9)).mono (by have := E9.size; omega)))) ⟨(zA hN rfl), ⟨rfl, trivial⟩⟩ ?_
 rintro _ w100 ⟨E101, rfl⟩
 have E101 := zQ E101
 have := E101.size
 have hb := zP hb E101 hb.size
 refine op_eql (zA hN rfl) rfl (fun c5 => ?_) (fun c5 => ?_)
 ·
  refine zD (zA hN rfl) ?_
  refine zB ?_
  refine hK99 _ _ (wp_ret ?_)
  refine ret1 rfl hd (zA hN rfl) ⟨_, rfl, ?_⟩
  exact ⟨hb, congrArg Value.bool (cols_t c5).symm⟩
 refine zD (zA hN rfl) ?_
 refine zB ?_
 refine hK99 _ _ (wp_ret ?_)
 refine ret1 rfl hd (zA hN rfl) ⟨_, rfl, ?_⟩
 exact ⟨hb, congrArg Value.bool (cols_f c5).symm⟩

theorem aggs_ret {l : List PItm} {v : Value} {w : World} (hl : RdC w 0 w.heap.size 3 v l.length (l.flatMap cellsI)) : Ret Try.prog 74 #[v] w (fun v' w' => Below w.heap.size w w' ∧ v' = .int .i64 ((aggsN l : Nat) : Int)) := by
 have hlm := rd_len hl
 have hb := Below.refl w.heap.size w
 refine enter (N := 19) Try.func74 rfl rfl (by simp) fun a0 hN hd hA => ?_
 have s0 : a0.tmps.getD 0 undef = v := hA 0 (by simp)
 clear hA
 refine zF fun K102 hK102 => ?_
 refine zH ?_
 refine zD rfl ?_
 refine zB ?_
 refine hK102 _ _ (zF fun K103 hK103 => ?_)
 refine zH ?_
 refine zD rfl ?_
 refine zB ?_
 refine hK103 _ _ (zF fun K104 hK104 => ?_)
 refine zF fun K105 hK105 => ?_
 refine zH ?_
 refine zG (zC hN rfl s0) ?_
 refine op_len_rd Try.underlying22 (zA hN rfl) hl ?_
 refine zG rfl ?_
 refine zB ?_
 refine hK105 _ _ (wp_block ?_)
 refine loop_m (fun mz_ az_ w' => ∃ (i : Nat), mz_ = l.length - i ∧ (az_.tmps.getD 2 undef = (.int .i64 0)) ∧ (az_.tmps.getD 6 undef = v) ∧ (az_.tmps.getD 7 undef = (.int .i64 ((l.length : Nat) : Int))) ∧ (az_.tmps.getD 8 undef = (.int .i64 ((i : Nat) : Int))) ∧ (az_.tmps.getD 3 undef = (.int .i64 ((aggsN (l.take i) : Nat) : Int))) ∧ (i ≤ l.length) ∧ (Below w.heap.size w w') ∧ (w.heap.size ≤ w'.heap.size) ∧ (RdC w' 0 w.heap.size 3 v l.length (l.flatMap cellsI))) _ hN hd ⟨0, rfl, (zU hN rfl), (zU hN rfl), (zU hN rfl), (zU hN rfl), (zU hN rfl).trans rfl, (Nat.zero_le _), hb, (Nat.le_refl _), hl⟩ ?_
 rintro _ a106 w106 hN106 hd106 ⟨i, rfl, s106_2, s106_6, s106_7, s106_8, s106_3, hi, hb, zl_w106, hl⟩
 have := hb.size
 refine zF fun K107 hK107 => ?_
 refine zH ?_
 refine op_lss (zC hN106 rfl s106_8) (zC hN106 rfl s106_7) (fun c9 => ?_) (fun c9 => ?_)
 ·
  refine zB ?_
  refine hK107 _ _ (zF fun K108 hK108 => ?_)
  refine wp_cond_true (zA hN106 rfl) (wp_skip (hK108 _ _ (zF fun K109 hK109 => ?_)))
  refine wp_block ?_
  refine zF fun K110 hK110 => ?_
  refine zH ?_
  refine zh slt22 (zC hN106 rfl s106_6) hl (zC hN106 rfl s106_8) zx zx ?_
  intro b111 o112 h0b111 h1b111 hc113
  refine zX (cs := [(.int .i64 (l.getD i default).agg), (.string (bs (l.getD i default).tb)), (.string (bs (l.getD i default).nm))]) agg63 rfl (zA hN106 rfl) (fun j u hu => hc113 j u (by have := (List.getElem?_eq_some_iff.1 hu).1; simpa using this) ((el_pi (i := i) zx zx) j u hu)) ?_
  refine op_alloc (cs := [(.int .i64 0), (.string (bs [])), (.string (bs []))]) zero63 rfl ?_
  intro w114 b115 lo_b115 hi_b115 hB117 E116
  have := E116.size
  have hl := hl.keep0 E116
  have hb := zP hb E116 hb.size
  refine zZ size63 (zA hN106 rfl) (zA hN106 rfl) rfl rfl hB117 rfl ?_
  intro w120 hB117 E121
  have := E121.size
  have hl := hl.keep E121 sR
  have hb := below_step1 hb E121 hb.size zx
  refine zB ?_
  refine hK110 _ _ (zF fun K122 hK122 => ?_)
  refine zH ?_
  refine zM fld63_0 (zA hN106 rfl) ?_
  refine zN (v := (Value.int .i64 (l.getD i default).agg)) one3 (zA hN106 rfl) (hB117.cell rfl) ?_
  refine op_neq (zA hN106 rfl) rfl (fun c14 => ?_) (fun c14 => ?_)
  ·
   refine zB ?_
   refine hK122 _ _ (wp_cond_true (zA hN106 rfl) (zH ?_))
   have hag := aggs_le (l.take i)
   rw [List.length_take] at hag
   refine zG (zC hN106 rfl s106_3) ?_
   refine op_add (zA hN106 rfl) rfl (add64 zx) ?_
   refine zD (zA hN106 rfl) ?_
   refine zB ?_
   refine hK109 _ _ (zH ?_)
   refine op_add (zC hN106 rfl s106_8) rfl (add64 zx) ?_
   refine zG (zA hN106 rfl) ?_
   refine zB ?_
   -- round 9T 14T
   exact zg _ hN106 hd106 ⟨(i + 1), rfl, (zL hN106 rfl s106_2), (zL hN106 rfl s106_6), (zL hN106 rfl s106_7), (zU hN106 rfl).trans (congrArg (Value.int .i64) zx), (zU hN106 rfl).trans (congrArg (Value.int .i64) (by rw [aggs_t zx c14]; omega)), zx, hb, zx, hl⟩ zx
  refine zB ?_
  refine hK122 _ _ (wp_cond_false (zA hN106 rfl) (wp_skip (hK109 _ _ (zH ?_))))
  refine op_add (zC hN106 rfl s106_8) rfl (add64 zx) ?_
  refine zG (zA hN106 rfl) ?_
  refine zB ?_
  -- round 9T 14F
  exact zg _ hN106 hd106 ⟨(i + 1), rfl, (zL hN106 rfl s106_2), (zL hN106 rfl s106_6), (zL hN106 rfl s106_7), (zU hN106 rfl).trans (congrArg (Value.int .i64) zx), (zL hN106 rfl s106_3).trans (congrArg (Value.int .i64) (by rw [aggs_f zx c14])), zx, hb, zx, hl⟩ zx
 refine zB ?_
 refine hK107 _ _ (zF fun K123 hK123 => ?_)
 refine wp_cond_false (zA hN106 rfl) (wp_exit (then_exit (then_exit (blk_hit ?_))))
 refine hK104 _ _ (zF fun K124 hK124 => ?_)
 refine zH ?_
 refine zG (zC hN106 rfl s106_3) ?_
 refine zD (zA hN106 rfl) ?_
 refine zB ?_
 refine hK124 _ _ (wp_ret ?_)
 refine ret1 rfl hd106 (zA hN106 rfl) ⟨_, rfl, ?_⟩
 exact ⟨hb, congrArg (Value.int .i64) (by rw [List.take_of_length_le zx])⟩

theorem lkJoin {tv : Value} {D : List DTab} {C : List PItm} {K : List Int} {l B : Nat} {F : Nat → Prop} {f : StF} {nv : Value} {w : World} (hT : TsRd w B tv D) (hD : D.length ≤ 1000000) (hsz : ∀ d ∈ D, d.t.cols.length ≤ 1000000 ∧ d.t.idx.length ≤ 1000000) (hB : B ≤ w.heap.size) (h : LookR w B l tv (.slice none 0 0) C K F) (hCl : C.length ≤ 1000000) (hKl : K.length ≤ 1000000) (hfo : XsRd w B f.ov f.on) (hon : ¬ f.join = [] → f.on.length = 2) : Ret Try.prog 71 #[(ptr l 0), (.agg #[(.int .i64 f.kind), (.string (bs f.tb)), (.string (bs f.nm)), f.cv, f.gv, f.vv, f.iv, (.string (bs f.join)), f.ov, f.wv, f.rv, (.bool f.desc), nv])] w (fun v' w' => Gr w w' F ∧ v' = .int .i64 (joinE (D.map DTab.t) f C K) ∧ ∃ C' K' F', LookR w' B l tv (.slice none 0 0) C' K' F' ∧ NewF w.heap.size F F' ∧ (joinE (D.map DTab.t) f C K = 0 → C' = joinC (D.map DTab.t) f C ∧ K' = joinK (D.map DTab.t) f K)) := by
 have hR := hT.1
 have hltl := fun k hk => (h.lt k hk).2
 have hfoR := hfo.1
 have hsz9 : ∀ t ∈ D.map DTab.t, t.cols.length ≤ 1000000 ∧ t.idx.length ≤ 1000000 := fun t ht => by obtain ⟨d, hd, rfl⟩ := List.mem_map.1 ht; exact hsz d hd
 have hb := Gr.refl w F
 refine enter (N := 46) Try.func71 rfl rfl (by simp) fun a0 hN hd hA => ?_
 have s0 : a0.tmps.getD 0 undef = (ptr l 0) := hA 0 (by simp)
 have s1 : a0.tmps.getD 1 undef = (.agg #[(.int .i64 f.kind), (.string (bs f.tb)), (.string (bs f.nm)), f.cv, f.gv, f.vv, f.iv, (.string (bs f.join)), f.ov, f.wv, f.rv, (.bool f.desc), nv]) := hA 1 (by simp)
 clear hA
 refine zF fun K1 hK1 => ?_
 refine zH ?_
 refine op_box (cs := [(.int .i64 f.kind), (.string (bs f.tb)), (.string (bs f.nm)), f.cv, f.gv, f.vv, f.iv, (.string (bs f.join)), f.ov, f.wv, f.rv, (.bool f.desc), nv]) (zC hN rfl s1) rfl ?_
 intro w2 b3 lo_b3 hi_b3 hB5 E4
 have dj6 : ¬ F b3 := fun hf => by have := (h.lt _ hf).2; omega
 have := E4.size
 have hT := hT.keep0 E4
 have h := h.keepG (zi E4 NoB) (fun _ _ h => h)
 have hfo := hfo.keep0 E4
 have hfoR := hfoR.keep0 E4
 have hb := hb.step0 E4
 refine zD rfl ?_
 refine zB ?_
 refine hK1 _ _ (zF fun K7 hK7 => ?_)
 refine zF fun K8 hK8 => ?_
 refine zH ?_
 refine zM fld45_7 (zA hN rfl) ?_
 refine zN (v := (Value.string (bs f.join))) one9 (zA hN rfl) (hB5.cell rfl) ?_
 refine op_seql (zA hN rfl) rfl (fun c11 => ?_) (fun c11 => ?_)
 ·
  refine zB ?_
  refine hK8 _ _ (wp_cond_true (zA hN rfl) (zF fun K9 hK9 => ?_))
  refine zH ?_
  refine zD rfl ?_
  refine zB ?_
  refine hK9 _ _ (wp_ret (zO ( ?_)))
  refine ret1 rfl hd (zA hN rfl) ⟨_, rfl, ?_⟩
  obtain ⟨e1, e2, e3⟩ := @joinE_0 (D.map DTab.t) f C K c11
  rw [e1]; exact ⟨hb, rfl, C, K, _, h, (NewF.refl _ _), fun _ => ⟨e2.symm, e3.symm⟩⟩
 refine zB ?_
 refine hK8 _ _ (wp_cond_false (zA hN rfl) (wp_skip (hK7 _ _ (zF fun K10 hK10 => ?_))))
 refine zF fun K11 hK11 => ?_
 refine zH ?_
 refine zG (zC hN rfl s0) ?_
 refine zM fld45_7 (zA hN rfl) ?_
 refine zN (v := (Value.string (bs f.join))) one9 (zA hN rfl) (hB5.cell rfl) ?_
 rcases Bool.eq_false_or_eq_true ((tabAt (D.map DTab.t) f.join).isSome) with k16 | k16
 ·
  refine zj ok45 (lookTableT k16 (hT.mono zx) hD hsz zx h zx zx) ⟨(zA hN rfl), ⟨(zA hN rfl), trivial⟩⟩ ?_
  rintro _ w13 ⟨E14, d12, rfl, ht12, hO12, hP12, F12, hL12, hN12⟩
  have bd17 := hB5.lt
  have h_old := h
  have := E14.size
  have hfo := hfo.keepG E14 (fun k hk => .inr (by have := h_old.lt k hk; omega))
  have hfoR := hfoR.keepG E14 (fun k hk => .inr (by have := h_old.lt k hk; omega))
  have hB5 := hB5.keepG E14 dj6
  have hb := hb.stepF E14 (fun _ _ q => q)
  have hO12 := hO12.mono (base' := w.heap.size) zx
  have hP12 := hP12.mono (base' := w.heap.size) zx
  refine zG (zA hN rfl) ?_
  refine zW (zA hN rfl) rfl ?_
  refine zW (zA hN rfl) rfl ?_
  refine op_alloc (cs := [(.string (bs [])), (.slice none 0 0), (.slice none 0 0)]) zero55 rfl ?_
  intro w19 b20 lo_b20 hi_b20 hB22 E21
  have dj23 : ¬ F12 b20 := fun hf => by have := (hL12.lt _ hf).2; omega
  have := E21.size
  have hfo := hfo.keep0 E21
  have hfoR := hfoR.keep0 E21
  have hB5 := hB5.keep0 E21
  have hL12 := hL12.keepG (zi E21 NoB) (fun _ _ h => h)
  have hO12 := hO12.keep0 E21
  have hP12 := hP12.keep0 E21
  have hb := hb.step0 E21
  have hB22_old := hB22
  refine zZ size55 (zA hN rfl) (zA hN rfl) rfl (by simp only [List.all_cons, List.all_nil, Bool.true_and, Bool.and_true, hO12.one, hP12.one]; try rfl) hB22 rfl ?_
  intro w26 hB22 E27
  have := E27.size
  have hfo := hfo.keep E27 sR
  have hfoR := hfoR.keep E27 sR
  have hB5 := hB5.keep E27 (sN hB5 hB22_old)
  have hL12 := hL12.keepG (Gr.of E27) (Dj.one dj23)
  have hb := hb.step1 E27 zx
  refine zD (zA hN rfl) ?_
  refine zB ?_
  refine hK11 _ _ (zF fun K28 hK28 => ?_)
  refine zH ?_
  refine zG (zA hN rfl) ?_
  refine op_bin (v := .bool false) (zA hN rfl) rfl (by rw [binOp_neq]; rfl) (zB ?_)
  refine hK28 _ _ (wp_cond_false (zA hN rfl) (wp_skip (hK10 _ _ (zF fun K29 hK29 => ?_))))
  refine zF fun K30 hK30 => ?_
  refine zH ?_
  refine zM fld45_7 (zA hN rfl) ?_
  refine zN (v := (Value.string (bs f.join))) one9 (zA hN rfl) (hB5.cell rfl) ?_
  refine zM fld45_1 (zA hN rfl) ?_
  refine zN (v := (Value.string (bs f.tb))) one9 (zA hN rfl) (hB5.cell rfl) ?_
  refine op_seql (zA hN rfl) (zA hN rfl) (fun c26 => ?_) (fun c26 => ?_)
  ·
   refine zB ?_
   refine hK30 _ _ (wp_cond_true (zA hN rfl) (zF fun K31 hK31 => ?_))
   refine zH ?_
   refine zD rfl ?_
   refine zB ?_
   refine hK31 _ _ (wp_ret (zO ( ?_)))
   refine ret1 rfl hd (zA hN rfl) ⟨_, rfl, ?_⟩
   obtain ⟨e1, e2, e3⟩ := @joinE_s (D.map DTab.t) f C K _ c11 ht12
   rw [if_pos c26] at e1
   rw [e1]; exact ⟨hb, rfl, _, _, _, hL12, (hN12.mono zx), fun q => absurd q zz⟩
  refine zB ?_
  refine hK30 _ _ (wp_cond_false (zA hN rfl) (wp_skip (hK29 _ _ (zF fun K32 hK32 => ?_))))
  refine zH ?_
  refine zG (zC hN rfl s0) ?_
  refine zM fld45_8 (zA hN rfl) ?_
  have hon2 := hon c11
  have hdl := (hsz9 _ (tab_mem ht12)).1
  have hcl9 : (C ++ colsOf f.join d12.t.cols).length = C.length + d12.t.cols.length := by rw [List.length_append, cols_len]
  have hkl9 : (K ++ kindsOf d12.t.cols).length = K.length + d12.t.cols.length := by rw [List.length_append, kinds_len]
  refine zN (v := f.ov) one26 (zA hN rfl) (hB5.cell rfl) ?_
  refine zh slt26 (zA hN rfl) hfoR rfl zx zx ?_
  intro b33 o34 h0b33 h1b33 hc35
  refine zX (cs := [(.int .i64 (f.on.getD 0 default).op), (.int .i64 (f.on.getD 0 default).vk), (.int .i64 (f.on.getD 0 default).vi), (.string (bs (f.on.getD 0 default).vt)), (.string (bs (f.on.getD 0 default).tb)), (.string (bs (f.on.getD 0 default).nm)), (f.on.getD 0 default).av]) agg28 rfl (zA hN rfl) (fun j u hu => hc35 j u (by have := (List.getElem?_eq_some_iff.1 hu).1; simpa using this) ((el_xe (i := 0) zx zx) j u hu)) ?_
  refine zj ok99 (lkKind (f.on.getD 0 default) zx hL12 zx zx ((hfo.2 (f.on.getD 0 default) (getD_mem zx)).mono zx)) ⟨(zA hN rfl), ⟨(zA hN rfl), trivial⟩⟩ ?_
  rintro _ w36 ⟨E37, rfl⟩
  have E37 := zQ E37
  have := E37.size
  have hfo := hfo.keep0 E37
  have hfoR := hfoR.keep0 E37
  have hB5 := hB5.keep0 E37
  have hL12 := hL12.keepG (zi E37 NoB) (fun _ _ h => h)
  have hb := hb.step0 E37
  refine zG (zA hN rfl) ?_
  refine zW (zA hN rfl) rfl ?_
  refine zW (zA hN rfl) rfl ?_
  refine zD (zA hN rfl) ?_
  refine zD (zA hN rfl) ?_
  refine zB ?_
  refine hK32 _ _ (zF fun K38 hK38 => ?_)
  refine zF fun K39 hK39 => ?_
  refine zH ?_
  refine zG (zA hN rfl) ?_
  refine op_neq (zA hN rfl) rfl (fun c37 => ?_) (fun c37 => ?_)
  ·
   refine zB ?_
   refine hK39 _ _ (wp_cond_true (zA hN rfl) (zF fun K40 hK40 => ?_))
   refine zH ?_
   refine zG (zA hN rfl) ?_
   refine zD (zA hN rfl) ?_
   refine zB ?_
   refine hK40 _ _ (wp_ret (zO ( ?_)))
   refine ret1 rfl hd (zA hN rfl) ⟨_, rfl, ?_⟩
   obtain ⟨e1, e2, e3⟩ := @joinE_s (D.map DTab.t) f C K _ c11 ht12
   have e4 : onE (C ++ colsOf f.join d12.t.cols) (K ++ kindsOf d12.t.cols) f.on = (kindX (C ++ colsOf f.join d12.t.cols) (K ++ kindsOf d12.t.cols) (f.on.getD 0 default)).2 := by unfold onE; rw [if_pos c37]
   rw [if_neg c26, e4] at e1
   rw [e1]; exact ⟨hb, rfl, _, _, _, hL12, (hN12.mono zx), fun _ => ⟨e2.symm, e3.symm⟩⟩
  refine zB ?_
  refine hK39 _ _ (wp_cond_false (zA hN rfl) (wp_skip (hK38 _ _ (zF fun K41 hK41 => ?_))))
  refine zH ?_
  refine zG (zC hN rfl s0) ?_
  refine zM fld45_8 (zA hN rfl) ?_
  refine zN (v := f.ov) one26 (zA hN rfl) (hB5.cell rfl) ?_
  refine zh slt26 (zA hN rfl) hfoR rfl zx zx ?_
  intro b42 o43 h0b42 h1b42 hc44
  refine zX (cs := [(.int .i64 (f.on.getD 1 default).op), (.int .i64 (f.on.getD 1 default).vk), (.int .i64 (f.on.getD 1 default).vi), (.string (bs (f.on.getD 1 default).vt)), (.string (bs (f.on.getD 1 default).tb)), (.string (bs (f.on.getD 1 default).nm)), (f.on.getD 1 default).av]) agg28 rfl (zA hN rfl) (fun j u hu => hc44 j u (by have := (List.getElem?_eq_some_iff.1 hu).1; simpa using this) ((el_xe (i := 1) zx zx) j u hu)) ?_
  refine zG (zA hN rfl) ?_
  refine zj ok70 (lkMust (f.on.getD 1 default) ((kindX (C ++ colsOf f.join d12.t.cols) (K ++ kindsOf d12.t.cols) (f.on.getD 0 default)).1) zx hL12 zx zx ((hfo.2 (f.on.getD 1 default) (getD_mem zx)).mono zx)) ⟨(zA hN rfl), ⟨(zA hN rfl), ⟨(zA hN rfl), trivial⟩⟩⟩ ?_
  rintro _ w45 ⟨E46, rfl⟩
  have E46 := zQ E46
  have := E46.size
  have hL12 := hL12.keepG (zi E46 NoB) (fun _ _ h => h)
  have hb := hb.step0 E46
  refine zD (zA hN rfl) ?_
  refine zB ?_
  refine hK41 _ _ (wp_ret ?_)
  refine ret1 rfl hd (zA hN rfl) ⟨_, rfl, ?_⟩
  obtain ⟨e1, e2, e3⟩ := @joinE_s (D.map DTab.t) f C K _ c11 ht12
  have e4 : onE (C ++ colsOf f.join d12.t.cols) (K ++ kindsOf d12.t.cols) f.on = mustX (C ++ colsOf f.join d12.t.cols) (K ++ kindsOf d12.t.cols) (f.on.getD 1 default) (kindX (C ++ colsOf f.join d12.t.cols) (K ++ kindsOf d12.t.cols) (f.on.getD 0 default)).1 := by unfold onE; rw [if_neg (fun g => g c37)]
  rw [if_neg c26, e4] at e1
  rw [e1]; exact ⟨hb, rfl, _, _, _, hL12, (hN12.mono zx), fun _ => ⟨e2.symm, e3.symm⟩⟩
 refine zj ok45 (lookTableF k16 (hT.mono zx) hD hsz zx h zx zx) ⟨(zA hN rfl), ⟨(zA hN rfl), trivial⟩⟩ ?_
 rintro _ w48 ⟨E49, rfl, F47, hL47, hN47⟩
 have bd50 := hB5.lt
 have := E49.size
 have hb := hb.stepF E49 (fun _ _ q => q)
 refine zG (zA hN rfl) ?_
 refine zW (zA hN rfl) rfl ?_
 refine zW (zA hN rfl) rfl ?_
 refine op_alloc (cs := [(.string (bs [])), (.slice none 0 0), (.slice none 0 0)]) zero55 rfl ?_
 intro w52 b53 lo_b53 hi_b53 hB55 E54
 have dj56 : ¬ F47 b53 := fun hf => by have := (hL47.lt _ hf).2; omega
 have := E54.size
 have hL47 := hL47.keepG (zi E54 NoB) (fun _ _ h => h)
 have hb := hb.step0 E54
 refine zZ size55 (zA hN rfl) (zA hN rfl) rfl rfl hB55 rfl ?_
 intro w59 hB55 E60
 have := E60.size
 have hL47 := hL47.keepG (Gr.of E60) (Dj.one dj56)
 have hb := hb.step1 E60 zx
 refine zD (zA hN rfl) ?_
 refine zB ?_
 refine hK11 _ _ (zF fun K61 hK61 => ?_)
 refine zH ?_
 refine zG (zA hN rfl) ?_
 refine op_bin (v := .bool true) (zA hN rfl) rfl (by rw [binOp_neq]; rfl) (zB ?_)
 refine hK61 _ _ (wp_cond_true (zA hN rfl) (zF fun K62 hK62 => ?_))
 refine zH ?_
 refine zG (zA hN rfl) ?_
 refine zD (zA hN rfl) ?_
 refine zB ?_
 refine hK62 _ _ (wp_ret (zO ( ?_)))
 refine ret1 rfl hd (zA hN rfl) ⟨_, rfl, ?_⟩
 have e1 := @joinE_n (D.map DTab.t) f C K c11 k16
 rw [e1]; exact ⟨hb, rfl, C, K, _, hL47, (hN47.mono zx), fun q => absurd q zz⟩

theorem Column_ret (a : List UInt8) (l : List PCol) (cv iv : Value) (x : List UInt8) (w : World) (hl : RdC w 0 w.heap.size 3 cv l.length (l.flatMap cellsC)) : Ret Try.prog 58 #[(.agg #[(.string (bs a)), cv, iv]), (.string (bs x))] w (fun v' w' => Below w.heap.size w w' ∧ v' = .int .i64 (colIx l x)) := by
 have hb := Below.refl w.heap.size w
 refine enter (N := 9) Try.func58 rfl rfl (by simp) fun a0 hN hd hA => ?_
 have s0 : a0.tmps.getD 0 undef = (.agg #[(.string (bs a)), cv, iv]) := hA 0 (by simp)
 have s1 : a0.tmps.getD 1 undef = (.string (bs x)) := hA 1 (by simp)
 clear hA
 refine zF fun K28 hK28 => ?_
 refine zH ?_
 refine op_box (cs := [(.string (bs a)), cv, iv]) (zC hN rfl s0) rfl ?_
 intro w29 b30 lo_b30 hi_b30 hB32 E31
 have := E31.size
 have hl := hl.keep0 E31
 have hb := zP hb E31 hb.size
 refine zD rfl ?_
 refine zB ?_
 refine hK28 _ _ (zF fun K33 hK33 => ?_)
 refine zH ?_
 refine zM fld55_1 (zA hN rfl) ?_
 refine zN (v := cv) one41 (zA hN rfl) (hB32.cell rfl) ?_
 refine zG (zC hN rfl s1) ?_
 refine zj ok86 (findCol (L := (l : List PCol)) x (hl.mono (Nat.zero_le _) zx)) ⟨(zA hN rfl), ⟨(zA hN rfl), ⟨rfl, trivial⟩⟩⟩ ?_
 rintro _ w34 ⟨E35, rfl⟩
 have E35 := zQ E35
 have := E35.size
 have hl := hl.keep0 E35
 have hb := zP hb E35 hb.size
 refine zD (zA hN rfl) ?_
 refine zB ?_
 refine hK33 _ _ (wp_ret ?_)
 refine ret1 rfl hd (zA hN rfl) ⟨_, rfl, ?_⟩
 exact ⟨hb, rfl⟩

theorem ins1 {e : XE} {n nl B Bc ib tb nb : Nat} {F : Nat → Prop} {a : List UInt8} {cols : List PCol} {cv iv : Value} {w : World} (hB : B ≤ w.heap.size) (h : LookR w B nl (.slice none 0 0) (.slice none 0 0) [] [] F) (hnb : Bx w nb 90 [ptr nl 0]) (htb : Bx w tb 55 [.string (bs a), cv, iv]) (hdF : ¬ F ib) (hib : Bx w ib 3 [.int .i64 ((n : Nat) : Int)]) (hcv : RdC w 0 Bc 3 cv cols.length (cols.flatMap cellsC)) (hcl : cols.length ≤ 1000000) (hBc : Bc ≤ ib) (hBe : Bc ≤ w.heap.size) (he : XRd w Bc e) (hn : n < cols.length) (hn1 : nb ≠ ib) : Ret Try.prog 69 #[(.agg #[(.int .i64 e.op), (.int .i64 e.vk), (.int .i64 e.vi), (.string (bs e.vt)), (.string (bs e.tb)), (.string (bs e.nm)), e.av]), (ptr ib 0), (ptr nb 0), (ptr tb 0)] w (fun v' w' => w.grownBy w' (some ib) ∧ v' = .int .i64 (mustX [] [] e (cols.getD n default).kind) ∧ Bx w' ib 3 [.int .i64 ((n + 1 : Nat) : Int)]) := by
 have hi_ib := hib.lt
 have hi_tb := htb.lt
 have hi_nb := hnb.lt
 have hltl := fun k hk => (h.lt k hk).2
 have hb := grown_refl w (some ib)
 refine enter (N := 18) Try.func69 rfl rfl (by simp) fun a0 hN hd hA => ?_
 have s0 : a0.tmps.getD 0 undef = (.agg #[(.int .i64 e.op), (.int .i64 e.vk), (.int .i64 e.vi), (.string (bs e.vt)), (.string (bs e.tb)), (.string (bs e.nm)), e.av]) := hA 0 (by simp)
 have s1 : a0.tmps.getD 1 undef = (ptr ib 0) := hA 1 (by simp)
 have s2 : a0.tmps.getD 2 undef = (ptr nb 0) := hA 2 (by simp)
 have s3 : a0.tmps.getD 3 undef = (ptr tb 0) := hA 3 (by simp)
 clear hA
 refine zF fun K36 hK36 => ?_
 refine zH ?_
 refine op_box (cs := [(.int .i64 e.op), (.int .i64 e.vk), (.int .i64 e.vi), (.string (bs e.vt)), (.string (bs e.tb)), (.string (bs e.nm)), e.av]) (zC hN rfl s0) rfl ?_
 intro w37 b38 lo_b38 hi_b38 hB40 E39
 have := E39.size
 have h := h.keepG (zi E39 NoB) (fun _ _ h => h)
 have hnb := hnb.keep0 E39
 have htb := htb.keep0 E39
 have hib := hib.keep0 E39
 have hcv := hcv.keep0 E39
 have he := he.keep0 E39
 have hb := grow_step0 hb E39
 refine zD rfl ?_
 refine zB ?_
 refine hK36 _ _ (zF fun K42 hK42 => ?_)
 refine zH ?_
 refine zN (v := (Value.int .i64 ((n : Nat) : Int))) one3 (zC hN rfl s1) (hib.cell rfl) ?_
 refine op_add (r := ((n + 1 : Nat) : Int)) (zA hN rfl) rfl ((add64 zx).trans zx) ?_
 have hib_old := hib
 refine za (vs := [(.int .i64 ((n + 1 : Nat) : Int))]) (cs' := [(.int .i64 ((n + 1 : Nat) : Int))]) size3 (zC hN rfl s1) (zA hN rfl) rfl rfl rfl hib (zI rfl) rfl ?_
 intro w45 hib E46
 have := E46.size
 have h := h.keepG (Gr.of E46) (Dj.one hdF)
 have hnb := hnb.keep E46 (sN hnb hib_old)
 have htb := htb.keep E46 (sN htb hib_old)
 have hcv := hcv.keep E46 sR
 have he := he.keep E46 sR
 have hB40 := hB40.keep E46 (sN hB40 hib_old)
 have hb := grown_trans hb E46
 refine zB ?_
 refine hK42 _ _ (zF fun K47 hK47 => ?_)
 refine reg_from mixed ?_
 intro w49 E48
 have := E48.size
 have h := h.keepG (zi E48 NoB) (fun _ _ h => h)
 have hnb := hnb.keep0 E48
 have htb := htb.keep0 E48
 have hcv := hcv.keep0 E48
 have he := he.keep0 E48
 have hB40 := hB40.keep0 E48
 have hib := hib.keep0 E48
 have hb := grow_step0 hb E48
 refine from_still (m := 9) 9 (hd := [_, _, _, _, _, _, _, _, _]) zy rfl rfl ?_
 refine st_step rfl (fun _ h9 => zN (v := (ptr nl 0)) one90 (zC hN rfl s2) (hnb.cell rfl) h9) ?_
 refine st_step rfl (fun _ h9 => zY agg28 rfl (zA hN rfl) hB40 h9) ?_
 refine st_step rfl (fun _ h9 => zM fld55_1 (zC hN rfl s3) h9) ?_
 refine st_step rfl (fun _ h9 => zN (v := cv) one41 (zA hN rfl) (htb.cell rfl) h9) ?_
 refine st_step rfl (fun _ h9 => zN (v := (Value.int .i64 ((n + 1 : Nat) : Int))) one3 (zC hN rfl s1) (hib.cell rfl) h9) ?_
 refine st_step rfl (fun _ h9 => op_sub (r := ((n : Nat) : Int)) (zA hN rfl) rfl ((sub64 zx).trans zx) h9) ?_
 refine st_index_rd slt41 (zA hN rfl) hcv (zA hN rfl) zx zx ?_
 intro b50 o51 h0b50 h1b50 hc52
 refine st_step rfl (fun _ h9 => zM fld68_1 (zA hN rfl) h9) ?_
 refine st_step rfl (fun _ h9 => zN (v := (Value.int .i64 (cols.getD n default).kind)) one3 (zA hN rfl) (hc52 1 ((.int .i64 (cols.getD n default).kind)) zz ((el_pc (i := n) zx zx) 1 ((.int .i64 (cols.getD n default).kind)) rfl)) h9) ?_
 refine st_nil ?_
 refine from_seq (tl := [_, _]) zz zy rfl ?_
 refine zj ok70 (lkMust e ((cols.getD n default).kind) zx h (by simp) (by simp) (he.mono zx)) ⟨(zA hN rfl), ⟨(zA hN rfl), ⟨(zA hN rfl), trivial⟩⟩⟩ ?_
 rintro _ w53 ⟨E54, rfl⟩
 have E54 := zQ E54
 have := E54.size
 have hnb := hnb.keep0 E54
 have hcv := hcv.keep0 E54
 have hib := hib.keep0 E54
 have hb := grow_step0 hb E54
 refine zD (zA hN rfl) ?_
 refine zB ?_
 refine hK47 _ _ (wp_ret ?_)
 refine ret1 rfl hd (zA hN rfl) ⟨_, rfl, ?_⟩
 exact ⟨hb, rfl, hib⟩

theorem FoldIns {E : List XE} {v : Value} {nl B Bc ib tb nb : Nat} {F : Nat → Prop} {a : List UInt8} {cols : List PCol} {cv iv : Value} {w : World} (hB : B ≤ w.heap.size) (h : LookR w B nl (.slice none 0 0) (.slice none 0 0) [] [] F) (hnb : Bx w nb 90 [ptr nl 0]) (htb : Bx w tb 55 [.string (bs a), cv, iv]) (hdF : ¬ F ib) (hib : Bx w ib 3 [.int .i64 0]) (hcv : RdC w 0 Bc 3 cv cols.length (cols.flatMap cellsC)) (hcl : cols.length ≤ 1000000) (hBc : Bc ≤ ib) (hBe : Bc ≤ w.heap.size) (hX : XsRd w Bc v E) (hEl : E.length = cols.length) (hn1 : nb ≠ ib) : Ret Try.prog 31 #[v, (.func (.func 69) #[] #[(ptr ib 0), (ptr nb 0), (ptr tb 0)])] w (fun v' w' => w.grownBy w' (some ib) ∧ v' = .int .i64 (firstE (insL E cols))) := by
 have hXR := hX.1
 have hi_ib := hib.lt
 have hi_tb := htb.lt
 have hi_nb := hnb.lt
 have hltl := fun k hk => (h.lt k hk).2
 have hb := grown_refl w (some ib)
 refine enter (N := 21) Try.func31 rfl rfl (by simp) fun a0 hN hd hA => ?_
 have s0 : a0.tmps.getD 0 undef = v := hA 0 (by simp)
 have s1 : a0.tmps.getD 1 undef = (.func (.func 69) #[] #[(ptr ib 0), (ptr nb 0), (ptr tb 0)]) := hA 1 (by simp)
 clear hA
 refine zF fun K55 hK55 => ?_
 refine zH ?_
 refine zD rfl ?_
 refine zB ?_
 refine hK55 _ _ (zF fun K56 hK56 => ?_)
 refine zF fun K57 hK57 => ?_
 refine zH ?_
 refine zG (zC hN rfl s0) ?_
 refine op_len_rd Try.underlying26 (zA hN rfl) hXR ?_
 refine zG rfl ?_
 refine zB ?_
 refine hK57 _ _ (wp_block ?_)
 refine loop_m (fun mz_ az_ w' => ∃ (i : Nat), mz_ = E.length - i ∧ (az_.tmps.getD 1 undef = (.func (.func 69) #[] #[(ptr ib 0), (ptr nb 0), (ptr tb 0)])) ∧ (az_.tmps.getD 8 undef = v) ∧ (az_.tmps.getD 9 undef = (.int .i64 ((E.length : Nat) : Int))) ∧ (az_.tmps.getD 10 undef = (.int .i64 ((i : Nat) : Int))) ∧ (i ≤ E.length) ∧ (∀ j, j < i → (insL E cols).getD j 0 = 0) ∧ (w.grownBy w' (some ib)) ∧ (w.heap.size ≤ w'.heap.size) ∧ (LookR w' B nl (.slice none 0 0) (.slice none 0 0) ([] : List PItm) ([] : List Int) F) ∧ (Bx w' nb 90 [(ptr nl 0)]) ∧ (Bx w' tb 55 [(.string (bs a)), cv, iv]) ∧ (RdC w' 0 Bc 3 cv cols.length (cols.flatMap cellsC)) ∧ (XsRd w' Bc v E) ∧ (RdC w' 0 Bc 7 v E.length (E.flatMap cellsX)) ∧ (Bx w' ib 3 [(.int .i64 ((i : Nat) : Int))])) _ hN hd ⟨0, rfl, (zL hN rfl s1), (zU hN rfl), (zU hN rfl), (zU hN rfl), (Nat.zero_le _), (fun _ h => absurd h (Nat.not_lt_zero _)), hb, (Nat.le_refl _), h, hnb, htb, hcv, hX, hXR, hib⟩ ?_
 rintro _ a58 w58 hN58 hd58 ⟨i, rfl, s58_1, s58_8, s58_9, s58_10, hi, hall, hb, zl_w58, h, hnb, htb, hcv, hX, hXR, hib2⟩
 have := hb.size
 refine zF fun K59 hK59 => ?_
 refine zH ?_
 refine op_lss (zC hN58 rfl s58_10) (zC hN58 rfl s58_9) (fun c11 => ?_) (fun c11 => ?_)
 ·
  refine zB ?_
  refine hK59 _ _ (zF fun K60 hK60 => ?_)
  refine wp_cond_true (zA hN58 rfl) (wp_skip (hK60 _ _ (zF fun K61 hK61 => ?_)))
  refine wp_block ?_
  refine zF fun K62 hK62 => ?_
  refine zH ?_
  refine zh slt26 (zC hN58 rfl s58_8) hXR (zC hN58 rfl s58_10) zx zx ?_
  intro b63 o64 h0b63 h1b63 hc65
  refine zX (cs := [(.int .i64 (E.getD i default).op), (.int .i64 (E.getD i default).vk), (.int .i64 (E.getD i default).vi), (.string (bs (E.getD i default).vt)), (.string (bs (E.getD i default).tb)), (.string (bs (E.getD i default).nm)), (E.getD i default).av]) agg28 rfl (zA hN58 rfl) (fun j u hu => hc65 j u (by have := (List.getElem?_eq_some_iff.1 hu).1; simpa using this) ((el_xe (i := i) zx zx) j u hu)) ?_
  refine op_alloc (cs := [(.int .i64 0), (.int .i64 0), (.int .i64 0), (.string (bs [])), (.string (bs [])), (.string (bs [])), (.slice none 0 0)]) zero28 rfl ?_
  intro w66 b67 lo_b67 hi_b67 hB69 E68
  have dj70 : ¬ F b67 := fun hf => by have := (h.lt _ hf).2; omega
  have := E68.size
  have h := h.keepG (zi E68 NoB) (fun _ _ h => h)
  have hnb := hnb.keep0 E68
  have htb := htb.keep0 E68
  have hcv := hcv.keep0 E68
  have hX := hX.keep0 E68
  have hXR := hXR.keep0 E68
  have hib2 := hib2.keep0 E68
  have hb := grow_step0 hb E68
  have hB69_old := hB69
  refine zZ size28 (zA hN58 rfl) (zA hN58 rfl) rfl (by simp only [List.all_cons, List.all_nil, Bool.true_and, Bool.and_true, (hX.2 (E.getD i default) (getD_mem zx)).list.1.one]; try rfl) hB69 rfl ?_
  intro w73 hB69 E74
  have := E74.size
  have h := h.keepG (Gr.of E74) (Dj.one dj70)
  have hnb := hnb.keep E74 (sN hnb hB69_old)
  have htb := htb.keep E74 (sN htb hB69_old)
  have hcv := hcv.keep E74 sR
  have hX := hX.keep E74 sR
  have hXR := hXR.keep E74 sR
  have hib2 := hib2.keep E74 (sN hib2 hB69_old)
  have hb := grow_step1 hb E74 zx
  refine zB ?_
  refine hK62 _ _ (zF fun K75 hK75 => ?_)
  refine zH ?_
  refine zG (zC hN58 rfl s58_1) ?_
  refine zY agg28 rfl (zA hN58 rfl) hB69 ?_
  refine op_fnv (fs := []) (vs := [(.agg #[(.int .i64 (E.getD i default).op), (.int .i64 (E.getD i default).vk), (.int .i64 (E.getD i default).vi), (.string (bs (E.getD i default).vt)), (.string (bs (E.getD i default).tb)), (.string (bs (E.getD i default).nm)), (E.getD i default).av])]) (cs := [(ptr ib 0), (ptr nb 0), (ptr tb 0)]) (zA hN58 rfl) ok69 ⟨(zA hN58 rfl), trivial⟩ (ins1 zx h hnb htb hdF hib2 hcv hcl zx zx (hX.2 _ (getD_mem zx)) zx zx) ?_
  rintro _ w77 ⟨E78, rfl, hi76⟩
  have hib2_old := hib2
  have := E78.size
  have h := h.keepG (Gr.of E78) (Dj.one hdF)
  have hnb := hnb.keep E78 (sN hnb hib2_old)
  have htb := htb.keep E78 (sN htb hib2_old)
  have hcv := hcv.keep E78 sR
  have hX := hX.keep E78 sR
  have hXR := hXR.keep E78 sR
  have hb := grown_trans hb E78
  refine zD (zA hN58 rfl) ?_
  refine zB ?_
  refine hK75 _ _ (zF fun K79 hK79 => ?_)
  refine zH ?_
  refine zG (zA hN58 rfl) ?_
  refine op_neq (zA hN58 rfl) rfl (fun c18 => ?_) (fun c18 => ?_)
  ·
   refine zB ?_
   refine hK79 _ _ (wp_cond_true (zA hN58 rfl) (zF fun K80 hK80 => ?_))
   refine zH ?_
   refine zG (zA hN58 rfl) ?_
   refine zD (zA hN58 rfl) ?_
   refine zB ?_
   refine hK80 _ _ (wp_ret (zb (zO (zO (zb (zO ( ?_)))))))
   refine ret1 rfl hd58 (zA hN58 rfl) ⟨_, rfl, ?_⟩
   rw [insL_hit zx hall c18]; exact ⟨hb, rfl⟩
  refine zB ?_
  refine hK79 _ _ (wp_cond_false (zA hN58 rfl) (wp_skip (hK61 _ _ (zH ?_))))
  refine op_add (zC hN58 rfl s58_10) rfl (add64 zx) ?_
  refine zG (zA hN58 rfl) ?_
  refine zB ?_
  -- round 11T 18F
  exact zg _ hN58 hd58 ⟨(i + 1), rfl, (zL hN58 rfl s58_1), (zL hN58 rfl s58_8), (zL hN58 rfl s58_9), (zU hN58 rfl).trans (congrArg (Value.int .i64) zx), zx, (all_next hall ((insL_at zx).trans c18)), hb, zx, h, hnb, htb, hcv, hX, hXR, hi76⟩ zx
 refine zB ?_
 refine hK59 _ _ (zF fun K81 hK81 => ?_)
 refine wp_cond_false (zA hN58 rfl) (wp_exit (then_exit (then_exit (blk_hit ?_))))
 refine hK56 _ _ (zF fun K82 hK82 => ?_)
 refine zH ?_
 refine zD rfl ?_
 refine zB ?_
 refine hK82 _ _ (wp_ret ?_)
 refine ret1 rfl hd58 (zA hN58 rfl) ⟨_, rfl, ?_⟩
 rw [insL_none zx hall]; exact ⟨hb, rfl⟩

theorem lkIns {tv : Value} {D : List DTab} {l B : Nat} {F : Nat → Prop} {f : StF} {nv : Value} {w : World} (hT : TsRd w B tv D) (hD : D.length ≤ 1000000) (hsz : ∀ d ∈ D, d.t.cols.length ≤ 1000000 ∧ d.t.idx.length ≤ 1000000) (hB : B ≤ w.heap.size) (h : LookR w B l tv (.slice none 0 0) [] [] F) (hfv : XsRd w B f.vv f.vals) : Ret Try.prog 42 #[(ptr l 0), (.agg #[(.int .i64 f.kind), (.string (bs f.tb)), (.string (bs f.nm)), f.cv, f.gv, f.vv, f.iv, (.string (bs f.join)), f.ov, f.wv, f.rv, (.bool f.desc), nv])] w (fun v' w' => Gr w w' F ∧ v' = .int .i64 (match tabAt (D.map DTab.t) f.tb with | none => (9 : Int) | some t => insE t f)) := by
 have hR := hT.1
 have hltl := fun k hk => (h.lt k hk).2
 have hfvR := hfv.1
 have hsz9 : ∀ t ∈ D.map DTab.t, t.cols.length ≤ 1000000 ∧ t.idx.length ≤ 1000000 := fun t ht => by obtain ⟨d, hd, rfl⟩ := List.mem_map.1 ht; exact hsz d hd
 have hb := Gr.refl w F
 refine enter (N := 34) Try.func42 rfl rfl (by simp) fun a0 hN hd hA => ?_
 have s0 : a0.tmps.getD 0 undef = (ptr l 0) := hA 0 (by simp)
 have s1 : a0.tmps.getD 1 undef = (.agg #[(.int .i64 f.kind), (.string (bs f.tb)), (.string (bs f.nm)), f.cv, f.gv, f.vv, f.iv, (.string (bs f.join)), f.ov, f.wv, f.rv, (.bool f.desc), nv]) := hA 1 (by simp)
 clear hA
 refine zF fun K83 hK83 => ?_
 refine zH ?_
 refine op_box (cs := [(.int .i64 f.kind), (.string (bs f.tb)), (.string (bs f.nm)), f.cv, f.gv, f.vv, f.iv, (.string (bs f.join)), f.ov, f.wv, f.rv, (.bool f.desc), nv]) (zC hN rfl s1) rfl ?_
 intro w84 b85 lo_b85 hi_b85 hB87 E86
 have dj88 : ¬ F b85 := fun hf => by have := (h.lt _ hf).2; omega
 have := E86.size
 have hT := hT.keep0 E86
 have h := h.keepG (zi E86 NoB) (fun _ _ h => h)
 have hfv := hfv.keep0 E86
 have hfvR := hfvR.keep0 E86
 have hb := hb.step0 E86
 refine zD rfl ?_
 refine zB ?_
 refine hK83 _ _ (zF fun K89 hK89 => ?_)
 refine zH ?_
 refine zG (zC hN rfl s0) ?_
 refine zM fld45_1 (zA hN rfl) ?_
 refine zN (v := (Value.string (bs f.tb))) one9 (zA hN rfl) (hB87.cell rfl) ?_
 rcases Bool.eq_false_or_eq_true ((tabAt (D.map DTab.t) f.tb).isSome) with k13 | k13
 ·
  refine zj ok45 (lookTableT k13 (hT.mono zx) hD hsz zx h (by simp) (by simp)) ⟨(zA hN rfl), ⟨(zA hN rfl), trivial⟩⟩ ?_
  rintro _ w91 ⟨E92, d90, rfl, ht90, hO90, hP90, F90, hL90, hN90⟩
  have bd95 := hB87.lt
  have h_old := h
  have := E92.size
  have hfv := hfv.keepG E92 (fun k hk => .inr (by have := h_old.lt k hk; omega))
  have hfvR := hfvR.keepG E92 (fun k hk => .inr (by have := h_old.lt k hk; omega))
  have hB87 := hB87.keepG E92 dj88
  have hb := hb.stepF E92 (fun _ _ q => q)
  have hO90 := hO90.mono (base' := w.heap.size) zx
  have hP90 := hP90.mono (base' := w.heap.size) zx
  refine zG (zA hN rfl) ?_
  refine zW (zA hN rfl) rfl ?_
  refine zW (zA hN rfl) rfl ?_
  refine op_alloc (cs := [(.string (bs [])), (.slice none 0 0), (.slice none 0 0)]) zero55 rfl ?_
  intro w97 b98 lo_b98 hi_b98 hB100 E99
  have := E99.size
  have hfv := hfv.keep0 E99
  have hfvR := hfvR.keep0 E99
  have hB87 := hB87.keep0 E99
  have hO90 := hO90.keep0 E99
  have hP90 := hP90.keep0 E99
  have hb := hb.step0 E99
  have hB100_old := hB100
  refine zZ size55 (zA hN rfl) (zA hN rfl) rfl (by simp only [List.all_cons, List.all_nil, Bool.true_and, Bool.and_true, hO90.one, hP90.one]; try rfl) hB100 rfl ?_
  intro w104 hB100 E105
  have := E105.size
  have hfv := hfv.keep E105 sR
  have hfvR := hfvR.keep E105 sR
  have hB87 := hB87.keep E105 (sN hB87 hB100_old)
  have hO90 := hO90.keepX hB100_old E105 zz
  have hb := hb.step1 E105 zx
  refine zD (zA hN rfl) ?_
  refine zB ?_
  refine hK89 _ _ (zF fun K106 hK106 => ?_)
  refine wp_block ?_
  refine zF fun K107 hK107 => ?_
  refine zH ?_
  refine zG (zA hN rfl) ?_
  refine op_bin (v := .bool false) (zA hN rfl) rfl (by rw [binOp_neq]; rfl) (zD (zA hN rfl) ?_)
  refine zB ?_
  refine hK107 _ _ (wp_cond_false (zA hN rfl) (zF fun K108 hK108 => ?_))
  refine zH ?_
  refine zM fld45_5 (zA hN rfl) ?_
  refine zN (v := f.vv) one26 (zA hN rfl) (hB87.cell rfl) ?_
  refine op_len_rd Try.underlying26 (zA hN rfl) hfvR ?_
  refine zM fld55_1 (zA hN rfl) ?_
  refine zN (v := d90.cv) one41 (zA hN rfl) (hB100.cell rfl) ?_
  refine op_len_rd Try.underlying41 (zA hN rfl) hO90.rdw ?_
  refine op_neq (zA hN rfl) (zA hN rfl) (fun c27 => ?_) (fun c27 => ?_)
  ·
   refine zD (zA hN rfl) ?_
   refine zB ?_
   refine hK108 _ _ (wp_cond_true (zA hN rfl) (zF fun K109 hK109 => ?_))
   refine zH ?_
   refine zD rfl ?_
   refine zB ?_
   refine hK109 _ _ (wp_ret (zb (zO ( ?_))))
   refine ret1 rfl hd (zA hN rfl) ⟨_, rfl, ?_⟩
   rw [show tabAt (D.map DTab.t) f.tb = some d90.t from ht90]
   have e9 : insE d90.t f = 7 := by unfold insE; rw [if_pos zx]
   simp only []; rw [e9]; exact ⟨hb, rfl⟩
  refine zD (zA hN rfl) ?_
  refine zB ?_
  refine hK108 _ _ (wp_cond_false (zA hN rfl) (wp_skip (hK106 _ _ (zF fun K110 hK110 => ?_))))
  refine zH ?_
  refine zf (pv := []) (v := (Value.agg #[(.slice none 0 0), (.slice none 0 0), (.slice none 0 0), (.slice none 0 0)])) trivial zy ?_
  have hdl := (hsz9 _ (tab_mem ht90)).1
  have hzw := hb.size
  have hcvB : RdC w104 0 w104.heap.size 3 d90.cv d90.t.cols.length (d90.t.cols.flatMap cellsC) := hO90.rdw.mono (Nat.zero_le _) (Nat.le_refl _)
  refine op_box (cs := [(.slice none 0 0), (.slice none 0 0), (.slice none 0 0), (.slice none 0 0)]) (zA hN rfl) rfl ?_
  intro w111 b112 lo_b112 hi_b112 hB114 E113
  have := E113.size
  have hfv := hfv.keep0 E113
  have hcvB := hcvB.keep0 E113
  obtain ⟨hB87, hB100⟩ := kb2 E113 hB87 hB100
  have hb := hb.step0 E113
  refine op_alloc (cs := [(Value.pointer none)]) zero90 rfl ?_
  intro w116 b117 lo_b117 hi_b117 hB119 E118
  have := E118.size
  have hfv := hfv.keep0 E118
  have hcvB := hcvB.keep0 E118
  obtain ⟨hB87, hB100, hB114⟩ := kb3 E118 hB87 hB100 hB114
  have hb := hb.step0 E118
  refine op_alloc (cs := [(.int .i64 0)]) zero3 rfl ?_
  intro w121 b122 lo_b122 hi_b122 hB124 E123
  have := E123.size
  have hfv := hfv.keep0 E123
  have hcvB := hcvB.keep0 E123
  obtain ⟨hB87, hB100, hB114, hB119⟩ := kb4 E123 hB87 hB100 hB114 hB119
  have hb := hb.step0 E123
  have hB119_old := hB119
  refine za (vs := [(ptr b112 0)]) (cs' := [(ptr b112 0)]) size90 (zA hN rfl) (zA hN rfl) rfl rfl rfl hB119 (zI rfl) rfl ?_
  intro w128 hB119 E129
  have := E129.size
  have hfv := hfv.keep E129 sR
  have hB87 := hB87.keep E129 (sN hB87 hB119_old)
  have hB100 := hB100.keep E129 (sN hB100 hB119_old)
  have hcvB := hcvB.keep E129 sR
  have hB114 := hB114.keep E129 (sN hB114 hB119_old)
  have hB124 := hB124.keep E129 (sN hB124 hB119_old)
  have hb := hb.step1 E129 zx
  have hB124_old := hB124
  refine za (vs := [(.int .i64 0)]) (cs' := [(.int .i64 0)]) size3 (zA hN rfl) rfl rfl rfl rfl hB124 (zI rfl) rfl ?_
  intro w132 hB124 E133
  have := E133.size
  have hfv := hfv.keep E133 sR
  have hB87 := hB87.keep E133 (sN hB87 hB124_old)
  have hB100 := hB100.keep E133 (sN hB100 hB124_old)
  have hcvB := hcvB.keep E133 sR
  have hB114 := hB114.keep E133 (sN hB114 hB124_old)
  have hB119 := hB119.keep E133 (sN hB119 hB124_old)
  have hb := hb.step1 E133 zx
  refine zB ?_
  refine hK110 _ _ (zF fun K134 hK134 => ?_)
  refine zH ?_
  refine zM fld45_5 (zA hN rfl) ?_
  refine zN (v := f.vv) one26 (zA hN rfl) (hB87.cell rfl) ?_
  refine op_mkfn (cv := [(ptr b122 0), (ptr b117 0), (ptr b98 0)]) ⟨(zA hN rfl), ⟨(zA hN rfl), ⟨(zA hN rfl), trivial⟩⟩⟩ ?_
  have hL135 : LookR w132 0 b112 (.slice none 0 0) (.slice none 0 0) [] [] (fun y => y = b112 ∨ Bl (.slice none 0 0) y ∨ Bl (.slice none 0 0) y) := ⟨_, _, Nat.zero_le _, hB114, Own.nil _ _ _ _, Own.nil _ _ _ _, fun _ => Iff.rfl⟩
  have dF135 : ¬ (fun y => y = b112 ∨ Bl (.slice none 0 0) y ∨ Bl (.slice none 0 0) y) b122 := fun h => h.elim (fun h => by omega) fun h => h.elim (fun h => (by cases h)) fun h => (by cases h)
  refine zj ok31 (FoldIns (Bc := w104.heap.size) (B := 0) (Nat.zero_le _) hL135 hB119 hB100 dF135 hB124 (hcvB.mono (Nat.zero_le _) (Nat.le_refl _)) zx zx zx (hfv.mono zx) zx zx) ⟨(zA hN rfl), ⟨(zA hN rfl), trivial⟩⟩ ?_
  rintro _ w136 ⟨E137, rfl⟩
  have := E137.size
  have hcvB := hcvB.keep E137 sR
  have hb := hb.step1 E137 zx
  refine zD (zA hN rfl) ?_
  refine zB ?_
  refine hK134 _ _ (wp_ret ?_)
  refine ret1 rfl hd (zA hN rfl) ⟨_, rfl, ?_⟩
  rw [show tabAt (D.map DTab.t) f.tb = some d90.t from ht90]
  have e9 : insE d90.t f = firstE (insL f.vals d90.t.cols) := by unfold insE; rw [if_neg zx]; rfl
  simp only []; rw [e9]; exact ⟨hb, rfl⟩
 refine zj ok45 (lookTableF k13 (hT.mono zx) hD hsz zx h (by simp) (by simp)) ⟨(zA hN rfl), ⟨(zA hN rfl), trivial⟩⟩ ?_
 rintro _ w139 ⟨E140, rfl, F138, hL138, hN138⟩
 have bd141 := hB87.lt
 have := E140.size
 have hb := hb.stepF E140 (fun _ _ q => q)
 refine zG (zA hN rfl) ?_
 refine zW (zA hN rfl) rfl ?_
 refine zW (zA hN rfl) rfl ?_
 refine op_alloc (cs := [(.string (bs [])), (.slice none 0 0), (.slice none 0 0)]) zero55 rfl ?_
 intro w143 b144 lo_b144 hi_b144 hB146 E145
 have := E145.size
 have hb := hb.step0 E145
 refine zZ size55 (zA hN rfl) (zA hN rfl) rfl rfl hB146 rfl ?_
 intro w150 hB146 E151
 have := E151.size
 have hb := hb.step1 E151 zx
 refine zD (zA hN rfl) ?_
 refine zB ?_
 refine hK89 _ _ (zF fun K152 hK152 => ?_)
 refine wp_block ?_
 refine zF fun K153 hK153 => ?_
 refine zH ?_
 refine zG (zA hN rfl) ?_
 refine op_bin (v := .bool true) (zA hN rfl) rfl (by rw [binOp_neq]; rfl) (zD (zA hN rfl) ?_)
 refine zB ?_
 refine hK153 _ _ (wp_cond_true (zA hN rfl) (zF fun K154 hK154 => ?_))
 refine zH ?_
 refine zG (zA hN rfl) ?_
 refine zD (zA hN rfl) ?_
 refine zB ?_
 refine hK154 _ _ (wp_ret (zb (zO ( ?_))))
 refine ret1 rfl hd (zA hN rfl) ⟨_, rfl, ?_⟩
 have hn9 : tabAt (D.map DTab.t) f.tb = none := by cases hh : tabAt (D.map DTab.t) f.tb with
   | none => rfl
   | some u => rw [hh] at k13; cases k13
 rw [hn9]; exact ⟨hb, rfl⟩

theorem lkUpd {tv : Value} {D : List DTab} {l B : Nat} {F : Nat → Prop} {f : StF} {nv : Value} {w : World} (hT : TsRd w B tv D) (hD : D.length ≤ 1000000) (hsz : ∀ d ∈ D, d.t.cols.length ≤ 1000000 ∧ d.t.idx.length ≤ 1000000) (hB : B ≤ w.heap.size) (h : LookR w B l tv (.slice none 0 0) [] [] F) (hfv : XsRd w B f.vv f.vals) (hfw : XsRd w B f.wv f.wh) (hv1 : f.vals.length = 1) : Ret Try.prog 44 #[(ptr l 0), (.agg #[(.int .i64 f.kind), (.string (bs f.tb)), (.string (bs f.nm)), f.cv, f.gv, f.vv, f.iv, (.string (bs f.join)), f.ov, f.wv, f.rv, (.bool f.desc), nv])] w (fun v' w' => Gr w w' F ∧ v' = .int .i64 (match tabAt (D.map DTab.t) f.tb with | none => (9 : Int) | some t => updE t f)) := by
 have hR := hT.1
 have hltl := fun k hk => (h.lt k hk).2
 have hfvR := hfv.1
 have hfwR := hfw.1
 have hsz9 : ∀ t ∈ D.map DTab.t, t.cols.length ≤ 1000000 ∧ t.idx.length ≤ 1000000 := fun t ht => by obtain ⟨d, hd, rfl⟩ := List.mem_map.1 ht; exact hsz d hd
 have hb := Gr.refl w F
 refine enter (N := 58) Try.func44 rfl rfl (by simp) fun a0 hN hd hA => ?_
 have s0 : a0.tmps.getD 0 undef = (ptr l 0) := hA 0 (by simp)
 have s1 : a0.tmps.getD 1 undef = (.agg #[(.int .i64 f.kind), (.string (bs f.tb)), (.string (bs f.nm)), f.cv, f.gv, f.vv, f.iv, (.string (bs f.join)), f.ov, f.wv, f.rv, (.bool f.desc), nv]) := hA 1 (by simp)
 clear hA
 refine zF fun K1 hK1 => ?_
 refine zH ?_
 refine op_box (cs := [(.int .i64 f.kind), (.string (bs f.tb)), (.string (bs f.nm)), f.cv, f.gv, f.vv, f.iv, (.string (bs f.join)), f.ov, f.wv, f.rv, (.bool f.desc), nv]) (zC hN rfl s1) rfl ?_
 intro w2 b3 lo_b3 hi_b3 hB5 E4
 have dj6 : ¬ F b3 := fun hf => by have := (h.lt _ hf).2; omega
 have := E4.size
 have hT := hT.keep0 E4
 have h := h.keepG (zi E4 NoB) (fun _ _ h => h)
 have hfv := hfv.keep0 E4
 have hfvR := hfvR.keep0 E4
 have hfw := hfw.keep0 E4
 have hb := hb.step0 E4
 refine zD rfl ?_
 refine zB ?_
 refine hK1 _ _ (zF fun K7 hK7 => ?_)
 refine zH ?_
 refine zG (zC hN rfl s0) ?_
 refine zM fld45_1 (zA hN rfl) ?_
 refine zN (v := (Value.string (bs f.tb))) one9 (zA hN rfl) (hB5.cell rfl) ?_
 rcases Bool.eq_false_or_eq_true ((tabAt (D.map DTab.t) f.tb).isSome) with k13 | k13
 ·
  refine zj ok45 (lookTableT k13 (hT.mono zx) hD hsz zx h (by simp) (by simp)) ⟨(zA hN rfl), ⟨(zA hN rfl), trivial⟩⟩ ?_
  rintro _ w9 ⟨E10, d8, rfl, ht8, hO8, hP8, F8, hL8, hN8⟩
  have bd13 := hB5.lt
  have h_old := h
  have := E10.size
  have hfv := hfv.keepG E10 (fun k hk => .inr (by have := h_old.lt k hk; omega))
  have hfvR := hfvR.keepG E10 (fun k hk => .inr (by have := h_old.lt k hk; omega))
  have hfw := hfw.keepG E10 (fun k hk => .inr (by have := h_old.lt k hk; omega))
  have hB5 := hB5.keepG E10 dj6
  have hb := hb.stepF E10 (fun _ _ q => q)
  have hO8 := hO8.mono (base' := w.heap.size) zx
  have hP8 := hP8.mono (base' := w.heap.size) zx
  refine zG (zA hN rfl) ?_
  refine zW (zA hN rfl) rfl ?_
  refine zW (zA hN rfl) rfl ?_
  refine op_alloc (cs := [(.string (bs [])), (.slice none 0 0), (.slice none 0 0)]) zero55 rfl ?_
  intro w15 b16 lo_b16 hi_b16 hB18 E17
  have dj19 : ¬ F8 b16 := fun hf => by have := (hL8.lt _ hf).2; omega
  have := E17.size
  have hfv := hfv.keep0 E17
  have hfvR := hfvR.keep0 E17
  have hfw := hfw.keep0 E17
  have hB5 := hB5.keep0 E17
  have hL8 := hL8.keepG (zi E17 NoB) (fun _ _ h => h)
  have hO8 := hO8.keep0 E17
  have hP8 := hP8.keep0 E17
  have hb := hb.step0 E17
  have hB18_old := hB18
  refine zZ size55 (zA hN rfl) (zA hN rfl) rfl (by simp only [List.all_cons, List.all_nil, Bool.true_and, Bool.and_true, hO8.one, hP8.one]; try rfl) hB18 rfl ?_
  intro w22 hB18 E23
  have := E23.size
  have hfv := hfv.keep E23 sR
  have hfvR := hfvR.keep E23 sR
  have hfw := hfw.keep E23 sR
  have hB5 := hB5.keep E23 (sN hB5 hB18_old)
  have hL8 := hL8.keepG (Gr.of E23) (Dj.one dj19)
  have hO8 := hO8.keepX hB18_old E23 zz
  have hb := hb.step1 E23 zx
  refine zD (zA hN rfl) ?_
  refine zB ?_
  refine hK7 _ _ (zF fun K24 hK24 => ?_)
  refine zH ?_
  refine zY agg55 rfl (zA hN rfl) hB18 ?_
  refine zM fld45_2 (zA hN rfl) ?_
  refine zN (v := (Value.string (bs f.nm))) one9 (zA hN rfl) (hB5.cell rfl) ?_
  refine zj ok58 (Column_ret d8.t.nm d8.t.cols _ d8.iv f.nm _ (hO8.rdw.mono (Nat.zero_le _) zx)) ⟨(zA hN rfl), ⟨(zA hN rfl), trivial⟩⟩ ?_
  rintro _ w25 ⟨E26, rfl⟩
  have E26 := zQ E26
  have := E26.size
  have hfv := hfv.keep0 E26
  have hfvR := hfvR.keep0 E26
  have hfw := hfw.keep0 E26
  have hB5 := hB5.keep0 E26
  have hL8 := hL8.keepG (zi E26 NoB) (fun _ _ h => h)
  have hO8 := hO8.keep0 E26
  have hB18 := hB18.keep0 E26
  have hb := hb.step0 E26
  refine zD (zA hN rfl) ?_
  refine zB ?_
  refine hK24 _ _ (zF fun K27 hK27 => ?_)
  refine wp_block ?_
  refine zF fun K28 hK28 => ?_
  refine zH ?_
  refine zG (zA hN rfl) ?_
  refine op_bin (v := .bool false) (zA hN rfl) rfl (by rw [binOp_neq]; rfl) (zD (zA hN rfl) ?_)
  refine zB ?_
  refine hK28 _ _ (wp_cond_false (zA hN rfl) (zF fun K29 hK29 => ?_))
  refine zH ?_
  have hdl := (hsz9 _ (tab_mem ht8)).1
  have hcl9 : ([] ++ colsOf f.tb d8.t.cols).length = d8.t.cols.length := by rw [List.nil_append, cols_len]
  have hkl9 : ([] ++ kindsOf d8.t.cols).length = d8.t.cols.length := by rw [List.nil_append, kinds_len]
  refine zG (zA hN rfl) ?_
  refine op_lss (zA hN rfl) rfl (fun c26 => ?_) (fun c26 => ?_)
  ·
   refine zD (zA hN rfl) ?_
   refine zB ?_
   refine hK29 _ _ (wp_cond_true (zA hN rfl) (zF fun K30 hK30 => ?_))
   refine zH ?_
   refine zD rfl ?_
   refine zB ?_
   refine hK30 _ _ (wp_ret (zb (zO ( ?_))))
   refine ret1 rfl hd (zA hN rfl) ⟨_, rfl, ?_⟩
   rw [show tabAt (D.map DTab.t) f.tb = some d8.t from ht8]
   have e9 : updE d8.t f = 10 := updE_1 c26
   simp only []; rw [e9]; exact ⟨hb, rfl⟩
  refine zD (zA hN rfl) ?_
  refine zB ?_
  refine hK29 _ _ (wp_cond_false (zA hN rfl) (zF fun K31 hK31 => ?_))
  refine zH ?_
  have hci := colIx_lt c26
  refine zG (zA hN rfl) ?_
  refine op_eql (zA hN rfl) rfl (fun c29 => ?_) (fun c29 => ?_)
  ·
   refine zG (zA hN rfl) ?_
   refine zR (j := 2) (dj := 30) (b := false) rfl rfl rfl (zA hN rfl) rfl rfl ?_
   refine zR (j := 2) (dj := 30) (b := false) rfl rfl rfl (zA hN rfl) rfl rfl ?_
   refine zR (j := 2) (dj := 30) (b := false) rfl rfl rfl (zA hN rfl) rfl rfl ?_
   refine zR (j := 2) (dj := 30) (b := false) rfl rfl rfl (zA hN rfl) rfl rfl ?_
   refine zR (j := 2) (dj := 30) (b := false) rfl rfl rfl (zA hN rfl) rfl rfl ?_
   refine zR (j := 2) (dj := 30) (b := false) rfl rfl rfl (zA hN rfl) rfl rfl ?_
   refine zR (j := 2) (dj := 30) (b := false) rfl rfl rfl (zA hN rfl) rfl rfl ?_
   refine zc (zA hN rfl) rfl ?_
   refine zD (zA hN rfl) ?_
   refine zB ?_
   refine hK31 _ _ (wp_cond_true (zA hN rfl) (zF fun K32 hK32 => ?_))
   refine zH ?_
   refine zD rfl ?_
   refine zB ?_
   refine hK32 _ _ (wp_ret (zb (zO ( ?_))))
   refine ret1 rfl hd (zA hN rfl) ⟨_, rfl, ?_⟩
   rw [show tabAt (D.map DTab.t) f.tb = some d8.t from ht8]
   have e9 : updE d8.t f = 24 := updE_2 c26 (.inl c29)
   simp only []; rw [e9]; exact ⟨hb, rfl⟩
  refine zG (zA hN rfl) ?_
  refine zS (j := 2) (dj := 30) (b := false) rfl rfl rfl (zA hN rfl) ?_
  refine zM fld55_1 (zA hN rfl) ?_
  refine zS (j := 2) (dj := 30) (b := false) rfl rfl rfl (zA hN rfl) ?_
  refine zN (v := d8.cv) one41 (zA hN rfl) (hB18.cell rfl) ?_
  refine zS (j := 2) (dj := 30) (b := false) rfl rfl rfl (zA hN rfl) ?_
  refine zG (zA hN rfl) ?_
  refine zS (j := 2) (dj := 30) (b := false) rfl rfl rfl (zA hN rfl) ?_
  refine zh slt41 (zA hN rfl) hO8.rdw (zA hN rfl) zx zx ?_
  intro b33 o34 h0b33 h1b33 hc35
  refine zS (j := 2) (dj := 30) (b := false) rfl rfl rfl (zA hN rfl) ?_
  refine zM fld68_2 (zA hN rfl) ?_
  refine zS (j := 2) (dj := 30) (b := false) rfl rfl rfl (zA hN rfl) ?_
  refine zN (v := (Value.string (bs (d8.t.cols.getD (colIx d8.t.cols f.nm).toNat default).ref))) one9 (zA hN rfl) (hc35 2 ((.string (bs (d8.t.cols.getD (colIx d8.t.cols f.nm).toNat default).ref))) zz ((el_pc (i := (colIx d8.t.cols f.nm).toNat) zx zx) 2 ((.string (bs (d8.t.cols.getD (colIx d8.t.cols f.nm).toNat default).ref))) rfl)) ?_
  refine zS (j := 2) (dj := 30) (b := false) rfl rfl rfl (zA hN rfl) ?_
  refine op_sneq (zA hN rfl) rfl (fun c37 => ?_) (fun c37 => ?_)
  ·
   refine zd (zA hN rfl) (zA hN rfl) ?_
   refine zD (zA hN rfl) ?_
   refine zB ?_
   refine hK31 _ _ (wp_cond_true (zA hN rfl) (zF fun K36 hK36 => ?_))
   refine zH ?_
   refine zD rfl ?_
   refine zB ?_
   refine hK36 _ _ (wp_ret (zb (zO ( ?_))))
   refine ret1 rfl hd (zA hN rfl) ⟨_, rfl, ?_⟩
   rw [show tabAt (D.map DTab.t) f.tb = some d8.t from ht8]
   have e9 : updE d8.t f = 24 := updE_2 c26 (.inr c37)
   simp only []; rw [e9]; exact ⟨hb, rfl⟩
  refine zd (zA hN rfl) (zA hN rfl) ?_
  refine zD (zA hN rfl) ?_
  refine zB ?_
  refine hK31 _ _ (wp_cond_false (zA hN rfl) (wp_skip (hK27 _ _ (zF fun K37 hK37 => ?_))))
  refine zF fun K38 hK38 => ?_
  refine reg_quiet (Φ := phiL [(fun uz _ => uz = (ptr l 0)), (fun uz _ => uz = (ptr b3 5)), (fun uz _ => uz = f.vv), (fun uz w' => ∃ (b39 : (Nat)) (o40 : (Nat)), uz = (ptr b39 o40) ∧ PtC w' 0 B b39 o40 [(.int .i64 (f.vals.getD 0 default).op), (.int .i64 (f.vals.getD 0 default).vk), (.int .i64 (f.vals.getD 0 default).vi), (.string (bs (f.vals.getD 0 default).vt)), (.string (bs (f.vals.getD 0 default).tb)), (.string (bs (f.vals.getD 0 default).nm)), (f.vals.getD 0 default).av]), (fun uz _ => uz = (.agg #[(.int .i64 (f.vals.getD 0 default).op), (.int .i64 (f.vals.getD 0 default).vk), (.int .i64 (f.vals.getD 0 default).vi), (.string (bs (f.vals.getD 0 default).vt)), (.string (bs (f.vals.getD 0 default).tb)), (.string (bs (f.vals.getD 0 default).nm)), (f.vals.getD 0 default).av])), (fun uz _ => uz = (ptr b16 1)), (fun uz _ => uz = d8.cv), (fun uz _ => uz = (.int .i64 (colIx d8.t.cols f.nm))), (fun uz w' => ∃ (b43 : (Nat)) (o44 : (Nat)), uz = (ptr b43 o44) ∧ PtC w' b43 (b43 + 1) b43 o44 [(.string (bs (d8.t.cols.getD (colIx d8.t.cols f.nm).toNat default).nm)), (.int .i64 (d8.t.cols.getD (colIx d8.t.cols f.nm).toNat default).kind), (.string (bs (d8.t.cols.getD (colIx d8.t.cols f.nm).toNat default).ref))]), (fun uz w' => ∃ (y39 : (Nat)) (y40 : (Nat)), uz = (ptr y39 (y40 + 1)) ∧ PtC w' y39 (y39 + 1) y39 y40 [(.string (bs (d8.t.cols.getD (colIx d8.t.cols f.nm).toNat default).nm)), (.int .i64 (d8.t.cols.getD (colIx d8.t.cols f.nm).toNat default).kind), (.string (bs (d8.t.cols.getD (colIx d8.t.cols f.nm).toNat default).ref))]), (fun uz _ => uz = (.int .i64 (d8.t.cols.getD (colIx d8.t.cols f.nm).toNat default).kind)), (fun uz _ => uz = (.int .i64 (mustX (([] : List PItm) ++ colsOf f.tb d8.t.cols) (([] : List Int) ++ kindsOf d8.t.cols) (f.vals.getD 0 default) ((d8.t.cols.getD (colIx d8.t.cols f.nm).toNat default).kind)))), (fun uz _ => uz = (.int .i64 (mustX (([] : List PItm) ++ colsOf f.tb d8.t.cols) (([] : List Int) ++ kindsOf d8.t.cols) (f.vals.getD 0 default) ((d8.t.cols.getD (colIx d8.t.cols f.nm).toNat default).kind))))]) mixed zy zy zy hN (StL.get (StL.eq (StL.eq (StL.eq (StL.cons (fun u w1 w2 E h => by obtain ⟨x0, x1, hv, f0⟩ := h; exact ⟨x0, x1, hv, f0.keep0 E⟩) (StL.eq (StL.eq (StL.eq (StL.eq (StL.cons (fun u w1 w2 E h => by obtain ⟨x0, x1, hv, f0⟩ := h; exact ⟨x0, x1, hv, f0.keep0 E⟩) (StL.cons (fun u w1 w2 E h => by obtain ⟨x0, x1, hv, f0⟩ := h; exact ⟨x0, x1, hv, f0.keep0 E⟩) (StL.eq (StL.eq (StL.eq (StL.nil _))))))))))))))) (ObL.get (s := 13) (ObL.cons ?_ (ObL.cons ?_ (ObL.cons ?_ (ObL.cons ?_ (ObL.cons ?_ (ObL.cons ?_ (ObL.cons ?_ (ObL.cons ?_ (ObL.cons ?_ (ObL.cons ?_ (ObL.cons ?_ (ObL.cons ?_ (ObL.cons ?_ (ObL.nil)))))))))))))) rfl) ?_
  ·
   intro aA wA hNA hRA hbsA hdpA
   have qA_0 := (hbsA 0 rfl).trans (zL hN rfl s0)
   refine zG (zC hNA rfl qA_0) ?_
   exact obN_end rfl rfl (grown_refl _ _)
  ·
   intro aA wA hNA hRA hbsA hdpA
   have qA_3 := (hbsA 3 rfl).trans (zU hN rfl)
   refine zM fld45_5 (zC hNA rfl qA_3) ?_
   exact obN_end rfl rfl (grown_refl _ _)
  ·
   intro aA wA hNA hRA hbsA hdpA
   have hRA : w25.grownBy wA none := hRA
   have := hRA.size
   have hB5 := hB5.keep0 hRA
   have qA_40 : Sl aA 40 (ptr b3 5) := hdpA 1 _ 40 zy rfl rfl
   clear hbsA hdpA
   refine zN (v := f.vv) one26 (zC hNA rfl qA_40) (hB5.cell rfl) ?_
   exact obN_end rfl rfl (grown_refl _ _)
  ·
   intro aA wA hNA hRA hbsA hdpA
   have hRA : w25.grownBy wA none := hRA
   have := hRA.size
   have hfvR := hfvR.keep0 hRA
   have qA_41 : Sl aA 41 f.vv := hdpA 2 _ 41 zy rfl rfl
   clear hbsA hdpA
   refine zh slt26 (zC hNA rfl qA_41) hfvR rfl zx zx ?_
   intro b42 o43 h0b42 h1b42 hc44
   have hp45 : PtC wA 0 B b42 o43 [(.int .i64 (f.vals.getD 0 default).op), (.int .i64 (f.vals.getD 0 default).vk), (.int .i64 (f.vals.getD 0 default).vi), (.string (bs (f.vals.getD 0 default).vt)), (.string (bs (f.vals.getD 0 default).tb)), (.string (bs (f.vals.getD 0 default).nm)), (f.vals.getD 0 default).av] := ⟨by omega, by omega, fun j u hu => hc44 j u (by have := (List.getElem?_eq_some_iff.1 hu).1; simpa using this) ((el_xe (i := 0) zx zx) j u hu)⟩
   exact obN_end rfl ⟨b42, o43, rfl, hp45⟩ (grown_refl _ _)
  ·
   intro aA wA hNA hRA hbsA hdpA
   have hRA : w25.grownBy wA none := hRA
   have := hRA.size
   obtain ⟨b39, o40, qA_42, hp42⟩ := hdpA 3 _ 42 zy rfl rfl
   have hp42 : PtC wA 0 B b39 o40 [(.int .i64 (f.vals.getD 0 default).op), (.int .i64 (f.vals.getD 0 default).vk), (.int .i64 (f.vals.getD 0 default).vi), (.string (bs (f.vals.getD 0 default).vt)), (.string (bs (f.vals.getD 0 default).tb)), (.string (bs (f.vals.getD 0 default).nm)), (f.vals.getD 0 default).av] := hp42
   clear hbsA hdpA
   refine zX (cs := [(.int .i64 (f.vals.getD 0 default).op), (.int .i64 (f.vals.getD 0 default).vk), (.int .i64 (f.vals.getD 0 default).vi), (.string (bs (f.vals.getD 0 default).vt)), (.string (bs (f.vals.getD 0 default).tb)), (.string (bs (f.vals.getD 0 default).nm)), (f.vals.getD 0 default).av]) agg28 rfl (zC hNA rfl qA_42) (fun j u hu => hp42.2.2 j u hu) ?_
   exact obN_end rfl rfl (grown_refl _ _)
  ·
   intro aA wA hNA hRA hbsA hdpA
   have qA_5 := (hbsA 5 rfl).trans (zU hN rfl)
   refine zM fld55_1 (zC hNA rfl qA_5) ?_
   exact obN_end rfl rfl (grown_refl _ _)
  ·
   intro aA wA hNA hRA hbsA hdpA
   have hRA : w25.grownBy wA none := hRA
   have := hRA.size
   have hB18 := hB18.keep0 hRA
   have qA_44 : Sl aA 44 (ptr b16 1) := hdpA 5 _ 44 zy rfl rfl
   clear hbsA hdpA
   refine zN (v := d8.cv) one41 (zC hNA rfl qA_44) (hB18.cell rfl) ?_
   exact obN_end rfl rfl (grown_refl _ _)
  ·
   intro aA wA hNA hRA hbsA hdpA
   have qA_7 := (hbsA 7 rfl).trans (zU hN rfl)
   refine zG (zC hNA rfl qA_7) ?_
   exact obN_end rfl rfl (grown_refl _ _)
  ·
   intro aA wA hNA hRA hbsA hdpA
   have hRA : w25.grownBy wA none := hRA
   have := hRA.size
   have hO8 := hO8.keep0 hRA
   have qA_45 : Sl aA 45 d8.cv := hdpA 6 _ 45 zy rfl rfl
   have qA_46 : Sl aA 46 (.int .i64 (colIx d8.t.cols f.nm)) := hdpA 7 _ 46 zy rfl rfl
   clear hbsA hdpA
   refine zh slt41 (zC hNA rfl qA_45) hO8.rdw (zC hNA rfl qA_46) zx zx ?_
   intro b46 o47 h0b46 h1b46 hc48
   have hp49 : PtC wA b46 (b46 + 1) b46 o47 [(.string (bs (d8.t.cols.getD (colIx d8.t.cols f.nm).toNat default).nm)), (.int .i64 (d8.t.cols.getD (colIx d8.t.cols f.nm).toNat default).kind), (.string (bs (d8.t.cols.getD (colIx d8.t.cols f.nm).toNat default).ref))] := ⟨by omega, by omega, fun j u hu => hc48 j u (by have := (List.getElem?_eq_some_iff.1 hu).1; simpa using this) ((el_pc (i := (colIx d8.t.cols f.nm).toNat) zx zx) j u hu)⟩
   exact obN_end rfl ⟨b46, o47, rfl, hp49⟩ (grown_refl _ _)
  ·
   intro aA wA hNA hRA hbsA hdpA
   obtain ⟨b43, o44, qA_47, hp46⟩ := hdpA 8 _ 47 zy rfl rfl
   have hp46 : PtC wA b43 (b43 + 1) b43 o44 [(.string (bs (d8.t.cols.getD (colIx d8.t.cols f.nm).toNat default).nm)), (.int .i64 (d8.t.cols.getD (colIx d8.t.cols f.nm).toNat default).kind), (.string (bs (d8.t.cols.getD (colIx d8.t.cols f.nm).toNat default).ref))] := hp46
   refine zM fld68_1 (zC hNA rfl qA_47) ?_
   exact obN_end rfl ⟨b43, o44, rfl, hp46⟩ (grown_refl _ _)
  ·
   intro aA wA hNA hRA hbsA hdpA
   have hRA : w25.grownBy wA none := hRA
   have := hRA.size
   obtain ⟨y39, y40, qA_48, hy41⟩ := hdpA 9 _ 48 zy rfl rfl
   have hy41 : PtC wA y39 (y39 + 1) y39 y40 [(.string (bs (d8.t.cols.getD (colIx d8.t.cols f.nm).toNat default).nm)), (.int .i64 (d8.t.cols.getD (colIx d8.t.cols f.nm).toNat default).kind), (.string (bs (d8.t.cols.getD (colIx d8.t.cols f.nm).toNat default).ref))] := hy41
   clear hbsA hdpA
   refine zN (v := (Value.int .i64 (d8.t.cols.getD (colIx d8.t.cols f.nm).toNat default).kind)) one3 (zC hNA rfl qA_48) (hy41.2.2 1 _ rfl) ?_
   exact obN_end rfl rfl (grown_refl _ _)
  ·
   intro aA wA hNA hRA hbsA hdpA
   have hRA : w25.grownBy wA none := hRA
   have := hRA.size
   have hfv := hfv.keep0 hRA
   have hL8 := hL8.keepG (zi hRA NoB) (fun _ _ h => h)
   have qA_39 : Sl aA 39 (ptr l 0) := hdpA 0 _ 39 zy rfl rfl
   have qA_43 : Sl aA 43 (.agg #[(.int .i64 (f.vals.getD 0 default).op), (.int .i64 (f.vals.getD 0 default).vk), (.int .i64 (f.vals.getD 0 default).vi), (.string (bs (f.vals.getD 0 default).vt)), (.string (bs (f.vals.getD 0 default).tb)), (.string (bs (f.vals.getD 0 default).nm)), (f.vals.getD 0 default).av]) := hdpA 4 _ 43 zy rfl rfl
   have qA_49 : Sl aA 49 (.int .i64 (d8.t.cols.getD (colIx d8.t.cols f.nm).toNat default).kind) := hdpA 10 _ 49 zy rfl rfl
   clear hbsA hdpA
   refine zj ok70 (lkMust (f.vals.getD 0 default) ((d8.t.cols.getD (colIx d8.t.cols f.nm).toNat default).kind) zx hL8 zx zx ((hfv.2 (f.vals.getD 0 default) (getD_mem zx)).mono zx)) ⟨(zC hNA rfl qA_39), ⟨(zC hNA rfl qA_43), ⟨(zC hNA rfl qA_49), trivial⟩⟩⟩ ?_
   rintro _ w50 ⟨E51, rfl⟩
   have E51 := zQ E51
   have := E51.size
   exact obN_end rfl rfl (E51)
  ·
   intro aA wA hNA hRA hbsA hdpA
   have qA_50 : Sl aA 50 (.int .i64 (mustX (([] : List PItm) ++ colsOf f.tb d8.t.cols) (([] : List Int) ++ kindsOf d8.t.cols) (f.vals.getD 0 default) ((d8.t.cols.getD (colIx d8.t.cols f.nm).toNat default).kind))) := hdpA 11 _ 50 zy rfl rfl
   refine zD (zC hNA rfl qA_50) ?_
   exact obN_end rfl rfl (grown_refl _ _)
  intro a52 w52 hN52 hd52 hbs52 hph52 E52
  have hd52 := hd52.trans hd
  have s52_0 := (hbs52 0 rfl).trans (zL hN rfl s0)
  have s52_3 := (hbs52 3 rfl).trans (zU hN rfl)
  have s52_8 : Sl a52 8 (.int .i64 (mustX (([] : List PItm) ++ colsOf f.tb d8.t.cols) (([] : List Int) ++ kindsOf d8.t.cols) (f.vals.getD 0 default) ((d8.t.cols.getD (colIx d8.t.cols f.nm).toNat default).kind))) := hph52 12 _ 8 rfl rfl
  clear hbs52 hph52
  have E52 : w25.grownBy w52 none := E52
  have := E52.size
  have hfw := hfw.keep0 E52
  have hB5 := hB5.keep0 E52
  have hL8 := hL8.keepG (zi E52 NoB) (fun _ _ h => h)
  have hb := hb.step0 E52
  refine hK38 _ _ (zF fun K53 hK53 => ?_)
  refine zH ?_
  refine zG (zC hN52 rfl s52_8) ?_
  refine op_neq (zA hN52 rfl) rfl (fun c52 => ?_) (fun c52 => ?_)
  ·
   refine zB ?_
   refine hK53 _ _ (wp_cond_true (zA hN52 rfl) (zF fun K54 hK54 => ?_))
   refine zH ?_
   refine zG (zC hN52 rfl s52_8) ?_
   refine zD (zA hN52 rfl) ?_
   refine zB ?_
   refine hK54 _ _ (wp_ret (zO ( ?_)))
   refine ret1 rfl hd52 (zA hN52 rfl) ⟨_, rfl, ?_⟩
   rw [show tabAt (D.map DTab.t) f.tb = some d8.t from ht8]
   have e9 : updE d8.t f = (mustX (colsOf f.tb d8.t.cols) (kindsOf d8.t.cols) (f.vals.getD 0 default) (d8.t.cols.getD (colIx d8.t.cols f.nm).toNat default).kind) := updE_3 c26 (fun g => g.elim (fun g => c29 g) fun g => g c37) c52
   simp only []; rw [e9]; exact ⟨hb, rfl⟩
  refine zB ?_
  refine hK53 _ _ (wp_cond_false (zA hN52 rfl) (wp_skip (hK37 _ _ (zF fun K55 hK55 => ?_))))
  refine zH ?_
  refine zG (zC hN52 rfl s52_0) ?_
  refine zM fld45_9 (zC hN52 rfl s52_3) ?_
  refine zN (v := f.wv) one26 (zA hN52 rfl) (hB5.cell rfl) ?_
  refine zj ok46 (lkWhere zx hL8 zx zx (hfw.mono zx)) ⟨(zA hN52 rfl), ⟨(zA hN52 rfl), trivial⟩⟩ ?_
  rintro _ w56 ⟨E57, rfl⟩
  have E57 := zQ E57
  have := E57.size
  have hb := hb.step0 E57
  refine zD (zA hN52 rfl) ?_
  refine zB ?_
  refine hK55 _ _ (wp_ret ?_)
  refine ret1 rfl hd52 (zA hN52 rfl) ⟨_, rfl, ?_⟩
  rw [show tabAt (D.map DTab.t) f.tb = some d8.t from ht8]
  have e9 : updE d8.t f = (whereX (colsOf f.tb d8.t.cols) (kindsOf d8.t.cols) f.wh) := updE_4 c26 (fun g => g.elim (fun g => c29 g) fun g => g c37) c52
  simp only []; rw [e9]; exact ⟨hb, rfl⟩
 refine zj ok45 (lookTableF k13 (hT.mono zx) hD hsz zx h (by simp) (by simp)) ⟨(zA hN rfl), ⟨(zA hN rfl), trivial⟩⟩ ?_
 rintro _ w59 ⟨E60, rfl, F58, hL58, hN58⟩
 have bd61 := hB5.lt
 have := E60.size
 have hB5 := hB5.keepG E60 dj6
 have hb := hb.stepF E60 (fun _ _ q => q)
 refine zG (zA hN rfl) ?_
 refine zW (zA hN rfl) rfl ?_
 refine zW (zA hN rfl) rfl ?_
 refine op_alloc (cs := [(.string (bs [])), (.slice none 0 0), (.slice none 0 0)]) zero55 rfl ?_
 intro w63 b64 lo_b64 hi_b64 hB66 E65
 have := E65.size
 have hB5 := hB5.keep0 E65
 have hb := hb.step0 E65
 have hB66_old := hB66
 refine zZ size55 (zA hN rfl) (zA hN rfl) rfl rfl hB66 rfl ?_
 intro w70 hB66 E71
 have := E71.size
 have hB5 := hB5.keep E71 (sN hB5 hB66_old)
 have hb := hb.step1 E71 zx
 refine zD (zA hN rfl) ?_
 refine zB ?_
 refine hK7 _ _ (zF fun K72 hK72 => ?_)
 refine zH ?_
 refine zY agg55 rfl (zA hN rfl) hB66 ?_
 refine zM fld45_2 (zA hN rfl) ?_
 refine zN (v := (Value.string (bs f.nm))) one9 (zA hN rfl) (hB5.cell rfl) ?_
 refine zj ok58 (Column_ret [] [] _ (.slice none 0 0) f.nm _ ((RdC.nil _ 0 0 _).mono (Nat.zero_le _) zx)) ⟨(zA hN rfl), ⟨(zA hN rfl), trivial⟩⟩ ?_
 rintro _ w73 ⟨E74, rfl⟩
 have E74 := zQ E74
 have := E74.size
 have hb := hb.step0 E74
 refine zD (zA hN rfl) ?_
 refine zB ?_
 refine hK72 _ _ (zF fun K75 hK75 => ?_)
 refine wp_block ?_
 refine zF fun K76 hK76 => ?_
 refine zH ?_
 refine zG (zA hN rfl) ?_
 refine op_bin (v := .bool true) (zA hN rfl) rfl (by rw [binOp_neq]; rfl) (zD (zA hN rfl) ?_)
 refine zB ?_
 refine hK76 _ _ (wp_cond_true (zA hN rfl) (zF fun K77 hK77 => ?_))
 refine zH ?_
 refine zG (zA hN rfl) ?_
 refine zD (zA hN rfl) ?_
 refine zB ?_
 refine hK77 _ _ (wp_ret (zb (zO ( ?_))))
 refine ret1 rfl hd (zA hN rfl) ⟨_, rfl, ?_⟩
 have hn9 : tabAt (D.map DTab.t) f.tb = none := by cases hh : tabAt (D.map DTab.t) f.tb with
   | none => rfl
   | some u => rw [hh] at k13; cases k13
 rw [hn9]; exact ⟨hb, rfl⟩

theorem lkSel {tv : Value} {D : List DTab} {l B : Nat} {F : Nat → Prop} {f : StF} {nv : Value} {w : World} (hT : TsRd w B tv D) (hD : D.length ≤ 1000000) (hsz : ∀ d ∈ D, d.t.cols.length ≤ 1000000 ∧ d.t.idx.length ≤ 1000000) (hB : B ≤ w.heap.size) (h : LookR w B l tv (.slice none 0 0) [] [] F) (hfo : XsRd w B f.ov f.on) (hfw : XsRd w B f.wv f.wh) (hfr : XsRd w B f.rv f.ord) (hfi : RdC w 0 B 3 f.iv f.items.length (f.items.flatMap cellsI)) (hon : ¬ f.join = [] → f.on.length = 2) : Ret Try.prog 43 #[(ptr l 0), (.agg #[(.int .i64 f.kind), (.string (bs f.tb)), (.string (bs f.nm)), f.cv, f.gv, f.vv, f.iv, (.string (bs f.join)), f.ov, f.wv, f.rv, (.bool f.desc), nv])] w (fun v' w' => Gr w w' F ∧ v' = .int .i64 (selsE (D.map DTab.t) f)) := by
 have hR := hT.1
 have hltl := fun k hk => (h.lt k hk).2
 have hfoR := hfo.1
 have hfwR := hfw.1
 have hfrR := hfr.1
 have hsz9 : ∀ t ∈ D.map DTab.t, t.cols.length ≤ 1000000 ∧ t.idx.length ≤ 1000000 := fun t ht => by obtain ⟨d, hd, rfl⟩ := List.mem_map.1 ht; exact hsz d hd
 have hfil := rd_len hfi
 have hfrl := rd_len hfrR
 have hb := Gr.refl w F
 refine enter (N := 64) Try.func43 rfl rfl (by simp) fun a0 hN hd hA => ?_
 have s0 : a0.tmps.getD 0 undef = (ptr l 0) := hA 0 (by simp)
 have s1 : a0.tmps.getD 1 undef = (.agg #[(.int .i64 f.kind), (.string (bs f.tb)), (.string (bs f.nm)), f.cv, f.gv, f.vv, f.iv, (.string (bs f.join)), f.ov, f.wv, f.rv, (.bool f.desc), nv]) := hA 1 (by simp)
 clear hA
 refine zF fun K78 hK78 => ?_
 refine zH ?_
 refine op_box (cs := [(ptr l 0)]) (zC hN rfl s0) rfl ?_
 intro w79 b80 lo_b80 hi_b80 hB82 E81
 have dj83 : ¬ F b80 := fun hf => by have := (h.lt _ hf).2; omega
 have := E81.size
 have hT := hT.keep0 E81
 have h := h.keepG (zi E81 NoB) (fun _ _ h => h)
 have hfo := hfo.keep0 E81
 have hfw := hfw.keep0 E81
 have hfr := hfr.keep0 E81
 have hfrR := hfrR.keep0 E81
 have hfi := hfi.keep0 E81
 have hb := hb.step0 E81
 refine op_box (cs := [(.int .i64 f.kind), (.string (bs f.tb)), (.string (bs f.nm)), f.cv, f.gv, f.vv, f.iv, (.string (bs f.join)), f.ov, f.wv, f.rv, (.bool f.desc), nv]) (zC hN rfl s1) rfl ?_
 intro w84 b85 lo_b85 hi_b85 hB87 E86
 have dj88 : ¬ F b85 := fun hf => by have := (h.lt _ hf).2; omega
 have := E86.size
 have hT := hT.keep0 E86
 have h := h.keepG (zi E86 NoB) (fun _ _ h => h)
 have hfo := hfo.keep0 E86
 have hfw := hfw.keep0 E86
 have hfr := hfr.keep0 E86
 have hfrR := hfrR.keep0 E86
 have hfi := hfi.keep0 E86
 have hB82 := hB82.keep0 E86
 have hb := hb.step0 E86
 refine zD rfl ?_
 refine zB ?_
 refine hK78 _ _ (zF fun K89 hK89 => ?_)
 refine zF fun K90 hK90 => ?_
 refine zH ?_
 refine zN (v := (ptr l 0)) one90 (zA hN rfl) (hB82.cell rfl) ?_
 refine zM fld45_1 (zA hN rfl) ?_
 refine zN (v := (Value.string (bs f.tb))) one9 (zA hN rfl) (hB87.cell rfl) ?_
 rcases Bool.eq_false_or_eq_true ((tabAt (D.map DTab.t) f.tb).isSome) with k15 | k15
 ·
  refine zj ok45 (lookTableT k15 (hT.mono zx) hD hsz zx h (by simp) (by simp)) ⟨(zA hN rfl), ⟨(zA hN rfl), trivial⟩⟩ ?_
  rintro _ w92 ⟨E93, d91, rfl, ht91, hO91, hP91, F91, hL91, hN91⟩
  have bd96 := hB82.lt
  have bd97 := hB87.lt
  have h_old := h
  have := E93.size
  have hT := hT.keepG E93 (fun k hk => .inr (by have := h_old.lt k hk; omega))
  have hfo := hfo.keepG E93 (fun k hk => .inr (by have := h_old.lt k hk; omega))
  have hfw := hfw.keepG E93 (fun k hk => .inr (by have := h_old.lt k hk; omega))
  have hfr := hfr.keepG E93 (fun k hk => .inr (by have := h_old.lt k hk; omega))
  have hfrR := hfrR.keepG E93 (fun k hk => .inr (by have := h_old.lt k hk; omega))
  have hfi := hfi.keepG E93 (fun k hk => .inr (by have := h_old.lt k hk; omega))
  have hB82 := hB82.keepG E93 dj83
  have hB87 := hB87.keepG E93 dj88
  have hb := hb.stepF E93 (fun _ _ q => q)
  have dj98 : ¬ F91 b80 := ne_stepF hN91 bd96 dj83
  have dj99 : ¬ F91 b85 := ne_stepF hN91 bd97 dj88
  have hO91 := hO91.mono (base' := w.heap.size) zx
  have hP91 := hP91.mono (base' := w.heap.size) zx
  refine zG (zA hN rfl) ?_
  refine zW (zA hN rfl) rfl ?_
  refine zW (zA hN rfl) rfl ?_
  refine op_alloc (cs := [(.string (bs [])), (.slice none 0 0), (.slice none 0 0)]) zero55 rfl ?_
  intro w100 b101 lo_b101 hi_b101 hB103 E102
  have dj104 : ¬ F91 b101 := fun hf => by have := (hL91.lt _ hf).2; omega
  have := E102.size
  have hT := hT.keep0 E102
  have hfo := hfo.keep0 E102
  have hfw := hfw.keep0 E102
  have hfr := hfr.keep0 E102
  have hfrR := hfrR.keep0 E102
  have hfi := hfi.keep0 E102
  obtain ⟨hB82, hB87⟩ := kb2 E102 hB82 hB87
  have hL91 := hL91.keepG (zi E102 NoB) (fun _ _ h => h)
  have hO91 := hO91.keep0 E102
  have hP91 := hP91.keep0 E102
  have hb := hb.step0 E102
  have hB103_old := hB103
  refine zZ size55 (zA hN rfl) (zA hN rfl) rfl (by simp only [List.all_cons, List.all_nil, Bool.true_and, Bool.and_true, hO91.one, hP91.one]; try rfl) hB103 rfl ?_
  intro w107 hB103 E108
  have := E108.size
  have hT := hT.keep E108 sR
  have hfo := hfo.keep E108 sR
  have hfw := hfw.keep E108 sR
  have hfr := hfr.keep E108 sR
  have hfrR := hfrR.keep E108 sR
  have hfi := hfi.keep E108 sR
  have hB82 := hB82.keep E108 (sN hB82 hB103_old)
  have hB87 := hB87.keep E108 (sN hB87 hB103_old)
  have hL91 := hL91.keepG (Gr.of E108) (Dj.one dj104)
  have hO91 := hO91.keepX hB103_old E108 zz
  have hP91 := hP91.keepX hB103_old E108 zz
  have hb := hb.step1 E108 zx
  refine zD (zA hN rfl) ?_
  refine zB ?_
  refine hK90 _ _ (zF fun K109 hK109 => ?_)
  refine zH ?_
  refine zG (zA hN rfl) ?_
  refine op_bin (v := .bool false) (zA hN rfl) rfl (by rw [binOp_neq]; rfl) (zB ?_)
  refine hK109 _ _ (wp_cond_false (zA hN rfl) (wp_skip (hK89 _ _ (zF fun K110 hK110 => ?_))))
  refine zF fun K111 hK111 => ?_
  refine zH ?_
  have hdl := (hsz9 _ (tab_mem ht91)).1
  have hcl9 : ([] ++ colsOf f.tb d91.t.cols).length = d91.t.cols.length := by rw [List.nil_append, cols_len]
  have hkl9 : ([] ++ kindsOf d91.t.cols).length = d91.t.cols.length := by rw [List.nil_append, kinds_len]
  refine zN (v := (ptr l 0)) one90 (zA hN rfl) (hB82.cell rfl) ?_
  refine zY agg45 rfl (zA hN rfl) hB87 ?_
  refine zj ok71 (lkJoin (hT.mono zx) hD hsz zx hL91 zx zx (hfo.mono zx) hon) ⟨(zA hN rfl), ⟨(zA hN rfl), trivial⟩⟩ ?_
  rintro _ w113 ⟨E114, rfl, C112, K112, F112, hL112, hN112, hE112⟩
  have bd115 := hB82.lt
  have bd116 := hB87.lt
  have bd117 := hO91.lt
  have bd118 := hP91.lt
  have bd119 := hB103.lt
  have hL91_old := hL91
  have := E114.size
  have hfw := hfw.keepG E114 (fun k hk => .inr (by have := hL91_old.lt k hk; omega))
  have hfr := hfr.keepG E114 (fun k hk => .inr (by have := hL91_old.lt k hk; omega))
  have hfrR := hfrR.keepG E114 (fun k hk => .inr (by have := hL91_old.lt k hk; omega))
  have hfi := hfi.keepG E114 (fun k hk => .inr (by have := hL91_old.lt k hk; omega))
  have hB82 := hB82.keepG E114 dj98
  have hB87 := hB87.keepG E114 dj99
  have hb := hb.stepF E114 (fun k hk h => (hN91 k h).elim (fun h => (fun _ _ q => q) k hk h) fun q => absurd q zx)
  refine zD (zA hN rfl) ?_
  refine zB ?_
  refine hK111 _ _ (zF fun K125 hK125 => ?_)
  refine zH ?_
  refine zG (zA hN rfl) ?_
  refine op_neq (zA hN rfl) rfl (fun c25 => ?_) (fun c25 => ?_)
  ·
   refine zB ?_
   refine hK125 _ _ (wp_cond_true (zA hN rfl) (zF fun K126 hK126 => ?_))
   refine zH ?_
   refine zG (zA hN rfl) ?_
   refine zD (zA hN rfl) ?_
   refine zB ?_
   refine hK126 _ _ (wp_ret (zO ( ?_)))
   refine ret1 rfl hd (zA hN rfl) ⟨_, rfl, ?_⟩
   have e9 : selsE (D.map DTab.t) f = (joinE (D.map DTab.t) f (colsOf f.tb d91.t.cols) (kindsOf d91.t.cols)) := by rw [selsE_some ht91, if_pos (show (joinE (D.map DTab.t) f (colsOf f.tb d91.t.cols) (kindsOf d91.t.cols)) ≠ 0 from c25)]
   rw [e9]; exact ⟨hb, rfl⟩
  refine zB ?_
  refine hK125 _ _ (wp_cond_false (zA hN rfl) (wp_skip (hK110 _ _ (zF fun K127 hK127 => ?_))))
  refine zF fun K128 hK128 => ?_
  refine zH ?_
  obtain ⟨hC9, hK9⟩ := hE112 c25
  simp only [List.nil_append] at hC9 hK9 c25
  subst hC9; subst hK9
  have hcl8 := @joinC_le (D.map DTab.t) f (colsOf f.tb d91.t.cols) _ (fun t ht => (hsz9 t ht).1)
  have hkl8 := @joinK_le (D.map DTab.t) f (kindsOf d91.t.cols) _ (fun t ht => (hsz9 t ht).1)
  have hcl7 := @cols_len f.tb d91.t.cols
  have hkl7 := @kinds_len d91.t.cols
  refine zM fld45_6 (zA hN rfl) ?_
  refine zN (v := f.iv) one22 (zA hN rfl) (hB87.cell rfl) ?_
  refine zN (v := (ptr l 0)) one90 (zA hN rfl) (hB82.cell rfl) ?_
  refine op_mkfn1 (fv := [(ptr l 0)]) (cv := []) ⟨(zA hN rfl), trivial⟩ trivial ?_
  refine zj ok72 (FoldI (g := 73) (fs := [(ptr l 0)]) (cs := []) (R := (itemE (joinC (D.map DTab.t) f (colsOf f.tb d91.t.cols)) (joinK (D.map DTab.t) f (kindsOf d91.t.cols)))) (hfi.mono (Nat.zero_le _) zx) ok73 (fun i hi w1 E9 => lkItem (f.items.getD i default) (by have := E9.size; omega) (hL112.keepG (zi (zQ E9) NoB) (fun _ _ h => h)) zx zx)) ⟨(zA hN rfl), ⟨(zA hN rfl), trivial⟩⟩ ?_
  rintro _ w129 ⟨E130, rfl⟩
  have E130 := zQ E130
  have := E130.size
  have hfw := hfw.keep0 E130
  have hfr := hfr.keep0 E130
  have hfrR := hfrR.keep0 E130
  have hfi := hfi.keep0 E130
  obtain ⟨hB82, hB87⟩ := kb2 E130 hB82 hB87
  have hL112 := hL112.keepG (zi E130 NoB) (fun _ _ h => h)
  have hb := hb.step0 E130
  refine zD (zA hN rfl) ?_
  refine zB ?_
  refine hK128 _ _ (zF fun K131 hK131 => ?_)
  refine zH ?_
  refine zG (zA hN rfl) ?_
  refine op_neq (zA hN rfl) rfl (fun c33 => ?_) (fun c33 => ?_)
  ·
   refine zB ?_
   refine hK131 _ _ (wp_cond_true (zA hN rfl) (zF fun K132 hK132 => ?_))
   refine zH ?_
   refine zG (zA hN rfl) ?_
   refine zD (zA hN rfl) ?_
   refine zB ?_
   refine hK132 _ _ (wp_ret (zO ( ?_)))
   refine ret1 rfl hd (zA hN rfl) ⟨_, rfl, ?_⟩
   have e9 : selsE (D.map DTab.t) f = (firstE (f.items.map (itemE (joinC (D.map DTab.t) f (colsOf f.tb d91.t.cols)) (joinK (D.map DTab.t) f (kindsOf d91.t.cols))))) := by rw [selsE_some ht91, if_neg (fun g => g c25)]; exact selE_1 c33
   rw [e9]; exact ⟨hb, rfl⟩
  refine zB ?_
  refine hK131 _ _ (wp_cond_false (zA hN rfl) (wp_skip (hK127 _ _ (zF fun K133 hK133 => ?_))))
  refine zF fun K134 hK134 => ?_
  refine zH ?_
  refine zM fld45_6 (zA hN rfl) ?_
  refine zN (v := f.iv) one22 (zA hN rfl) (hB87.cell rfl) ?_
  refine zj ok74 (aggs_ret (hfi.mono (Nat.zero_le _) zx)) ⟨(zA hN rfl), trivial⟩ ?_
  rintro _ w135 ⟨E136, rfl⟩
  have E136 := zQ E136
  have := E136.size
  have hfw := hfw.keep0 E136
  have hfr := hfr.keep0 E136
  have hfrR := hfrR.keep0 E136
  have hfi := hfi.keep0 E136
  obtain ⟨hB82, hB87⟩ := kb2 E136 hB82 hB87
  have hL112 := hL112.keepG (zi E136 NoB) (fun _ _ h => h)
  have hb := hb.step0 E136
  refine zD (zA hN rfl) ?_
  refine zB ?_
  refine hK134 _ _ (zF fun K137 hK137 => ?_)
  refine zH ?_
  refine zG (zA hN rfl) ?_
  refine op_gtr (zA hN rfl) rfl (fun c39 => ?_) (fun c39 => ?_)
  ·
   refine zG (zA hN rfl) ?_
   refine zS (j := 2) (dj := 40) (b := true) rfl rfl rfl (zA hN rfl) ?_
   refine zG (zA hN rfl) ?_
   refine zS (j := 2) (dj := 40) (b := true) rfl rfl rfl (zA hN rfl) ?_
   refine zM fld45_6 (zA hN rfl) ?_
   refine zS (j := 2) (dj := 40) (b := true) rfl rfl rfl (zA hN rfl) ?_
   refine zN (v := f.iv) one22 (zA hN rfl) (hB87.cell rfl) ?_
   refine zS (j := 2) (dj := 40) (b := true) rfl rfl rfl (zA hN rfl) ?_
   refine op_len_rd Try.underlying22 (zA hN rfl) hfi ?_
   refine zS (j := 2) (dj := 40) (b := true) rfl rfl rfl (zA hN rfl) ?_
   refine op_lss (zA hN rfl) (zA hN rfl) (fun c45 => ?_) (fun c45 => ?_)
   ·
    refine zS (j := 2) (dj := 40) (b := true) rfl rfl rfl (zA hN rfl) ?_
    refine zG (zA hN rfl) ?_
    refine zR (j := 8) (dj := 46) (b := false) rfl rfl rfl (zA hN rfl) rfl rfl ?_
    refine zR (j := 8) (dj := 46) (b := false) rfl rfl rfl (zA hN rfl) rfl rfl ?_
    refine zR (j := 8) (dj := 46) (b := false) rfl rfl rfl (zA hN rfl) rfl rfl ?_
    refine zR (j := 8) (dj := 46) (b := false) rfl rfl rfl (zA hN rfl) rfl rfl ?_
    refine zS (j := 2) (dj := 40) (b := true) rfl rfl rfl (zA hN rfl) ?_
    refine zc (zA hN rfl) rfl ?_
    refine zc (zA hN rfl) (zA hN rfl) ?_
    refine zB ?_
    refine hK137 _ _ (wp_cond_true (zA hN rfl) (zF fun K138 hK138 => ?_))
    refine zH ?_
    refine zD rfl ?_
    refine zB ?_
    refine hK138 _ _ (wp_ret (zO ( ?_)))
    refine ret1 rfl hd (zA hN rfl) ⟨_, rfl, ?_⟩
    have e9 : selsE (D.map DTab.t) f = 11 := by rw [selsE_some ht91, if_neg (fun g => g c25)]; exact selE_2 c33 zx
    rw [e9]; exact ⟨hb, rfl⟩
   refine zS (j := 2) (dj := 40) (b := true) rfl rfl rfl (zA hN rfl) ?_
   refine zG (zA hN rfl) ?_
   refine zS (j := 8) (dj := 46) (b := false) rfl rfl rfl (zA hN rfl) ?_
   refine zM fld45_10 (zA hN rfl) ?_
   refine zS (j := 8) (dj := 46) (b := false) rfl rfl rfl (zA hN rfl) ?_
   refine zN (v := f.rv) one26 (zA hN rfl) (hB87.cell rfl) ?_
   refine zS (j := 8) (dj := 46) (b := false) rfl rfl rfl (zA hN rfl) ?_
   refine op_len_rd Try.underlying26 (zA hN rfl) hfrR ?_
   refine zS (j := 8) (dj := 46) (b := false) rfl rfl rfl (zA hN rfl) ?_
   refine op_gtr (zA hN rfl) rfl (fun c50 => ?_) (fun c50 => ?_)
   ·
    refine zS (j := 2) (dj := 40) (b := true) rfl rfl rfl (zA hN rfl) ?_
    refine zd (zA hN rfl) (zA hN rfl) ?_
    refine zc (zA hN rfl) (zA hN rfl) ?_
    refine zB ?_
    refine hK137 _ _ (wp_cond_true (zA hN rfl) (zF fun K139 hK139 => ?_))
    refine zH ?_
    refine zD rfl ?_
    refine zB ?_
    refine hK139 _ _ (wp_ret (zO ( ?_)))
    refine ret1 rfl hd (zA hN rfl) ⟨_, rfl, ?_⟩
    have e9 : selsE (D.map DTab.t) f = 11 := by rw [selsE_some ht91, if_neg (fun g => g c25)]; exact selE_2 c33 zx
    rw [e9]; exact ⟨hb, rfl⟩
   refine zS (j := 2) (dj := 40) (b := true) rfl rfl rfl (zA hN rfl) ?_
   refine zd (zA hN rfl) (zA hN rfl) ?_
   refine zc (zA hN rfl) (zA hN rfl) ?_
   refine zB ?_
   refine hK137 _ _ (wp_cond_false (zA hN rfl) (wp_skip (hK133 _ _ (zF fun K140 hK140 => ?_))))
   refine zF fun K141 hK141 => ?_
   refine zH ?_
   refine zN (v := (ptr l 0)) one90 (zA hN rfl) (hB82.cell rfl) ?_
   refine zM fld45_9 (zA hN rfl) ?_
   refine zN (v := f.wv) one26 (zA hN rfl) (hB87.cell rfl) ?_
   refine zj ok46 (lkWhere zx hL112 zx zx (hfw.mono zx)) ⟨(zA hN rfl), ⟨(zA hN rfl), trivial⟩⟩ ?_
   rintro _ w142 ⟨E143, rfl⟩
   have E143 := zQ E143
   have := E143.size
   have hfr := hfr.keep0 E143
   obtain ⟨hB82, hB87⟩ := kb2 E143 hB82 hB87
   have hL112 := hL112.keepG (zi E143 NoB) (fun _ _ h => h)
   have hb := hb.step0 E143
   refine zD (zA hN rfl) ?_
   refine zB ?_
   refine hK141 _ _ (zF fun K144 hK144 => ?_)
   refine zH ?_
   refine zG (zA hN rfl) ?_
   refine op_neq (zA hN rfl) rfl (fun c58 => ?_) (fun c58 => ?_)
   ·
    refine zB ?_
    refine hK144 _ _ (wp_cond_true (zA hN rfl) (zF fun K145 hK145 => ?_))
    refine zH ?_
    refine zG (zA hN rfl) ?_
    refine zD (zA hN rfl) ?_
    refine zB ?_
    refine hK145 _ _ (wp_ret (zO ( ?_)))
    refine ret1 rfl hd (zA hN rfl) ⟨_, rfl, ?_⟩
    have e9 : selsE (D.map DTab.t) f = (whereX (joinC (D.map DTab.t) f (colsOf f.tb d91.t.cols)) (joinK (D.map DTab.t) f (kindsOf d91.t.cols)) f.wh) := by rw [selsE_some ht91, if_neg (fun g => g c25)]; exact selE_3 c33 zx c58
    rw [e9]; exact ⟨hb, rfl⟩
   refine zB ?_
   refine hK144 _ _ (wp_cond_false (zA hN rfl) (wp_skip (hK140 _ _ (zF fun K146 hK146 => ?_))))
   refine zH ?_
   refine zM fld45_10 (zA hN rfl) ?_
   refine zN (v := f.rv) one26 (zA hN rfl) (hB87.cell rfl) ?_
   refine op_mkfn (cv := [(ptr b80 0)]) ⟨(zA hN rfl), trivial⟩ ?_
   refine zj ok31 (FoldX (g := 75) (fs := []) (cs := [(ptr b80 0)]) (R := (fun e => (colAt (joinC (D.map DTab.t) f (colsOf f.tb d91.t.cols)) (joinK (D.map DTab.t) f (kindsOf d91.t.cols)) e.tb e.nm).2)) (hfr.mono zx) ok75 (fun i hi w1 E9 => lkSel1 (f.ord.getD i default) (by have := E9.size; omega) (hL112.keepG (zi (zQ E9) NoB) (fun _ _ h => h)) zx zx (((hfr.2 _ (getD_mem hi)).keep0 (zQ E9)).mono (by have := E9.size; omega)) (hB82.keep0 (zQ E9)))) ⟨(zA hN rfl), ⟨(zA hN rfl), trivial⟩⟩ ?_
   rintro _ w147 ⟨E148, rfl⟩
   have E148 := zQ E148
   have := E148.size
   have hb := hb.step0 E148
   refine zD (zA hN rfl) ?_
   refine zB ?_
   refine hK146 _ _ (wp_ret ?_)
   refine ret1 rfl hd (zA hN rfl) ⟨_, rfl, ?_⟩
   have e9 : selsE (D.map DTab.t) f = (firstE (f.ord.map fun e => (colAt (joinC (D.map DTab.t) f (colsOf f.tb d91.t.cols)) (joinK (D.map DTab.t) f (kindsOf d91.t.cols)) e.tb e.nm).2)) := by rw [selsE_some ht91, if_neg (fun g => g c25)]; exact selE_4 c33 zx c58
   rw [e9]; exact ⟨hb, rfl⟩
  refine zG (zA hN rfl) ?_
  refine zR (j := 2) (dj := 40) (b := true) rfl rfl rfl (zA hN rfl) rfl rfl ?_
  refine zR (j := 2) (dj := 40) (b := true) rfl rfl rfl (zA hN rfl) rfl rfl ?_
  refine zR (j := 2) (dj := 40) (b := true) rfl rfl rfl (zA hN rfl) rfl rfl ?_
  refine zR (j := 2) (dj := 40) (b := true) rfl rfl rfl (zA hN rfl) rfl rfl ?_
  refine zR (j := 2) (dj := 40) (b := true) rfl rfl rfl (zA hN rfl) rfl rfl ?_
  refine zR (j := 2) (dj := 40) (b := true) rfl rfl rfl (zA hN rfl) rfl rfl ?_
  refine g_undef (j := 8) (dj := 46) (b := false) rfl rfl rfl (zA hN rfl) rfl ?_
  refine g_undef (j := 8) (dj := 46) (b := false) rfl rfl rfl (zA hN rfl) rfl ?_
  refine g_undef (j := 8) (dj := 46) (b := false) rfl rfl rfl (zA hN rfl) rfl ?_
  refine g_undef (j := 8) (dj := 46) (b := false) rfl rfl rfl (zA hN rfl) rfl ?_
  refine zR (j := 2) (dj := 40) (b := true) rfl rfl rfl (zA hN rfl) rfl rfl ?_
  refine zd (zA hN rfl) rfl ?_
  refine zB ?_
  refine hK137 _ _ (wp_cond_false (zA hN rfl) (wp_skip (hK133 _ _ (zF fun K149 hK149 => ?_))))
  refine zF fun K150 hK150 => ?_
  refine zH ?_
  refine zN (v := (ptr l 0)) one90 (zA hN rfl) (hB82.cell rfl) ?_
  refine zM fld45_9 (zA hN rfl) ?_
  refine zN (v := f.wv) one26 (zA hN rfl) (hB87.cell rfl) ?_
  refine zj ok46 (lkWhere zx hL112 zx zx (hfw.mono zx)) ⟨(zA hN rfl), ⟨(zA hN rfl), trivial⟩⟩ ?_
  rintro _ w151 ⟨E152, rfl⟩
  have E152 := zQ E152
  have := E152.size
  have hfr := hfr.keep0 E152
  obtain ⟨hB82, hB87⟩ := kb2 E152 hB82 hB87
  have hL112 := hL112.keepG (zi E152 NoB) (fun _ _ h => h)
  have hb := hb.step0 E152
  refine zD (zA hN rfl) ?_
  refine zB ?_
  refine hK150 _ _ (zF fun K153 hK153 => ?_)
  refine zH ?_
  refine zG (zA hN rfl) ?_
  refine op_neq (zA hN rfl) rfl (fun c58 => ?_) (fun c58 => ?_)
  ·
   refine zB ?_
   refine hK153 _ _ (wp_cond_true (zA hN rfl) (zF fun K154 hK154 => ?_))
   refine zH ?_
   refine zG (zA hN rfl) ?_
   refine zD (zA hN rfl) ?_
   refine zB ?_
   refine hK154 _ _ (wp_ret (zO ( ?_)))
   refine ret1 rfl hd (zA hN rfl) ⟨_, rfl, ?_⟩
   have e9 : selsE (D.map DTab.t) f = (whereX (joinC (D.map DTab.t) f (colsOf f.tb d91.t.cols)) (joinK (D.map DTab.t) f (kindsOf d91.t.cols)) f.wh) := by rw [selsE_some ht91, if_neg (fun g => g c25)]; exact selE_3 c33 zx c58
   rw [e9]; exact ⟨hb, rfl⟩
  refine zB ?_
  refine hK153 _ _ (wp_cond_false (zA hN rfl) (wp_skip (hK149 _ _ (zF fun K155 hK155 => ?_))))
  refine zH ?_
  refine zM fld45_10 (zA hN rfl) ?_
  refine zN (v := f.rv) one26 (zA hN rfl) (hB87.cell rfl) ?_
  refine op_mkfn (cv := [(ptr b80 0)]) ⟨(zA hN rfl), trivial⟩ ?_
  refine zj ok31 (FoldX (g := 75) (fs := []) (cs := [(ptr b80 0)]) (R := (fun e => (colAt (joinC (D.map DTab.t) f (colsOf f.tb d91.t.cols)) (joinK (D.map DTab.t) f (kindsOf d91.t.cols)) e.tb e.nm).2)) (hfr.mono zx) ok75 (fun i hi w1 E9 => lkSel1 (f.ord.getD i default) (by have := E9.size; omega) (hL112.keepG (zi (zQ E9) NoB) (fun _ _ h => h)) zx zx (((hfr.2 _ (getD_mem hi)).keep0 (zQ E9)).mono (by have := E9.size; omega)) (hB82.keep0 (zQ E9)))) ⟨(zA hN rfl), ⟨(zA hN rfl), trivial⟩⟩ ?_
  rintro _ w156 ⟨E157, rfl⟩
  have E157 := zQ E157
  have := E157.size
  have hb := hb.step0 E157
  refine zD (zA hN rfl) ?_
  refine zB ?_
  refine hK155 _ _ (wp_ret ?_)
  refine ret1 rfl hd (zA hN rfl) ⟨_, rfl, ?_⟩
  have e9 : selsE (D.map DTab.t) f = (firstE (f.ord.map fun e => (colAt (joinC (D.map DTab.t) f (colsOf f.tb d91.t.cols)) (joinK (D.map DTab.t) f (kindsOf d91.t.cols)) e.tb e.nm).2)) := by rw [selsE_some ht91, if_neg (fun g => g c25)]; exact selE_4 c33 zx c58
  rw [e9]; exact ⟨hb, rfl⟩
 refine zj ok45 (lookTableF k15 (hT.mono zx) hD hsz zx h (by simp) (by simp)) ⟨(zA hN rfl), ⟨(zA hN rfl), trivial⟩⟩ ?_
 rintro _ w159 ⟨E160, rfl, F158, hL158, hN158⟩
 have bd161 := hB82.lt
 have bd162 := hB87.lt
 have := E160.size
 have hb := hb.stepF E160 (fun _ _ q => q)
 refine zG (zA hN rfl) ?_
 refine zW (zA hN rfl) rfl ?_
 refine zW (zA hN rfl) rfl ?_
 refine op_alloc (cs := [(.string (bs [])), (.slice none 0 0), (.slice none 0 0)]) zero55 rfl ?_
 intro w165 b166 lo_b166 hi_b166 hB168 E167
 have := E167.size
 have hb := hb.step0 E167
 refine zZ size55 (zA hN rfl) (zA hN rfl) rfl rfl hB168 rfl ?_
 intro w172 hB168 E173
 have := E173.size
 have hb := hb.step1 E173 zx
 refine zD (zA hN rfl) ?_
 refine zB ?_
 refine hK90 _ _ (zF fun K174 hK174 => ?_)
 refine zH ?_
 refine zG (zA hN rfl) ?_
 refine op_bin (v := .bool true) (zA hN rfl) rfl (by rw [binOp_neq]; rfl) (zB ?_)
 refine hK174 _ _ (wp_cond_true (zA hN rfl) (zF fun K175 hK175 => ?_))
 refine zH ?_
 refine zG (zA hN rfl) ?_
 refine zD (zA hN rfl) ?_
 refine zB ?_
 refine hK175 _ _ (wp_ret (zO ( ?_)))
 refine ret1 rfl hd (zA hN rfl) ⟨_, rfl, ?_⟩
 rw [selsE_none k15]; exact ⟨hb, rfl⟩

end Go.Proofs.Ythflnkfghogaoaa

namespace Go.Gx
structure DVw where
  nm : List UInt8
  sv : Value
  strip : List UInt16
  act : XS
instance : Inhabited DVw := ⟨⟨[], .slice none 0 0, [], default⟩⟩
def cellsW (d : DVw) : List Value := [.string (bs d.nm), d.sv, .int .i64 d.act.f.kind, .string (bs d.act.f.tb), .string (bs d.act.f.nm), d.act.f.cv, d.act.f.gv, d.act.f.vv, d.act.f.iv, .string (bs d.act.f.join), d.act.f.ov, d.act.f.wv, d.act.f.rv, .bool d.act.f.desc, d.act.nv]
theorem el_dv {l : List DVw} {e : Int} {i : Nat} (he : e = (i : Int)) (h : i < l.length) : ∀ j u, (cellsW (l.getD i default))[j]? = some u → (l.flatMap cellsW)[e.toNat * 15 + j]? = some u :=
  el_flat (f := cellsW) (d := default) (by decide) (fun _ _ => rfl) he h
theorem lists_on {f : StF} {n : Nat} (h : listsOk f n = true) (hk : f.kind = 6) : ¬ f.join = [] → f.on.length = 2 := fun hj => by
  unfold listsOk at h; rw [if_pos hk, if_neg hj] at h
  simp only [Bool.and_eq_true, decide_eq_true_eq] at h
  exact h.1.1.2
theorem lists_upd {f : StF} {n : Nat} (h : listsOk f n = true) (hk : f.kind = 7) : f.vals.length = 1 := by
  unfold listsOk at h; rw [if_neg (by omega), if_pos hk] at h
  simp only [Bool.and_eq_true, decide_eq_true_eq] at h
  exact h.2
theorem lists_in {f : StF} {n : Nat} (h : listsOk f n = true) (hk : f.kind = 3 ∨ f.kind = 4) : n = 1 := by
  unfold listsOk at h; rw [if_neg (by omega), if_neg (by omega), if_neg (by omega), if_pos hk] at h
  simpa using h
theorem check_bad {T : List PTab} {D : List (List UInt8)} {s : XS} (h : listsOk s.f s.inner.length = false) : checkE T D s = 1 := by rw [checkE_eq, if_pos h]
theorem check_flat {T : List PTab} {D : List (List UInt8)} {s : XS} (h : listsOk s.f s.inner.length = true) (hk : ¬ (s.f.kind = 3 ∨ s.f.kind = 4)) : checkE T D s = flatE T D s.f := by rw [checkE_eq, if_neg (by rw [h]; simp), if_neg hk]
theorem check_in {T : List PTab} {D : List (List UInt8)} {s : XS} (h : listsOk s.f s.inner.length = true) (hk : s.f.kind = 3 ∨ s.f.kind = 4) : checkE T D s = checkE T D (s.inner.getD 0 default) := by rw [checkE_eq, if_neg (by rw [h]; simp), if_pos hk]
end Go.Gx
namespace Go.Gx
theorem flat_ins {T : List PTab} {D : List (List UInt8)} {f : StF} (h : f.kind = 5) : flatE T D f = (match tabAt T f.tb with | none => 9 | some t => insE t f) := by unfold flatE; rw [if_pos h]; cases tabAt T f.tb <;> rfl
theorem flat_sel {T : List PTab} {D : List (List UInt8)} {f : StF} (h : f.kind = 6) : flatE T D f = selsE T f := by unfold flatE; rw [if_neg (by omega), if_pos h]
theorem flat_upd {T : List PTab} {D : List (List UInt8)} {f : StF} (h : f.kind = 7) : flatE T D f = (match tabAt T f.tb with | none => 9 | some t => updE t f) := by unfold flatE; rw [if_neg (by omega), if_neg (by omega), if_pos h]; cases tabAt T f.tb <;> rfl
theorem flat_del0 {T : List PTab} {D : List (List UInt8)} {f : StF} (h : f.kind = 8) (h2 : (tabAt T f.tb).isSome = false) : flatE T D f = 9 := by
  unfold flatE; rw [if_neg (by omega), if_neg (by omega), if_neg (by omega), if_pos h]
  cases hh : tabAt T f.tb with
  | none => rfl
  | some t => rw [hh] at h2; cases h2
theorem flat_del {T : List PTab} {D : List (List UInt8)} {f : StF} {t : PTab} (h : f.kind = 8) (h2 : tabAt T f.tb = some t) : flatE T D f = whereX (colsOf f.tb t.cols) (kindsOf t.cols) f.wh := by
  unfold flatE; rw [if_neg (by omega), if_neg (by omega), if_neg (by omega), if_pos h, h2]
theorem flat_call {T : List PTab} {f : StF} (h : f.kind = 13) : flatE T [] f = 22 := by
  unfold flatE; rw [if_neg (by omega), if_neg (by omega), if_neg (by omega), if_neg (by omega), if_pos h]; rfl
theorem flat_else {T : List PTab} {D : List (List UInt8)} {f : StF} (h : f.kind ≠ 5 ∧ f.kind ≠ 6 ∧ f.kind ≠ 7 ∧ f.kind ≠ 8 ∧ f.kind ≠ 13) : flatE T D f = 0 := by
  unfold flatE; rw [if_neg h.1, if_neg h.2.1, if_neg h.2.2.1, if_neg h.2.2.2.1, if_neg h.2.2.2.2]
end Go.Gx
namespace Go.Gx
def SsRd (w : World) (B : Nat) (L : List XS) : Prop := ∀ a ∈ L, SRd w B a
section
variable {w w' : World} {B B' : Nat} {L : List XS} {row : Option Nat} {F : Nat → Prop}
theorem SsRd.keep (h : SsRd w B L) (E : w.grownBy w' row) (hne : ∀ k, row = some k → k < 0 ∨ B ≤ k) : SsRd w' B L := fun a ha => (h a ha).keep E hne
theorem SsRd.keep0 (h : SsRd w B L) (E : w.grownBy w' none) : SsRd w' B L := h.keep E (by simp)
theorem SsRd.keepG (h : SsRd w B L) (E : Gr w w' F) (hn : ∀ k, F k → k < 0 ∨ B ≤ k) : SsRd w' B L := fun a ha => (h a ha).keepG E hn
end
end Go.Gx
