/- Walks, written by a program: what each function of the translation hands back. -/
import Derived.Test.YthflnkfghogaoaaB2
set_option linter.unusedVariables false
set_option linter.unusedSimpArgs false

namespace Go.Proofs.Ythflnkfghogaoaa
open Go.Gx Go.RowKit
attribute [local irreducible] wpList wpStill Code.wp Calls

theorem CloneL (l : List (UInt16)) (v : Value) (w : World) (hz : l.length ≤ 1000000000) (hl : RdC w 0 w.heap.size 1 v l.length (l.map u16v)) : Ret Try.prog 91 #[v] w (fun v' w' => Below w.heap.size w w' ∧ Own w' w.heap.size 74 1 v' l.length (l.map u16v)) := by
 have hb := Below.refl w.heap.size w
 refine enter (N := 8) Try.func91 rfl rfl (by simp) fun a0 hN hd hA => ?_
 have s0 : a0.tmps.getD 0 undef = v := hA 0 (by simp)
 clear hA
 refine zF fun K1 hK1 => ?_
 refine zH ?_
 refine zD rfl ?_
 refine zB ?_
 refine hK1 _ _ (zF fun K2 hK2 => ?_)
 refine zF fun K3 hK3 => ?_
 refine zH ?_
 refine zG (zC hN rfl s0) ?_
 refine op_eql_nil slt75 (zA hN rfl) rfl hl (fun c4 => ?_) ?_
 ·
  refine zB ?_
  refine hK3 _ _ (wp_cond_true (zA hN rfl) (zF fun K4 hK4 => ?_))
  refine zH ?_
  refine zD rfl ?_
  refine zB ?_
  refine hK4 _ _ (wp_ret (zO ( ?_)))
  refine ret1 rfl hd (zA hN rfl) ⟨_, rfl, ?_⟩
  exact ⟨hb, by rw [List.length_eq_zero_iff.1 c4]; exact Own.nil _ _ _ _⟩
 refine zB ?_
 refine hK3 _ _ (wp_cond_false (zA hN rfl) (wp_skip (hK2 _ _ (zF fun K5 hK5 => ?_))))
 refine zH ?_
 refine op_bslice (e := 74) (pv := []) (cs := []) trivial zy ?_
 intro w6 b7 lo_b7 hi_b7 hB9 E8
 have := E8.size
 have hl := hl.keep0 E8
 have hb := zP hb E8 hb.size
 refine zG (zC hN rfl s0) ?_
 have hP15 := (Own.ofBx (base := w.heap.size) (sz := 1) (n := 0) hB9 rfl zz zx)
 refine op_append slt75 (zA hN rfl) hP15 (zA hN rfl) (Src.ofRd Try.underlying75 zz hl (one_u16 _)) (by unfold maxLen; omega) zx hb.size ?_
 intro v10 w11 hO13 E12 hm14
 have := E12.size
 have hl := hl.keepO hP15 E12 zx
 have hb := below_stepO hb hP15 E12 hb.size zx
 have hO13 : Own w11 w.heap.size 74 1 v10 (0 + l.length) ((l).map u16v) := by simpa [u8v, u16v, sv, cellsI, cellsC, cellsX, cellsS] using hO13
 refine zD (zA hN rfl) ?_
 refine zB ?_
 refine hK5 _ _ (wp_ret ?_)
 refine ret1 rfl hd (zA hN rfl) ⟨_, rfl, ?_⟩
 exact ⟨hb, hO13.cast (by simp) (by simp)⟩

set_option maxHeartbeats 1000000 in
theorem twin_ret {tv vv : Value} {D : List DTab} {V : List DVw} {w : World} (hT : TsRd w w.heap.size tv D) (hD : D.length ≤ 1000000) (hsz : ∀ d ∈ D, d.t.cols.length ≤ 1000000 ∧ d.t.idx.length ≤ 1000000) (hV : VsFr w 0 w.heap.size vv V) : Ret Try.prog 60 #[(.agg #[tv, vv])] w (fun v' w' => Below w.heap.size w w' ∧ ∃ (tv' vv' : Value) (D' : List DTab) (V' : List DVw) (F' FV : Nat → Prop), v' = .agg #[tv', vv'] ∧ Own w' w.heap.size 55 3 tv' D'.length (D'.flatMap cellsT) ∧ TabsR w' w.heap.size D' F' ∧ D'.map DTab.t = D.map DTab.t ∧ Own w' w.heap.size 98 15 vv' V'.length (V'.flatMap cellsW) ∧ VsIn w' w.heap.size V' FV ∧ Dj (Bl vv') FV ∧ Dj (Bl tv') FV ∧ V'.length = V.length ∧ ∀ i, i < V.length → VSame (V.getD i default) (V'.getD i default)) := by
 have hR := hT.1
 have hVR := hV.1
 have hVz := hV.3
 have hb := Below.refl w.heap.size w
 refine enter (N := 53) Try.func60 rfl rfl (by simp) fun a0 hN hd hA => ?_
 have s0 : a0.tmps.getD 0 undef = (.agg #[tv, vv]) := hA 0 (by simp)
 clear hA
 refine zF fun K16 hK16 => ?_
 refine zH ?_
 refine op_box (cs := [tv, vv]) (zC hN rfl s0) rfl ?_
 intro w17 b18 lo_b18 hi_b18 hB20 E19
 have := E19.size
 have hR := hR.keep0 E19
 have hT := hT.keep0 E19
 have hVR := hVR.keep0 E19
 have hV := hV.keep0 E19
 have hb := zP hb E19 hb.size
 refine op_alloc (cs := [(.slice none 0 0), (.slice none 0 0)]) zero39 rfl ?_
 intro w21 b22 lo_b22 hi_b22 hB24 E23
 have := E23.size
 have hR := hR.keep0 E23
 have hT := hT.keep0 E23
 have hVR := hVR.keep0 E23
 have hV := hV.keep0 E23
 have hB20 := hB20.keep0 E23
 have hb := zP hb E23 hb.size
 refine zB ?_
 refine hK16 _ _ (zF fun K25 hK25 => ?_)
 refine zH ?_
 refine op_alloc (cs := [(.slice none 0 0), (.slice none 0 0)]) zero39 rfl ?_
 intro w26 b27 lo_b27 hi_b27 hB29 E28
 have := E28.size
 have hR := hR.keep0 E28
 have hT := hT.keep0 E28
 have hVR := hVR.keep0 E28
 have hV := hV.keep0 E28
 obtain ⟨hB20, hB24⟩ := kb2 E28 hB20 hB24
 have hb := zP hb E28 hb.size
 refine zB ?_
 refine hK25 _ _ (zF fun K30 hK30 => ?_)
 refine zF fun K31 hK31 => ?_
 refine zH ?_
 refine zM fld39_0 (zA hN rfl) ?_
 refine zN (v := tv) one36 (zA hN rfl) (hB20.cell rfl) ?_
 refine op_len_rd Try.underlying36 (zA hN rfl) hR ?_
 refine zG rfl ?_
 refine zB ?_
 refine hK31 _ _ (wp_block ?_)
 refine loop_m (fun mz_ az_ w' => ∃ (i : Nat) (lv : Value) (D2 : List DTab) (F0S : Nat → Prop), mz_ = D.length - i ∧ (az_.tmps.getD 1 undef = (ptr b18 0)) ∧ (az_.tmps.getD 2 undef = (ptr b22 0)) ∧ (az_.tmps.getD 3 undef = (ptr b27 0)) ∧ (az_.tmps.getD 9 undef = tv) ∧ (az_.tmps.getD 10 undef = (.int .i64 ((D.length : Nat) : Int))) ∧ (az_.tmps.getD 11 undef = (.int .i64 ((i : Nat) : Int))) ∧ (i ≤ D.length) ∧ (D2.length = i) ∧ (D2.map DTab.t = (D.take i).map DTab.t) ∧ (Below w.heap.size w w') ∧ (w26.heap.size ≤ w'.heap.size) ∧ (RdC w' 0 w.heap.size 3 tv D.length (D.flatMap cellsT)) ∧ (TsRd w' w.heap.size tv D) ∧ (RdC w' 0 w.heap.size 15 vv V.length (V.flatMap cellsW)) ∧ (VsFr w' 0 w.heap.size vv V) ∧ (Bx w' b18 39 [tv, vv]) ∧ (Bx w' b22 39 [(.slice none 0 0), (.slice none 0 0)]) ∧ (Bx w' b27 39 [lv, (.slice none 0 0)]) ∧ (TabsR w' w.heap.size D2 F0S) ∧ (Own w' w.heap.size 55 3 lv D2.length (D2.flatMap cellsT))) _ hN hd ⟨0, (.slice none 0 0), [], NoB, rfl, (zU hN rfl), (zU hN rfl), (zU hN rfl), (zU hN rfl), (zU hN rfl), (zU hN rfl), (Nat.zero_le _), rfl, rfl, hb, (Nat.le_refl _), hR, hT, hVR, hV, hB20, hB24, hB29, (TabsR.nil _ _), (Own.nil _ _ _ _)⟩ ?_
 rintro _ a32 w32 hN32 hd32 ⟨i, lv, D2, F0S, rfl, s32_1, s32_2, s32_3, s32_9, s32_10, s32_11, hi, hl2, hM, hb, zl_w32, hR, hT, hVR, hV, hB20, hB24, hxt, hS, hO33⟩
 have := hb.size
 refine zF fun K34 hK34 => ?_
 refine zH ?_
 refine op_lss (zC hN32 rfl s32_11) (zC hN32 rfl s32_10) (fun c12 => ?_) (fun c12 => ?_)
 ·
  refine zB ?_
  refine hK34 _ _ (zF fun K35 hK35 => ?_)
  refine wp_cond_true (zA hN32 rfl) (wp_skip (hK35 _ _ (zF fun K36 hK36 => ?_)))
  refine wp_block ?_
  refine zF fun K37 hK37 => ?_
  refine zH ?_
  refine zh slt36 (zC hN32 rfl s32_9) hR (zC hN32 rfl s32_11) zx zx ?_
  intro b38 o39 h0b38 h1b38 hc40
  refine zX (cs := [(.string (bs (D.getD i default).t.nm)), (D.getD i default).cv, (D.getD i default).iv]) agg55 rfl (zA hN32 rfl) (fun j u hu => hc40 j u (by have := (List.getElem?_eq_some_iff.1 hu).1; simpa using this) ((el_dt (i := i) zx zx) j u hu)) ?_
  refine op_alloc (cs := [(.string (bs [])), (.slice none 0 0), (.slice none 0 0)]) zero55 rfl ?_
  intro w41 b42 lo_b42 hi_b42 hB44 E43
  have dj45 : ¬ F0S b42 := fun hf => by have := (hS.lt _ hf).2; omega
  have ne_b42_lv : lv.ownBlock ≠ some b42 := fun hh => by have := (hO33.lt _ hh).2; omega
  have := E43.size
  have hR := hR.keep0 E43
  have hT := hT.keep0 E43
  have hVR := hVR.keep0 E43
  have hV := hV.keep0 E43
  have hxt := hxt.keep0 E43
  obtain ⟨hB20, hB24⟩ := kb2 E43 hB20 hB24
  have hS := hS.keepG (zi E43 NoB) (fun _ _ h => h)
  have hO33 := hO33.keep0 E43
  have hb := zP hb E43 hb.size
  have hB44_old := hB44
  refine zZ size55 (zA hN32 rfl) (zA hN32 rfl) rfl (by simp only [List.all_cons, List.all_nil, Bool.true_and, Bool.and_true, (hT.2 (D.getD i default) (getD_mem zx)).1.one, (hT.2 (D.getD i default) (getD_mem zx)).2.one]; try rfl) hB44 rfl ?_
  intro w48 hB44 E49
  have := E49.size
  have hR := hR.keep E49 sR
  have hT := hT.keep E49 sR
  have hVR := hVR.keep E49 sR
  have hV := hV.keep E49 sO
  have hB20 := hB20.keep E49 (sN hB20 hB44_old)
  have hB24 := hB24.keep E49 (sN hB24 hB44_old)
  have hxt := hxt.keep E49 (sN hxt hB44_old)
  have hS := hS.keepG (Gr.of E49) (Dj.one dj45)
  have hO33 := hO33.keep E49 (.inr ne_b42_lv)
  have hb := below_step1 hb E49 hb.size zx
  refine zB ?_
  refine hK37 _ _ (zF fun K50 hK50 => ?_)
  have hti := hT.2 (D.getD i default) (getD_mem zx)
  have htl := hsz (D.getD i default) (getD_mem zx)
  have htc := hti.1
  have htx := hti.2
  refine reg_split (hd := [_, _, _, _, _, _, _, _]) (tl := _) 8 mixed zy rfl rfl ?_
  refine any_treek (φ := phiV [(fun uz => uz = (ptr b42 1)), (fun uz => uz = (D.getD i default).cv), (fun _ => True), (fun uz => uz = (ptr b42 2)), (fun uz => uz = (D.getD i default).iv), (fun _ => True), (fun uz => uz = (ptr b42 1)), (fun _ => True)]) (G := fun t9 w' => 7 ∈ t9 → (Bx w' b42 55 [(.string (bs (D.getD i default).t.nm)), (D.getD i default).cv, (D.getD i default).iv])) [2, 5, 7] zy zy zy zy zy hN32 (fun _ w1 w2 E h hc9 => (h hc9).keep0 E) (fun _ => hB44) (ObRk9.cons ?_ (ObRk9.cons ?_ (ObRk9.pass rfl (ObRk9.cons ?_ (ObRk9.cons ?_ (ObRk9.pass rfl (ObRk9.cons ?_ (ObRk9.pass rfl (ObRk9.nil))))))))) (by simp only [putsL_defers]) ?_
  ·
   intro eA tA aA wA hNA hckA hGA hbsA hdpA
   have qA_5 := (hbsA 5 rfl).trans (zU hN32 rfl)
   refine zM fld55_1 (zC hNA rfl qA_5) ?_
   exact obTk_end rfl rfl
  ·
   intro eA tA aA wA hNA hckA hGA hbsA hdpA
   have qA_15 : Sl aA 15 (ptr b42 1) := (hdpA 0 _ 15 zy rfl rfl).2 rfl
   have hGA := hGA (hckA 7 rfl zy)
   refine zN (v := (D.getD i default).cv) one41 (zC hNA rfl qA_15) (hGA.cell rfl) ?_
   exact obTk_end rfl rfl
  ·
   intro eA tA aA wA hNA hckA hGA hbsA hdpA
   have qA_5 := (hbsA 5 rfl).trans (zU hN32 rfl)
   refine zM fld55_2 (zC hNA rfl qA_5) ?_
   exact obTk_end rfl rfl
  ·
   intro eA tA aA wA hNA hckA hGA hbsA hdpA
   have qA_18 : Sl aA 18 (ptr b42 2) := (hdpA 3 _ 18 zy rfl rfl).2 rfl
   have hGA := hGA (hckA 7 rfl zy)
   refine zN (v := (D.getD i default).iv) one53 (zC hNA rfl qA_18) (hGA.cell rfl) ?_
   exact obTk_end rfl rfl
  ·
   intro eA tA aA wA hNA hckA hGA hbsA hdpA
   have qA_5 := (hbsA 5 rfl).trans (zU hN32 rfl)
   refine zM fld55_1 (zC hNA rfl qA_5) ?_
   exact obTk_end rfl rfl
  refine ktk_step (rs := [2]) zy ?_
  refine one_mem ?_
  intro w52 E52 _ a52 hN52 hbs52 hdp52 o_ ho_; obtain rfl := zE ho_
  have := E52.size
  have hR := hR.keep0 E52
  have hT := hT.keep0 E52
  have hVR := hVR.keep0 E52
  have hV := hV.keep0 E52
  have hxt := hxt.keep0 E52
  obtain ⟨hB20, hB24⟩ := kb2 E52 hB20 hB24
  have hS := hS.keepG (zi E52 NoB) (fun _ _ h => h)
  have hO33 := hO33.keep0 E52
  have hB44 := hB44.keep0 E52
  have htc := htc.keep0 E52
  have htx := htx.keep0 E52
  have hb := zP hb E52 hb.size
  have q52_16 : Sl a52 16 (D.getD i default).cv := (hdp52 1 _ 16 zy rfl rfl).2 rfl
  refine zj ok89 (CloneC ((D.getD i default).t.cols) _ _ (by first | assumption | omega | (simp only [List.length_append, List.length_cons, List.length_nil, List.length_drop, List.length_take]; omega) | (dsimp only; omega) | decide | (simp [keyV, be8_len]; done)) (htc.mono (Nat.zero_le _) zx)) ⟨(zC hN52 rfl q52_16), trivial⟩ ?_
  rintro v53 w54 ⟨E55, hO53⟩
  have E55 := zQ E55
  have := E55.size
  have hR := hR.keep0 E55
  have hT := hT.keep0 E55
  have hVR := hVR.keep0 E55
  have hV := hV.keep0 E55
  have hxt := hxt.keep0 E55
  obtain ⟨hB20, hB24⟩ := kb2 E55 hB20 hB24
  have hS := hS.keepG (zi E55 NoB) (fun _ _ h => h)
  have hO33 := hO33.keep0 E55
  have hB44 := hB44.keep0 E55
  have htx := htx.keep0 E55
  have hb := zP hb E55 hb.size
  have hO53 := hO53.mono (base' := w.heap.size) zx
  refine ktk_end (G := fun t9 w' => 7 ∈ t9 → (Bx w' b42 55 [(.string (bs (D.getD i default).t.nm)), (D.getD i default).cv, (D.getD i default).iv])) (todo := [2, 5, 7]) (i := 2) rfl (fun _ => hB44) ?_
  refine ktk_step (rs := [5]) zy ?_
  refine one_mem ?_
  intro w58 E58 _ a58 hN58 hbs58 hdp58 o_ ho_; obtain rfl := zE ho_
  have := E58.size
  have hR := hR.keep0 E58
  have hT := hT.keep0 E58
  have hVR := hVR.keep0 E58
  have hV := hV.keep0 E58
  have hxt := hxt.keep0 E58
  obtain ⟨hB20, hB24⟩ := kb2 E58 hB20 hB24
  have hS := hS.keepG (zi E58 NoB) (fun _ _ h => h)
  have hO33 := hO33.keep0 E58
  have hB44 := hB44.keep0 E58
  have htx := htx.keep0 E58
  have hO53 := hO53.keep0 E58
  have hb := zP hb E58 hb.size
  have q58_19 : Sl a58 19 (D.getD i default).iv := (hdp58 4 _ 19 zy rfl rfl).2 rfl
  refine zj ok90 (CloneS ((D.getD i default).t.idx) _ _ (by first | assumption | omega | (simp only [List.length_append, List.length_cons, List.length_nil, List.length_drop, List.length_take]; omega) | (dsimp only; omega) | decide | (simp [keyV, be8_len]; done)) (htx.mono (Nat.zero_le _) zx)) ⟨(zC hN58 rfl q58_19), trivial⟩ ?_
  rintro v59 w60 ⟨E61, hO59⟩
  have E61 := zQ E61
  have := E61.size
  have hR := hR.keep0 E61
  have hT := hT.keep0 E61
  have hVR := hVR.keep0 E61
  have hV := hV.keep0 E61
  have hxt := hxt.keep0 E61
  obtain ⟨hB20, hB24⟩ := kb2 E61 hB20 hB24
  have hS := hS.keepG (zi E61 NoB) (fun _ _ h => h)
  have hO33 := hO33.keep0 E61
  have hB44 := hB44.keep0 E61
  have hO53 := hO53.keep0 E61
  have hb := zP hb E61 hb.size
  have hO59 := hO59.mono (base' := w.heap.size) zx
  refine ktk_end (G := fun t9 w' => 7 ∈ t9 → (Bx w' b42 55 [(.string (bs (D.getD i default).t.nm)), (D.getD i default).cv, (D.getD i default).iv])) (todo := [5, 7]) (i := 5) rfl (fun _ => hB44) ?_
  refine ktk_step (rs := [7]) zy ?_
  refine one_mem ?_
  intro w64 E64 _ a64 hN64 hbs64 hdp64 o_ ho_; obtain rfl := zE ho_
  have := E64.size
  have hR := hR.keep0 E64
  have hT := hT.keep0 E64
  have hVR := hVR.keep0 E64
  have hV := hV.keep0 E64
  have hxt := hxt.keep0 E64
  obtain ⟨hB20, hB24⟩ := kb2 E64 hB20 hB24
  have hS := hS.keepG (zi E64 NoB) (fun _ _ h => h)
  have hO33 := hO33.keep0 E64
  have hB44 := hB44.keep0 E64
  have hO53 := hO53.keep0 E64
  have hO59 := hO59.keep0 E64
  have hb := zP hb E64 hb.size
  have q64_21 : Sl a64 21 (ptr b42 1) := (hdp64 6 _ 21 zy rfl rfl).2 rfl
  have q64_17 : Sl a64 17 v53 := (zE ((hdp64 2 _ 17 zy rfl rfl).1 rfl)).symm
  have hB44_old := hB44
  refine za (vs := [v53]) (cs' := [(.string (bs (D.getD i default).t.nm)), v53, (D.getD i default).iv]) size41 (zC hN64 rfl q64_21) (zC hN64 rfl q64_17) hO53.cl rfl (by simp only [List.all_cons, List.all_nil, Bool.true_and, Bool.and_true, hO53.one]; try rfl) hB44 (zI rfl) rfl ?_
  intro w67 hB44 E68
  have := E68.size
  have hR := hR.keep E68 sR
  have hT := hT.keep E68 sR
  have hVR := hVR.keep E68 sR
  have hV := hV.keep E68 sO
  have hB20 := hB20.keep E68 (sN hB20 hB44_old)
  have hB24 := hB24.keep E68 (sN hB24 hB44_old)
  have hxt := hxt.keep E68 (sN hxt hB44_old)
  have hS := hS.keepG (Gr.of E68) (Dj.one dj45)
  have hO33 := hO33.keep E68 (.inr ne_b42_lv)
  have hO53 := hO53.keepX hB44_old E68 zz
  have hO59 := hO59.keepX hB44_old E68 zz
  have hb := below_step1 hb E68 hb.size zx
  refine ktk_end0 (G := fun t9 w' => 7 ∈ t9 → (Bx w' b42 55 [(.string (bs (D.getD i default).t.nm)), (D.getD i default).cv, (D.getD i default).iv])) (todo := [7]) (i := 7) rfl (fun h => absurd h zz) ?_
  intro w69 E69 a69 hN69 hd69 hbs69 hph69
  have hd69 := hd69.trans ((by simp only [putsL_defers] : _ = _).trans hd32)
  have := E69.size
  have hR := hR.keep0 E69
  have hT := hT.keep0 E69
  have hVR := hVR.keep0 E69
  have hV := hV.keep0 E69
  have hxt := hxt.keep0 E69
  obtain ⟨hB20, hB24⟩ := kb2 E69 hB20 hB24
  have hS := hS.keepG (zi E69 NoB) (fun _ _ h => h)
  have hO33 := hO33.keep0 E69
  have hO53 := hO53.keep0 E69
  have hO59 := hO59.keep0 E69
  have hB44 := hB44.keep0 E69
  have hb := zP hb E69 hb.size
  have s69_1 := (hbs69 1 rfl).trans (zL hN32 rfl s32_1)
  have s69_2 := (hbs69 2 rfl).trans (zL hN32 rfl s32_2)
  have s69_3 := (hbs69 3 rfl).trans (zL hN32 rfl s32_3)
  have s69_5 := (hbs69 5 rfl).trans (zU hN32 rfl)
  have s69_9 := (hbs69 9 rfl).trans (zL hN32 rfl s32_9)
  have s69_10 := (hbs69 10 rfl).trans (zL hN32 rfl s32_10)
  have s69_11 := (hbs69 11 rfl).trans (zL hN32 rfl s32_11)
  have s69_20 : Sl a69 20 v59 := (zE ((hph69 5 _ 20 rfl rfl).1 rfl)).symm
  refine split_end ?_
  refine from_seq (tl := [_, _]) zz zy rfl ?_
  refine zM fld55_2 (zC hN69 rfl s69_5) ?_
  have hB44_old := hB44
  refine za (vs := [v59]) (cs' := [(.string (bs (D.getD i default).t.nm)), v53, v59]) size53 (zA hN69 rfl) (zC hN69 rfl s69_20) hO59.cl rfl (by simp only [List.all_cons, List.all_nil, Bool.true_and, Bool.and_true, hO59.one]; try rfl) hB44 (zI rfl) rfl ?_
  intro w72 hB44 E73
  have := E73.size
  have hR := hR.keep E73 sR
  have hT := hT.keep E73 sR
  have hVR := hVR.keep E73 sR
  have hV := hV.keep E73 sO
  have hB20 := hB20.keep E73 (sN hB20 hB44_old)
  have hB24 := hB24.keep E73 (sN hB24 hB44_old)
  have hxt := hxt.keep E73 (sN hxt hB44_old)
  have hS := hS.keepG (Gr.of E73) (Dj.one dj45)
  have hO33 := hO33.keep E73 (.inr ne_b42_lv)
  have hO53 := hO53.keepX hB44_old E73 zz
  have hO59 := hO59.keepX hB44_old E73 zz
  have hb := below_step1 hb E73 hb.size zx
  refine zB ?_
  refine hK50 _ _ (zH ?_)
  refine zM fld39_0 (zC hN69 rfl s69_3) ?_
  refine zN (v := lv) one36 (zA hN69 rfl) (hxt.cell rfl) ?_
  refine zY agg55 rfl (zC hN69 rfl s69_5) hB44 ?_
  refine op_bslice (e := 55) (pv := [(0, (.agg #[(.string (bs (D.getD i default).t.nm)), v53, v59]))]) (cs := [(.string (bs (D.getD i default).t.nm)), v53, v59]) ⟨rfl, (zA hN69 rfl), trivial⟩ (by obtain ⟨_, _, _, rfl⟩ := hO53.sl; obtain ⟨_, _, _, rfl⟩ := hO59.sl; kernel_rfl) ?_
  intro w74 b75 lo_b75 hi_b75 hB77 E76
  have := E76.size
  have hR := hR.keep0 E76
  have hT := hT.keep0 E76
  have hVR := hVR.keep0 E76
  have hV := hV.keep0 E76
  have hxt := hxt.keep0 E76
  obtain ⟨hB20, hB24⟩ := kb2 E76 hB20 hB24
  have hS := hS.keepG (zi E76 NoB) (fun _ _ h => h)
  have hO33 := hO33.keep0 E76
  have hO53 := hO53.keep0 E76
  have hO59 := hO59.keep0 E76
  have hb := zP hb E76 hb.size
  have hP84 := hO33
  refine op_append slt36 (zA hN69 rfl) hP84 (zA hN69 rfl) (Src.ofRd Try.underlying36 zz (RdC.ofBx (sz := 3) (n := 1) hB77 rfl zz) (by simp only [List.all_cons, List.all_nil, Bool.true_and, Bool.and_true, hO53.one, hO59.one]; try rfl)) (by unfold maxLen; omega) zx hb.size ?_
  intro v79 w80 hO82 E81 hm83
  have := E81.size
  have hR := hR.keepO hP84 E81 zx
  have hT := hT.keepO hP84 E81 zx
  have hVR := hVR.keepO hP84 E81 zx
  have hV := hV.keepO hP84 E81 zx
  have hB20 := hB20.keepO hP84 E81 zz
  have hB24 := hB24.keepO hP84 E81 zz
  have hxt := hxt.keepO hP84 E81 zz
  have hS := hS.keepG (Gr.of E81) (hS.notOwn hP84 zz zz).symm
  have hO53 := hO53.keepT hP84 E81 zz
  have hO59 := hO59.keepT hP84 E81 zz
  have hb := below_stepO hb hP84 E81 hb.size zx
  have hO82 : Own w80 w.heap.size 55 3 v79 (D2 ++ [(DTab.mk (D.getD i default).t v53 v59)]).length (((D2 ++ [(DTab.mk (D.getD i default).t v53 v59)])).flatMap cellsT) := by exact hO82.cast (by simp) (by simp [cellsT])
  refine zM fld39_0 (zC hN69 rfl s69_3) ?_
  have hxt_old := hxt
  refine za (vs := [v79]) (cs' := [v79, (.slice none 0 0)]) size36 (zA hN69 rfl) (zA hN69 rfl) hO82.cl rfl (by simp only [List.all_cons, List.all_nil, Bool.true_and, Bool.and_true, hO82.one]; try rfl) hxt (zI rfl) rfl ?_
  intro w88 hxt E89
  have := E89.size
  have hR := hR.keep E89 sR
  have hT := hT.keep E89 sR
  have hVR := hVR.keep E89 sR
  have hV := hV.keep E89 sO
  have hB20 := hB20.keep E89 sB
  have hB24 := hB24.keep E89 sB
  have hS := hS.keepG (Gr.of E89) (Dj.one (hS.notBx hxt_old zz zz))
  have hO53 := hO53.keepX hxt_old E89 zz
  have hO59 := hO59.keepX hxt_old E89 zz
  have hO82 := hO82.keepX hxt_old E89 zz
  have hb := below_step1 hb E89 hb.size zx
  refine zB ?_
  refine hK36 _ _ (zH ?_)
  refine op_add (zC hN69 rfl s69_11) rfl (add64 zx) ?_
  refine zG (zA hN69 rfl) ?_
  refine zB ?_
  -- round 12T
  exact zg _ hN69 hd69 ⟨(i + 1), v79, (D2 ++ [(DTab.mk (D.getD i default).t v53 v59)]), _, rfl, (zL hN69 rfl s69_1), (zL hN69 rfl s69_2), (zL hN69 rfl s69_3), (zL hN69 rfl s69_9), (zL hN69 rfl s69_10), (zU hN69 rfl).trans (congrArg (Value.int .i64) zx), zx, (by simp; omega), (by rw [List.map_append, hM, take_map_snoc _ zx]; rfl), hb, zx, hR, hT, hVR, hV, hB20, hB24, hxt, (hS.snoc (d := (DTab.mk (D.getD i default).t v53 v59)) hO53 hO59), (hO82.cast (by simp) rfl)⟩ zx
 refine zB ?_
 refine hK34 _ _ (zF fun K90 hK90 => ?_)
 refine wp_cond_false (zA hN32 rfl) (wp_exit (then_exit (then_exit (blk_hit ?_))))
 refine hK30 _ _ (zF fun K91 hK91 => ?_)
 refine zF fun K92 hK92 => ?_
 refine zH ?_
 refine zM fld39_1 (zC hN32 rfl s32_1) ?_
 refine zN (v := vv) one37 (zA hN32 rfl) (hB20.cell rfl) ?_
 refine op_len_rd Try.underlying37 (zA hN32 rfl) hVR ?_
 refine zG rfl ?_
 refine zB ?_
 refine hK92 _ _ (wp_block ?_)
 refine loop_m (fun mz_ az_ w' => ∃ (i : Nat) (lv3 : Value) (V2 : List DVw) (FV : Nat → Prop), mz_ = V.length - i ∧ (az_.tmps.getD 2 undef = (ptr b22 0)) ∧ (az_.tmps.getD 3 undef = (ptr b27 0)) ∧ (az_.tmps.getD 31 undef = vv) ∧ (az_.tmps.getD 32 undef = (.int .i64 ((V.length : Nat) : Int))) ∧ (az_.tmps.getD 33 undef = (.int .i64 ((i : Nat) : Int))) ∧ (i ≤ V.length) ∧ (V2.length = i) ∧ (∀ j, j < i → VSame (V.getD j default) (V2.getD j default)) ∧ (Dj (Bl lv) FV) ∧ (¬ FV b27) ∧ (¬ FV b22) ∧ (Dj (Bl lv3) FV) ∧ (Below w.heap.size w w') ∧ (w32.heap.size ≤ w'.heap.size) ∧ (RdC w' 0 w.heap.size 3 tv D.length (D.flatMap cellsT)) ∧ (TsRd w' w.heap.size tv D) ∧ (RdC w' 0 w.heap.size 15 vv V.length (V.flatMap cellsW)) ∧ (VsFr w' 0 w.heap.size vv V) ∧ (Bx w' b18 39 [tv, vv]) ∧ (Bx w' b22 39 [(.slice none 0 0), (.slice none 0 0)]) ∧ (TabsR w' w.heap.size D2 F0S) ∧ (Own w' w.heap.size 55 3 lv D2.length (D2.flatMap cellsT)) ∧ (Bx w' b27 39 [lv, lv3]) ∧ (VsIn w' w.heap.size V2 FV) ∧ (Own w' w.heap.size 98 15 lv3 V2.length (V2.flatMap cellsW))) _ hN32 hd32 ⟨0, (.slice none 0 0), [], NoB, rfl, (zL hN32 rfl s32_2), (zL hN32 rfl s32_3), (zU hN32 rfl), (zU hN32 rfl), (zU hN32 rfl), (Nat.zero_le _), rfl, (fun _ h => absurd h (Nat.not_lt_zero _)), (fun _ _ h => h.elim), (fun h => h.elim), (fun h => h.elim), (Dj.nil _).symm, hb, (Nat.le_refl _), hR, hT, hVR, hV, hB20, hB24, hS, hO33, hxt, (VsIn.nil _ _), (Own.nil _ _ _ _)⟩ ?_
 rintro _ a93 w93 hN93 hd93 ⟨i, lv3, V2, FV, rfl, s93_2, s93_3, s93_31, s93_32, s93_33, hi, hlV, hVS, hdjT, hnbb27, hnbb22, hdjV, hb, zl_w93, hR, hT, hVR, hV, hB20, hB24, hS, hO33, hxv, hVI, hO94⟩
 have := hb.size
 refine zF fun K95 hK95 => ?_
 refine zH ?_
 refine op_lss (zC hN93 rfl s93_33) (zC hN93 rfl s93_32) (fun c34 => ?_) (fun c34 => ?_)
 ·
  refine zB ?_
  refine hK95 _ _ (zF fun K96 hK96 => ?_)
  refine wp_cond_true (zA hN93 rfl) (wp_skip (hK96 _ _ (zF fun K97 hK97 => ?_)))
  refine wp_block ?_
  refine zF fun K98 hK98 => ?_
  refine zH ?_
  refine zh slt37 (zC hN93 rfl s93_31) hVR (zC hN93 rfl s93_33) zx zx ?_
  intro b99 o100 h0b99 h1b99 hc101
  refine zX (cs := [(.string (bs (V.getD i default).nm)), (V.getD i default).sv, (.int .i64 (V.getD i default).act.f.kind), (.string (bs (V.getD i default).act.f.tb)), (.string (bs (V.getD i default).act.f.nm)), (V.getD i default).act.f.cv, (V.getD i default).act.f.gv, (V.getD i default).act.f.vv, (V.getD i default).act.f.iv, (.string (bs (V.getD i default).act.f.join)), (V.getD i default).act.f.ov, (V.getD i default).act.f.wv, (V.getD i default).act.f.rv, (.bool (V.getD i default).act.f.desc), (V.getD i default).act.nv]) agg98 rfl (zA hN93 rfl) (fun j u hu => hc101 j u (by have := (List.getElem?_eq_some_iff.1 hu).1; simpa using this) ((el_dv (i := i) zx zx) j u hu)) ?_
  refine op_alloc (cs := [(.string (bs [])), (.slice none 0 0), (.int .i64 0), (.string (bs [])), (.string (bs [])), (.slice none 0 0), (.slice none 0 0), (.slice none 0 0), (.slice none 0 0), (.string (bs [])), (.slice none 0 0), (.slice none 0 0), (.slice none 0 0), (.bool false), (.slice none 0 0)]) zero98 rfl ?_
  intro w102 b103 lo_b103 hi_b103 hB105 E104
  have dj106 : ¬ F0S b103 := fun hf => by have := (hS.lt _ hf).2; omega
  have dj107 : ¬ FV b103 := fun hf => by have := (hVI.lt _ hf).2; omega
  have ne_b103_lv3 : lv3.ownBlock ≠ some b103 := fun hh => by have := (hO94.lt _ hh).2; omega
  have := E104.size
  have hR := hR.keep0 E104
  have hT := hT.keep0 E104
  have hVR := hVR.keep0 E104
  have hV := hV.keep0 E104
  obtain ⟨hB20, hB24⟩ := kb2 E104 hB20 hB24
  have hS := hS.keepG (zi E104 NoB) (fun _ _ h => h)
  have hO33 := hO33.keep0 E104
  have hxv := hxv.keep0 E104
  have hVI := hVI.keepG (zi E104 NoB) (fun _ _ h => h)
  have hO94 := hO94.keep0 E104
  have hb := zP hb E104 hb.size
  have hB105_old := hB105
  refine zZ size98 (zA hN93 rfl) (zA hN93 rfl) rfl (by simp only [List.all_cons, List.all_nil, Bool.true_and, Bool.and_true, (hV.2 (V.getD i default) (getD_mem zx)).1.one, (hV.2 (V.getD i default) (getD_mem zx)).2.1.ff.1.one, (hV.2 (V.getD i default) (getD_mem zx)).2.1.ff.2.1.one, (hV.2 (V.getD i default) (getD_mem zx)).2.1.ff.2.2.1.1.one, (hV.2 (V.getD i default) (getD_mem zx)).2.1.ff.2.2.2.1.one, (hV.2 (V.getD i default) (getD_mem zx)).2.1.ff.2.2.2.2.1.1.one, (hV.2 (V.getD i default) (getD_mem zx)).2.1.ff.2.2.2.2.2.1.1.one, (hV.2 (V.getD i default) (getD_mem zx)).2.1.ff.2.2.2.2.2.2.1.one, (hV.2 (V.getD i default) (getD_mem zx)).2.1.nvr.one]; try rfl) hB105 rfl ?_
  intro w110 hB105 E111
  have := E111.size
  have hR := hR.keep E111 sR
  have hT := hT.keep E111 sR
  have hVR := hVR.keep E111 sR
  have hV := hV.keep E111 sO
  have hB20 := hB20.keep E111 (sN hB20 hB105_old)
  have hB24 := hB24.keep E111 (sN hB24 hB105_old)
  have hS := hS.keepG (Gr.of E111) (Dj.one dj106)
  have hO33 := hO33.keepX hB105_old E111 zz
  have hxv := hxv.keep E111 (sN hxv hB105_old)
  have hVI := hVI.keepG (Gr.of E111) (Dj.one dj107)
  have hO94 := hO94.keep E111 (.inr ne_b103_lv3)
  have hb := below_step1 hb E111 hb.size zx
  refine zB ?_
  refine hK98 _ _ (zF fun K112 hK112 => ?_)
  have hvi := hV.2 (V.getD i default) (getD_mem zx)
  have hvs := hvi.1
  have hva := hvi.2.1
  have hvz := hvi.2.2
  have lw_lv3 := fun k hk => (hO94.lt k hk).2
  have lw_lv := fun k hk => (hO33.lt k hk).2
  refine reg_split (hd := [_, _, _, _, _, _, _, _]) (tl := _) 8 mixed zy rfl rfl ?_
  refine any_treek (φ := phiV [(fun uz => uz = (ptr b103 1)), (fun uz => uz = (V.getD i default).sv), (fun _ => True), (fun uz => uz = (ptr b103 2)), (fun uz => uz = (.agg #[(.int .i64 (V.getD i default).act.f.kind), (.string (bs (V.getD i default).act.f.tb)), (.string (bs (V.getD i default).act.f.nm)), (V.getD i default).act.f.cv, (V.getD i default).act.f.gv, (V.getD i default).act.f.vv, (V.getD i default).act.f.iv, (.string (bs (V.getD i default).act.f.join)), (V.getD i default).act.f.ov, (V.getD i default).act.f.wv, (V.getD i default).act.f.rv, (.bool (V.getD i default).act.f.desc), (V.getD i default).act.nv])), (fun _ => True), (fun uz => uz = (ptr b103 1)), (fun _ => True)]) (G := fun t9 w' => 7 ∈ t9 → (Bx w' b103 98 [(.string (bs (V.getD i default).nm)), (V.getD i default).sv, (.int .i64 (V.getD i default).act.f.kind), (.string (bs (V.getD i default).act.f.tb)), (.string (bs (V.getD i default).act.f.nm)), (V.getD i default).act.f.cv, (V.getD i default).act.f.gv, (V.getD i default).act.f.vv, (V.getD i default).act.f.iv, (.string (bs (V.getD i default).act.f.join)), (V.getD i default).act.f.ov, (V.getD i default).act.f.wv, (V.getD i default).act.f.rv, (.bool (V.getD i default).act.f.desc), (V.getD i default).act.nv])) [2, 5, 7] zy zy zy zy zy hN93 (fun _ w1 w2 E h hc9 => (h hc9).keep0 E) (fun _ => hB105) (ObRk9.cons ?_ (ObRk9.cons ?_ (ObRk9.pass rfl (ObRk9.cons ?_ (ObRk9.cons ?_ (ObRk9.pass rfl (ObRk9.cons ?_ (ObRk9.pass rfl (ObRk9.nil))))))))) (by simp only [putsL_defers]) ?_
  ·
   intro eA tA aA wA hNA hckA hGA hbsA hdpA
   have qA_7 := (hbsA 7 rfl).trans (zU hN93 rfl)
   refine zM fld98_1 (zC hNA rfl qA_7) ?_
   exact obTk_end rfl rfl
  ·
   intro eA tA aA wA hNA hckA hGA hbsA hdpA
   have qA_37 : Sl aA 37 (ptr b103 1) := (hdpA 0 _ 37 zy rfl rfl).2 rfl
   have hGA := hGA (hckA 7 rfl zy)
   refine zN (v := (V.getD i default).sv) one75 (zC hNA rfl qA_37) (hGA.cell rfl) ?_
   exact obTk_end rfl rfl
  ·
   intro eA tA aA wA hNA hckA hGA hbsA hdpA
   have qA_7 := (hbsA 7 rfl).trans (zU hN93 rfl)
   refine zM fld98_2 (zC hNA rfl qA_7) ?_
   exact obTk_end rfl rfl
  ·
   intro eA tA aA wA hNA hckA hGA hbsA hdpA
   have qA_40 : Sl aA 40 (ptr b103 2) := (hdpA 3 _ 40 zy rfl rfl).2 rfl
   have hGA := hGA (hckA 7 rfl zy)
   refine zX (cs := [(.int .i64 (V.getD i default).act.f.kind), (.string (bs (V.getD i default).act.f.tb)), (.string (bs (V.getD i default).act.f.nm)), (V.getD i default).act.f.cv, (V.getD i default).act.f.gv, (V.getD i default).act.f.vv, (V.getD i default).act.f.iv, (.string (bs (V.getD i default).act.f.join)), (V.getD i default).act.f.ov, (V.getD i default).act.f.wv, (V.getD i default).act.f.rv, (.bool (V.getD i default).act.f.desc), (V.getD i default).act.nv]) agg45 rfl (zC hNA rfl qA_40) (fun j u hu => hGA.cell (at_pre9 (pre := [(.string (bs (V.getD i default).nm)), (V.getD i default).sv]) (suf := []) hu)) ?_
   exact obTk_end rfl rfl
  ·
   intro eA tA aA wA hNA hckA hGA hbsA hdpA
   have qA_7 := (hbsA 7 rfl).trans (zU hN93 rfl)
   refine zM fld98_1 (zC hNA rfl qA_7) ?_
   exact obTk_end rfl rfl
  refine ktk_step (rs := [2]) zy ?_
  refine one_mem ?_
  intro w114 E114 _ a114 hN114 hbs114 hdp114 o_ ho_; obtain rfl := zE ho_
  have := E114.size
  have hR := hR.keep0 E114
  have hT := hT.keep0 E114
  have hVR := hVR.keep0 E114
  have hV := hV.keep0 E114
  obtain ⟨hB20, hB24⟩ := kb2 E114 hB20 hB24
  have hS := hS.keepG (zi E114 NoB) (fun _ _ h => h)
  have hO33 := hO33.keep0 E114
  have hxv := hxv.keep0 E114
  have hVI := hVI.keepG (zi E114 NoB) (fun _ _ h => h)
  have hO94 := hO94.keep0 E114
  have hB105 := hB105.keep0 E114
  have hvs := hvs.keep0 E114
  have hva := hva.keep0 E114
  have hb := zP hb E114 hb.size
  have q114_38 : Sl a114 38 (V.getD i default).sv := (hdp114 1 _ 38 zy rfl rfl).2 rfl
  refine zj ok91 (CloneL ((V.getD i default).strip) _ _ (by first | assumption | omega | (simp only [List.length_append, List.length_cons, List.length_nil, List.length_drop, List.length_take]; omega) | (dsimp only; omega) | decide | (simp [keyV, be8_len]; done)) (hvs.mono (Nat.zero_le _) zx)) ⟨(zC hN114 rfl q114_38), trivial⟩ ?_
  rintro v115 w116 ⟨E117, hO115⟩
  have E117 := zQ E117
  have := E117.size
  have hR := hR.keep0 E117
  have hT := hT.keep0 E117
  have hVR := hVR.keep0 E117
  have hV := hV.keep0 E117
  obtain ⟨hB20, hB24⟩ := kb2 E117 hB20 hB24
  have hS := hS.keepG (zi E117 NoB) (fun _ _ h => h)
  have hO33 := hO33.keep0 E117
  have hxv := hxv.keep0 E117
  have hVI := hVI.keepG (zi E117 NoB) (fun _ _ h => h)
  have hO94 := hO94.keep0 E117
  have hB105 := hB105.keep0 E117
  have hva := hva.keep0 E117
  have hb := zP hb E117 hb.size
  have hO115 := hO115.mono (base' := w114.heap.size) zx
  refine ktk_end (G := fun t9 w' => 7 ∈ t9 → (Bx w' b103 98 [(.string (bs (V.getD i default).nm)), (V.getD i default).sv, (.int .i64 (V.getD i default).act.f.kind), (.string (bs (V.getD i default).act.f.tb)), (.string (bs (V.getD i default).act.f.nm)), (V.getD i default).act.f.cv, (V.getD i default).act.f.gv, (V.getD i default).act.f.vv, (V.getD i default).act.f.iv, (.string (bs (V.getD i default).act.f.join)), (V.getD i default).act.f.ov, (V.getD i default).act.f.wv, (V.getD i default).act.f.rv, (.bool (V.getD i default).act.f.desc), (V.getD i default).act.nv])) (todo := [2, 5, 7]) (i := 2) rfl (fun _ => hB105) ?_
  refine ktk_step (rs := [5]) zy ?_
  refine one_mem ?_
  intro w121 E121 _ a121 hN121 hbs121 hdp121 o_ ho_; obtain rfl := zE ho_
  have := E121.size
  have hR := hR.keep0 E121
  have hT := hT.keep0 E121
  have hVR := hVR.keep0 E121
  have hV := hV.keep0 E121
  obtain ⟨hB20, hB24⟩ := kb2 E121 hB20 hB24
  have hS := hS.keepG (zi E121 NoB) (fun _ _ h => h)
  have hO33 := hO33.keep0 E121
  have hxv := hxv.keep0 E121
  have hVI := hVI.keepG (zi E121 NoB) (fun _ _ h => h)
  have hO94 := hO94.keep0 E121
  have hB105 := hB105.keep0 E121
  have hva := hva.keep0 E121
  have hO115 := hO115.keep0 E121
  have hb := zP hb E121 hb.size
  have q121_41 : Sl a121 41 (.agg #[(.int .i64 (V.getD i default).act.f.kind), (.string (bs (V.getD i default).act.f.tb)), (.string (bs (V.getD i default).act.f.nm)), (V.getD i default).act.f.cv, (V.getD i default).act.f.gv, (V.getD i default).act.f.vv, (V.getD i default).act.f.iv, (.string (bs (V.getD i default).act.f.join)), (V.getD i default).act.f.ov, (V.getD i default).act.f.wv, (V.getD i default).act.f.rv, (.bool (V.getD i default).act.f.desc), (V.getD i default).act.nv]) := (hdp121 4 _ 41 zy rfl rfl).2 rfl
  refine zj ok92 (CopyS_all ((V.getD i default).act) (hva.mono (Nat.zero_le _) zx)) ⟨(zC hN121 rfl q121_41), trivial⟩ ?_
  rintro _ w123 ⟨E124, a122, rfl, hx122, hq122⟩
  have E124 := zQ E124
  have := E124.size
  have hR := hR.keep0 E124
  have hT := hT.keep0 E124
  have hVR := hVR.keep0 E124
  have hV := hV.keep0 E124
  obtain ⟨hB20, hB24⟩ := kb2 E124 hB20 hB24
  have hS := hS.keepG (zi E124 NoB) (fun _ _ h => h)
  have hO33 := hO33.keep0 E124
  have hxv := hxv.keep0 E124
  have hVI := hVI.keepG (zi E124 NoB) (fun _ _ h => h)
  have hO94 := hO94.keep0 E124
  have hB105 := hB105.keep0 E124
  have hO115 := hO115.keep0 E124
  have hb := zP hb E124 hb.size
  refine ktk_end (G := fun t9 w' => 7 ∈ t9 → (Bx w' b103 98 [(.string (bs (V.getD i default).nm)), (V.getD i default).sv, (.int .i64 (V.getD i default).act.f.kind), (.string (bs (V.getD i default).act.f.tb)), (.string (bs (V.getD i default).act.f.nm)), (V.getD i default).act.f.cv, (V.getD i default).act.f.gv, (V.getD i default).act.f.vv, (V.getD i default).act.f.iv, (.string (bs (V.getD i default).act.f.join)), (V.getD i default).act.f.ov, (V.getD i default).act.f.wv, (V.getD i default).act.f.rv, (.bool (V.getD i default).act.f.desc), (V.getD i default).act.nv])) (todo := [5, 7]) (i := 5) rfl (fun _ => hB105) ?_
  refine ktk_step (rs := [7]) zy ?_
  refine one_mem ?_
  intro w126 E126 _ a126 hN126 hbs126 hdp126 o_ ho_; obtain rfl := zE ho_
  have := E126.size
  have hR := hR.keep0 E126
  have hT := hT.keep0 E126
  have hVR := hVR.keep0 E126
  have hV := hV.keep0 E126
  obtain ⟨hB20, hB24⟩ := kb2 E126 hB20 hB24
  have hS := hS.keepG (zi E126 NoB) (fun _ _ h => h)
  have hO33 := hO33.keep0 E126
  have hxv := hxv.keep0 E126
  have hVI := hVI.keepG (zi E126 NoB) (fun _ _ h => h)
  have hO94 := hO94.keep0 E126
  have hB105 := hB105.keep0 E126
  have hO115 := hO115.keep0 E126
  have hx122 := hx122.keep0 E126
  have hb := zP hb E126 hb.size
  have q126_43 : Sl a126 43 (ptr b103 1) := (hdp126 6 _ 43 zy rfl rfl).2 rfl
  have q126_39 : Sl a126 39 v115 := (zE ((hdp126 2 _ 39 zy rfl rfl).1 rfl)).symm
  have hB105_old := hB105
  refine za (vs := [v115]) (cs' := [(.string (bs (V.getD i default).nm)), v115, (.int .i64 (V.getD i default).act.f.kind), (.string (bs (V.getD i default).act.f.tb)), (.string (bs (V.getD i default).act.f.nm)), (V.getD i default).act.f.cv, (V.getD i default).act.f.gv, (V.getD i default).act.f.vv, (V.getD i default).act.f.iv, (.string (bs (V.getD i default).act.f.join)), (V.getD i default).act.f.ov, (V.getD i default).act.f.wv, (V.getD i default).act.f.rv, (.bool (V.getD i default).act.f.desc), (V.getD i default).act.nv]) size75 (zC hN126 rfl q126_43) (zC hN126 rfl q126_39) hO115.cl rfl (by simp only [List.all_cons, List.all_nil, Bool.true_and, Bool.and_true, hO115.one]; try rfl) hB105 (zI rfl) rfl ?_
  intro w129 hB105 E130
  have := E130.size
  have hR := hR.keep E130 sR
  have hT := hT.keep E130 sR
  have hVR := hVR.keep E130 sR
  have hV := hV.keep E130 sO
  have hB20 := hB20.keep E130 (sN hB20 hB105_old)
  have hB24 := hB24.keep E130 (sN hB24 hB105_old)
  have hS := hS.keepG (Gr.of E130) (Dj.one dj106)
  have hO33 := hO33.keepX hB105_old E130 zz
  have hxv := hxv.keep E130 (sN hxv hB105_old)
  have hVI := hVI.keepG (Gr.of E130) (Dj.one dj107)
  have hO94 := hO94.keep E130 (.inr ne_b103_lv3)
  have hO115 := hO115.keepX hB105_old E130 zz
  have hx122 := hx122.keep E130 sO
  have hb := below_step1 hb E130 hb.size zx
  refine ktk_end0 (G := fun t9 w' => 7 ∈ t9 → (Bx w' b103 98 [(.string (bs (V.getD i default).nm)), (V.getD i default).sv, (.int .i64 (V.getD i default).act.f.kind), (.string (bs (V.getD i default).act.f.tb)), (.string (bs (V.getD i default).act.f.nm)), (V.getD i default).act.f.cv, (V.getD i default).act.f.gv, (V.getD i default).act.f.vv, (V.getD i default).act.f.iv, (.string (bs (V.getD i default).act.f.join)), (V.getD i default).act.f.ov, (V.getD i default).act.f.wv, (V.getD i default).act.f.rv, (.bool (V.getD i default).act.f.desc), (V.getD i default).act.nv])) (todo := [7]) (i := 7) rfl (fun h => absurd h zz) ?_
  intro w131 E131 a131 hN131 hd131 hbs131 hph131
  have hd131 := hd131.trans ((by simp only [putsL_defers] : _ = _).trans hd93)
  have := E131.size
  have hR := hR.keep0 E131
  have hT := hT.keep0 E131
  have hVR := hVR.keep0 E131
  have hV := hV.keep0 E131
  obtain ⟨hB20, hB24⟩ := kb2 E131 hB20 hB24
  have hS := hS.keepG (zi E131 NoB) (fun _ _ h => h)
  have hO33 := hO33.keep0 E131
  have hxv := hxv.keep0 E131
  have hVI := hVI.keepG (zi E131 NoB) (fun _ _ h => h)
  have hO94 := hO94.keep0 E131
  have hO115 := hO115.keep0 E131
  have hx122 := hx122.keep0 E131
  have hB105 := hB105.keep0 E131
  have hb := zP hb E131 hb.size
  have s131_2 := (hbs131 2 rfl).trans (zL hN93 rfl s93_2)
  have s131_3 := (hbs131 3 rfl).trans (zL hN93 rfl s93_3)
  have s131_7 := (hbs131 7 rfl).trans (zU hN93 rfl)
  have s131_31 := (hbs131 31 rfl).trans (zL hN93 rfl s93_31)
  have s131_32 := (hbs131 32 rfl).trans (zL hN93 rfl s93_32)
  have s131_33 := (hbs131 33 rfl).trans (zL hN93 rfl s93_33)
  have s131_42 : Sl a131 42 (.agg #[(.int .i64 a122.f.kind), (.string (bs a122.f.tb)), (.string (bs a122.f.nm)), a122.f.cv, a122.f.gv, a122.f.vv, a122.f.iv, (.string (bs a122.f.join)), a122.f.ov, a122.f.wv, a122.f.rv, (.bool a122.f.desc), a122.nv]) := (zE ((hph131 5 _ 42 rfl rfl).1 rfl)).symm
  refine split_end ?_
  refine from_seq (tl := [_, _]) zz zy rfl ?_
  refine zM fld98_2 (zC hN131 rfl s131_7) ?_
  have hB105_old := hB105
  refine za (vs := [(.int .i64 a122.f.kind), (.string (bs a122.f.tb)), (.string (bs a122.f.nm)), a122.f.cv, a122.f.gv, a122.f.vv, a122.f.iv, (.string (bs a122.f.join)), a122.f.ov, a122.f.wv, a122.f.rv, (.bool a122.f.desc), a122.nv]) (cs' := [(.string (bs (V.getD i default).nm)), v115, (.int .i64 a122.f.kind), (.string (bs a122.f.tb)), (.string (bs a122.f.nm)), a122.f.cv, a122.f.gv, a122.f.vv, a122.f.iv, (.string (bs a122.f.join)), a122.f.ov, a122.f.wv, a122.f.rv, (.bool a122.f.desc), a122.nv]) size45 (zA hN131 rfl) (zC hN131 rfl s131_42) rfl rfl (by simp only [List.all_cons, List.all_nil, Bool.true_and, Bool.and_true, hx122.ff.1.one, hx122.ff.2.1.one, hx122.ff.2.2.1.1.one, hx122.ff.2.2.2.1.one, hx122.ff.2.2.2.2.1.1.one, hx122.ff.2.2.2.2.2.1.1.one, hx122.ff.2.2.2.2.2.2.1.one, hx122.nvr.one]; try rfl) hB105 (zI rfl) rfl ?_
  intro w134 hB105 E135
  have := E135.size
  have hR := hR.keep E135 sR
  have hT := hT.keep E135 sR
  have hVR := hVR.keep E135 sR
  have hV := hV.keep E135 sO
  have hB20 := hB20.keep E135 (sN hB20 hB105_old)
  have hB24 := hB24.keep E135 (sN hB24 hB105_old)
  have hS := hS.keepG (Gr.of E135) (Dj.one dj106)
  have hO33 := hO33.keepX hB105_old E135 zz
  have hxv := hxv.keep E135 (sN hxv hB105_old)
  have hVI := hVI.keepG (Gr.of E135) (Dj.one dj107)
  have hO94 := hO94.keep E135 (.inr ne_b103_lv3)
  have hO115 := hO115.keepX hB105_old E135 zz
  have hx122 := hx122.keep E135 sO
  have hb := below_step1 hb E135 hb.size zx
  refine zB ?_
  refine hK112 _ _ (zH ?_)
  have hcl0 := hO115
  have ap136 : ∀ k, lv3.ownBlock = some k → k < w121.heap.size ∨ w123.heap.size ≤ k := fun k hk => .inl (by have := lw_lv3 k hk; omega)
  refine zM fld39_1 (zC hN131 rfl s131_3) ?_
  refine zN (v := lv3) one37 (zA hN131 rfl) (hxv.cell rfl) ?_
  refine zY agg98 rfl (zC hN131 rfl s131_7) hB105 ?_
  refine op_bslice (e := 98) (pv := [(0, (.agg #[(.string (bs (V.getD i default).nm)), v115, (.int .i64 a122.f.kind), (.string (bs a122.f.tb)), (.string (bs a122.f.nm)), a122.f.cv, a122.f.gv, a122.f.vv, a122.f.iv, (.string (bs a122.f.join)), a122.f.ov, a122.f.wv, a122.f.rv, (.bool a122.f.desc), a122.nv]))]) (cs := [(.string (bs (V.getD i default).nm)), v115, (.int .i64 a122.f.kind), (.string (bs a122.f.tb)), (.string (bs a122.f.nm)), a122.f.cv, a122.f.gv, a122.f.vv, a122.f.iv, (.string (bs a122.f.join)), a122.f.ov, a122.f.wv, a122.f.rv, (.bool a122.f.desc), a122.nv]) ⟨rfl, (zA hN131 rfl), trivial⟩ (by obtain ⟨_, _, _, rfl⟩ := hO115.sl; kernel_rfl) ?_
  intro w137 b138 lo_b138 hi_b138 hB140 E139
  have := E139.size
  have hR := hR.keep0 E139
  have hT := hT.keep0 E139
  have hVR := hVR.keep0 E139
  have hV := hV.keep0 E139
  obtain ⟨hB20, hB24⟩ := kb2 E139 hB20 hB24
  have hS := hS.keepG (zi E139 NoB) (fun _ _ h => h)
  have hO33 := hO33.keep0 E139
  have hxv := hxv.keep0 E139
  have hVI := hVI.keepG (zi E139 NoB) (fun _ _ h => h)
  have hO94 := hO94.keep0 E139
  have hO115 := hO115.keep0 E139
  have hx122 := hx122.keep0 E139
  have hb := zP hb E139 hb.size
  have hP148 := hO94
  refine op_append slt37 (zA hN131 rfl) hP148 (zA hN131 rfl) (Src.ofRd Try.underlying37 zz (RdC.ofBx (sz := 15) (n := 1) hB140 rfl zz) (by simp only [List.all_cons, List.all_nil, Bool.true_and, Bool.and_true, hO115.one, hx122.ff.1.one, hx122.ff.2.1.one, hx122.ff.2.2.1.1.one, hx122.ff.2.2.2.1.one, hx122.ff.2.2.2.2.1.1.one, hx122.ff.2.2.2.2.2.1.1.one, hx122.ff.2.2.2.2.2.2.1.one, hx122.nvr.one]; try rfl)) (by unfold maxLen; omega) zx hb.size ?_
  intro v143 w144 hO146 E145 hm147
  have dj150 : Dj FV (Bl v143) := Dj.step hm147 (fun k hk => (hVI.lt k hk).2) hdjV.symm
  have := E145.size
  have hR := hR.keepO hP148 E145 zx
  have hT := hT.keepO hP148 E145 zx
  have hVR := hVR.keepO hP148 E145 zx
  have hV := hV.keepO hP148 E145 zx
  have hB20 := hB20.keepO hP148 E145 zz
  have hB24 := hB24.keepO hP148 E145 zz
  have hS := hS.keepG (Gr.of E145) (hS.notOwn hP148 zz zz).symm
  have hO33 := hO33.keepT hP148 E145 zz
  have hxv := hxv.keepO hP148 E145 zz
  have hVI := hVI.keepG (Gr.of E145) hdjV.symm
  have hO115 := hO115.keepT hP148 E145 zz
  have hx122 := hx122.keep E145 ap136
  have hb := below_stepO hb hP148 E145 hb.size zx
  have hO146 : Own w144 w.heap.size 98 15 v143 (V2 ++ [(DVw.mk (V.getD i default).nm v115 (V.getD i default).strip a122)]).length (((V2 ++ [(DVw.mk (V.getD i default).nm v115 (V.getD i default).strip a122)])).flatMap cellsW) := by exact hO146.cast (by simp) (by simp [cellsW])
  refine zM fld39_1 (zC hN131 rfl s131_3) ?_
  have hxv_old := hxv
  refine za (vs := [v143]) (cs' := [lv, v143]) size37 (zA hN131 rfl) (zA hN131 rfl) hO146.cl rfl (by simp only [List.all_cons, List.all_nil, Bool.true_and, Bool.and_true, hO146.one]; try rfl) hxv (zI rfl) rfl ?_
  intro w153 hxv E154
  have := E154.size
  have hR := hR.keep E154 sR
  have hT := hT.keep E154 sR
  have hVR := hVR.keep E154 sR
  have hV := hV.keep E154 sO
  have hB20 := hB20.keep E154 sB
  have hB24 := hB24.keep E154 sB
  have hS := hS.keepG (Gr.of E154) (Dj.one (hS.notBx hxv_old zz zz))
  have hO33 := hO33.keepX hxv_old E154 zz
  have hVI := hVI.keepG (Gr.of E154) (Dj.one hnbb27)
  have hO115 := hO115.keepX hxv_old E154 zz
  have hx122 := hx122.keep E154 sO
  have hO146 := hO146.keepX hxv_old E154 zz
  have hb := below_step1 hb E154 hb.size zx
  refine zB ?_
  refine hK97 _ _ (zH ?_)
  refine op_add (zC hN131 rfl s131_33) rfl (add64 zx) ?_
  refine zG (zA hN131 rfl) ?_
  refine zB ?_
  -- round 12F 34T
  exact zg _ hN131 hd131 ⟨(i + 1), v143, (V2 ++ [(DVw.mk (V.getD i default).nm v115 (V.getD i default).strip a122)]), _, rfl, (zL hN131 rfl s131_2), (zL hN131 rfl s131_3), (zL hN131 rfl s131_31), (zL hN131 rfl s131_32), (zU hN131 rfl).trans (congrArg (Value.int .i64) zx), zx, (by simp; omega), (same_next hlV hVS ⟨rfl, rfl, hq122⟩), (dj_fresh hdjT lw_lv), (fun h => h.elim hnbb27 fun q => by omega), (fun h => h.elim hnbb22 fun q => by omega), (dj_app dj150 hm147 lw_lv3 zx), hb, zx, hR, hT, hVR, hV, hB20, hB24, hS, hO33, hxv, (hVI.snoc (L := w110.heap.size) (B := w134.heap.size) (d := (DVw.mk (V.getD i default).nm v115 (V.getD i default).strip a122)) ⟨(Own.rdB hO115 hcl0).mono zx (Nat.le_refl _), hx122.mono zx zx, hvz⟩ zx zx), (hO146.cast (by simp) rfl)⟩ zx
 refine zB ?_
 refine hK95 _ _ (zF fun K155 hK155 => ?_)
 refine wp_cond_false (zA hN93 rfl) (wp_exit (then_exit (then_exit (blk_hit ?_))))
 refine hK91 _ _ (zF fun K156 hK156 => ?_)
 refine zH ?_
 refine zY agg39 rfl (zC hN93 rfl s93_3) hxv ?_
 have hB24_old := hB24
 refine zZ size39 (zC hN93 rfl s93_2) (zA hN93 rfl) rfl (by simp only [List.all_cons, List.all_nil, Bool.true_and, Bool.and_true, hO33.one, hO94.one]; try rfl) hB24 rfl ?_
 intro w159 hB24 E160
 have := E160.size
 have hS := hS.keepG (Gr.of E160) (Dj.one (hS.notBx hB24_old zz zz))
 have hO33 := hO33.keepX hB24_old E160 zz
 have hVI := hVI.keepG (Gr.of E160) (Dj.one hnbb22)
 have hO94 := hO94.keepX hB24_old E160 zz
 have hb := below_step1 hb E160 hb.size zx
 refine zB ?_
 refine hK156 _ _ (wp_ret ?_)
 refine retC rfl hd93 (zC hN93 rfl s93_2) agg39 rfl hB24 ⟨_, rfl, ?_⟩
 obtain rfl : i = V.length := by omega
 exact ⟨hb, _, _, _, _, _, _, rfl, hO33, hS, by rw [hM, List.take_of_length_le zx], hO94, hVI, hdjV, hdjT, hlV, hVS⟩

end Go.Proofs.Ythflnkfghogaoaa

namespace Go.Gx
theorem Own.notBx {w : World} {base e sz n b t : Nat} {v : Value} {cs ds : List Value} (O : Own w base e sz v n cs) (B : Bx w b t ds) (h : t ≠ e) : ¬ Bl v b := O.neB B h
theorem flat_take {α : Type} {f : α → List Value} {k : Nat} (hf : ∀ a, (f a).length = k) : ∀ (l : List α) (i : Nat), (l.flatMap f).take (i * k) = (l.take i).flatMap f
  | [], i => by simp
  | a :: l, 0 => by simp
  | a :: l, i + 1 => by
    rw [List.take_succ_cons, List.flatMap_cons, List.flatMap_cons, List.take_append, hf, ← flat_take hf l i]
    rw [List.take_of_length_le (by rw [hf, Nat.add_mul]; omega), show (i + 1) * k - k = i * k by rw [Nat.add_mul]; omega]
theorem rd_capC {w : World} {L B : Nat} {v : Value} {l : List PCol} (h : RdC w L B 3 v l.length (l.flatMap cellsC)) (hl : 0 < l.length) : ∃ c, CapIs v c ∧ l.length ≤ c := by
  obtain ⟨h1, a, c, rfl, h2, _, h3⟩ := h
  rcases h3 with h3 | ⟨b, off, rfl, _⟩
  · rw [h3] at h1; simp at h1; omega
  · exact ⟨c, .inr ⟨_, _, rfl⟩, h2⟩
theorem rd_hiC {w : World} {L B i : Nat} {v : Value} {l : List PCol} (h : RdC w L B 3 v l.length (l.flatMap cellsC)) (hi : i ≤ l.length) (hl : 0 < l.length) : RdC w L B 3 (hiV v i) (l.take i).length ((l.take i).flatMap cellsC) := by
  have e := flat_take (f := cellsC) (k := 3) (fun _ => rfl) l i
  obtain ⟨h1, a, c, rfl, h2, hm, h3⟩ := h
  have hlt : (l.take i).length = i := by rw [List.length_take]; omega
  rw [hlt, ← e]
  refine ⟨?_, a, c, rfl, by omega, hm, ?_⟩
  · rw [List.length_take, h1]; exact Nat.min_eq_left (Nat.mul_le_mul_right 3 hi)
  · rcases h3 with h3 | ⟨b, off, rfl, h4, h5, h6⟩
    · rw [h3] at h1; simp at h1; omega
    · refine .inr ⟨b, off, rfl, h4, h5, fun j u hu => h6 j u ?_⟩
      rw [List.getElem?_take] at hu
      split at hu
      · exact hu
      · cases hu
theorem ix_mem {α : Type} [DecidableEq α] [Inhabited α] {x : α} {l : List α} : 0 ≤ ixOf (fun y => decide (x = y)) l ↔ x ∈ l := by
  rcases ixOf_cases (fun y => decide (x = y)) l with ⟨h1, h2⟩ | ⟨i, h1, h2, h3, _⟩
  · rw [h1]
    refine ⟨fun h => absurd h (by decide), fun h => ?_⟩
    have := List.find?_eq_none.1 h2 x h
    simp at this
  · rw [h1]
    refine ⟨fun _ => ?_, fun _ => by omega⟩
    have e := of_decide_eq_true h3
    rw [e, List.getD_eq_getElem?_getD, List.getElem?_eq_getElem h2]
    exact List.getElem_mem h2
def colE (T : List PTab) (l : List PCol) (i : Nat) : Int :=
  if 0 ≤ ixOf (fun d => decide (d.nm = (l.getD i default).nm)) (l.take i) then 12
  else if (l.getD i default).kind ≠ 1 ∧ (l.getD i default).kind ≠ 2 then 11
  else if (l.getD i default).ref = [] then 0
  else if i = 0 ∨ 0 ≤ ixOf (fun d : PCol => decide (d.ref ≠ [])) (l.take i) then 14
  else match tabAt T (l.getD i default).ref with
    | none => 9
    | some t => if t.cols.length = 0 ∨ (t.cols.getD 0 default).kind ≠ (l.getD i default).kind then 11 else 0
def tabE (T : List PTab) (nm : List UInt8) (l : List PCol) : Int :=
  if (tabAt T nm).isSome then 12 else if 8 ≤ T.length then 25 else if l.length = 0 ∨ 6 < l.length then 7 else firstE ((List.range l.length).map (colE T l))
theorem tabE_4 {T : List PTab} {nm : List UInt8} {l : List PCol} (h : (tabAt T nm).isSome = false) (h2 : ¬ 8 ≤ T.length) (h3 : ¬ (l.length = 0 ∨ 6 < l.length)) : tabE T nm l = firstE ((List.range l.length).map (colE T l)) := by unfold tabE; rw [if_neg (by rw [h]; decide), if_neg h2, if_neg h3]
theorem tabE_hit {T : List PTab} {nm : List UInt8} {l : List PCol} {i : Nat} (h : (tabAt T nm).isSome = false) (h2 : ¬ 8 ≤ T.length) (h3 : ¬ (l.length = 0 ∨ 6 < l.length)) (hi : i < l.length) (ha : ∀ j, j < i → colE T l j = 0) (hx : colE T l i ≠ 0) : tabE T nm l = colE T l i := by
  rw [tabE_4 h h2 h3]
  have hl : ((List.range l.length).map (colE T l)).length = l.length := by simp
  have hg : ∀ j, j < l.length → ((List.range l.length).map (colE T l)).getD j 0 = colE T l j := fun j hj => range_map_take (α := Int) _ _ _ hj
  rw [firstE_at (i := i) (by rw [hl]; exact hi) (fun j hj => by rw [hg j (by omega)]; exact ha j hj) (by rw [hg i hi]; exact hx), hg i hi]
theorem tabE_ok {T : List PTab} {nm : List UInt8} {l : List PCol} {i : Nat} (h : (tabAt T nm).isSome = false) (h2 : ¬ 8 ≤ T.length) (h3 : ¬ (l.length = 0 ∨ 6 < l.length)) (hi : l.length ≤ i) (ha : ∀ j, j < i → colE T l j = 0) : tabE T nm l = 0 := by
  rw [tabE_4 h h2 h3]
  refine firstE_zero fun x hx => ?_
  obtain ⟨j, hj, rfl⟩ := List.mem_map.1 hx
  exact ha j (by have := List.mem_range.1 hj; omega)
theorem tab_is {D : List DTab} {nm : List UInt8} (h : 0 ≤ ixOf (fun d : DTab => decide (d.t.nm = nm)) D) : (tabAt (D.map DTab.t) nm).isSome = true := by
  obtain ⟨k, _, _, _, h4⟩ := tab_some (D := D) (nm := nm) (by omega); rw [h4]; rfl
theorem tab_isnt {D : List DTab} {nm : List UInt8} (h : ¬ 0 ≤ ixOf (fun d : DTab => decide (d.t.nm = nm)) D) : (tabAt (D.map DTab.t) nm).isSome = false := by rw [tab_none (by omega)]; rfl
def idxE (T : List PTab) (tb nm : List UInt8) : Int :=
  match tabAt T tb with
  | none => 9
  | some t => if colIx t.cols nm < 0 then 10 else if colIx t.cols nm = 0 ∨ nm ∈ t.idx then 12 else 0
theorem colE_1 {T : List PTab} {l : List PCol} {i : Nat} (h : 0 ≤ ixOf (fun d => decide (d.nm = (l.getD i default).nm)) (l.take i)) : colE T l i = 12 := if_pos h
theorem colE_2 {T : List PTab} {l : List PCol} {i : Nat} (h : ¬ 0 ≤ ixOf (fun d => decide (d.nm = (l.getD i default).nm)) (l.take i)) (h2 : (l.getD i default).kind ≠ 1 ∧ (l.getD i default).kind ≠ 2) : colE T l i = 11 := by unfold colE; rw [if_neg h, if_pos h2]
theorem colE_3 {T : List PTab} {l : List PCol} {i : Nat} (h : ¬ 0 ≤ ixOf (fun d => decide (d.nm = (l.getD i default).nm)) (l.take i)) (h2 : ¬ ((l.getD i default).kind ≠ 1 ∧ (l.getD i default).kind ≠ 2)) (h3 : (l.getD i default).ref = []) : colE T l i = 0 := by unfold colE; rw [if_neg h, if_neg h2, if_pos h3]
theorem colE_4 {T : List PTab} {l : List PCol} {i : Nat} (h : ¬ 0 ≤ ixOf (fun d => decide (d.nm = (l.getD i default).nm)) (l.take i)) (h2 : ¬ ((l.getD i default).kind ≠ 1 ∧ (l.getD i default).kind ≠ 2)) (h3 : ¬ (l.getD i default).ref = []) (h4 : i = 0 ∨ 0 ≤ ixOf (fun d : PCol => decide (d.ref ≠ [])) (l.take i)) : colE T l i = 14 := by unfold colE; rw [if_neg h, if_neg h2, if_neg h3, if_pos h4]
theorem colE_5 {T : List PTab} {l : List PCol} {i : Nat} (h : ¬ 0 ≤ ixOf (fun d => decide (d.nm = (l.getD i default).nm)) (l.take i)) (h2 : ¬ ((l.getD i default).kind ≠ 1 ∧ (l.getD i default).kind ≠ 2)) (h3 : ¬ (l.getD i default).ref = []) (h4 : ¬ (i = 0 ∨ 0 ≤ ixOf (fun d : PCol => decide (d.ref ≠ [])) (l.take i))) :
    colE T l i = (match tabAt T (l.getD i default).ref with | none => 9 | some t => if t.cols.length = 0 ∨ (t.cols.getD 0 default).kind ≠ (l.getD i default).kind then 11 else 0) := by unfold colE; rw [if_neg h, if_neg h2, if_neg h3, if_neg h4]
end Go.Gx

namespace Go.Proofs.Ythflnkfghogaoaa
open Go.Gx Go.RowKit
attribute [local irreducible] wpList wpStill Code.wp Calls

theorem Table2_ret {tv vv : Value} {D : List DTab} {V : List DVw} (x : List UInt8) {w : World} (hT : TsRd w w.heap.size tv D) (hD : D.length ≤ 1000000) (hsz : ∀ d ∈ D, d.t.cols.length ≤ 1000000 ∧ d.t.idx.length ≤ 1000000) (hV : VsFr w 0 w.heap.size vv V) : Ret Try.prog 57 #[(.agg #[tv, vv]), (.string (bs x))] w (fun v' w' => Below w.heap.size w w' ∧ ((tabAt (D.map DTab.t) x = none ∧ v' = .tuple #[.agg #[.string (bs []), .slice none 0 0, .slice none 0 0], .bool false]) ∨ (∃ d : DTab, tabAt (D.map DTab.t) x = some d.t ∧ v' = .tuple #[.agg #[.string (bs d.t.nm), d.cv, d.iv], .bool true] ∧ Own w' w.heap.size 68 3 d.cv d.t.cols.length (d.t.cols.flatMap cellsC) ∧ Own w' w.heap.size 9 1 d.iv d.t.idx.length (d.t.idx.map sv)))) := by
 have hR := hT.1
 have hb := Below.refl w.heap.size w
 refine enter (N := 20) Try.func57 rfl rfl (by simp) fun a0 hN hd hA => ?_
 have s0 : a0.tmps.getD 0 undef = (.agg #[tv, vv]) := hA 0 (by simp)
 have s1 : a0.tmps.getD 1 undef = (.string (bs x)) := hA 1 (by simp)
 clear hA
 refine zF fun K1 hK1 => ?_
 refine zH ?_
 refine op_box (cs := [tv, vv]) (zC hN rfl s0) rfl ?_
 intro w2 b3 lo_b3 hi_b3 hB5 E4
 have := E4.size
 have hR := hR.keep0 E4
 have hT := hT.keep0 E4
 have hV := hV.keep0 E4
 have hb := zP hb E4 hb.size
 refine op_alloc (cs := [(.string (bs [])), (.slice none 0 0), (.slice none 0 0)]) zero55 rfl ?_
 intro w6 b7 lo_b7 hi_b7 hB9 E8
 have := E8.size
 have hR := hR.keep0 E8
 have hT := hT.keep0 E8
 have hV := hV.keep0 E8
 have hB5 := hB5.keep0 E8
 have hb := zP hb E8 hb.size
 refine zD rfl ?_
 refine zB ?_
 refine hK1 _ _ (zF fun K10 hK10 => ?_)
 refine zH ?_
 refine zM fld39_0 (zA hN rfl) ?_
 refine zN (v := tv) one36 (zA hN rfl) (hB5.cell rfl) ?_
 refine zG (zC hN rfl s1) ?_
 refine zj ok84 (findTable (L := (D : List DTab)) x (hR.mono (Nat.zero_le _) zx)) ⟨(zA hN rfl), ⟨(zA hN rfl), ⟨rfl, trivial⟩⟩⟩ ?_
 rintro _ w11 ⟨E12, rfl⟩
 have E12 := zQ E12
 have := E12.size
 have hT := hT.keep0 E12
 have hV := hV.keep0 E12
 obtain ⟨hB5, hB9⟩ := kb2 E12 hB5 hB9
 have hb := zP hb E12 hb.size
 refine zD (zA hN rfl) ?_
 refine zB ?_
 refine hK10 _ _ (zF fun K13 hK13 => ?_)
 refine zF fun K14 hK14 => ?_
 refine zH ?_
 refine zG (zA hN rfl) ?_
 refine op_lss (zA hN rfl) rfl (fun c12 => ?_) (fun c12 => ?_)
 ·
  refine zB ?_
  refine hK14 _ _ (wp_cond_true (zA hN rfl) (zF fun K15 hK15 => ?_))
  refine zH ?_
  refine zf (pv := []) (v := (Value.agg #[(.string (bs [])), (.slice none 0 0), (.slice none 0 0)])) trivial zy ?_
  refine zZ size55 (zA hN rfl) (zA hN rfl) rfl rfl hB9 rfl ?_
  intro w18 hB9 E19
  have := E19.size
  have hb := below_step1 hb E19 hb.size zx
  refine zD rfl ?_
  refine zB ?_
  refine hK15 _ _ (wp_ret (zO ( ?_)))
  refine retN (rs := [.cell 4 55, .tmp 5]) (vs := [(.agg #[(.string (bs [])), (.slice none 0 0), (.slice none 0 0)]), (.bool false)]) rfl hd ⟨⟨_, (zA hN rfl), run_loadA (cs := [(.string (bs [])), (.slice none 0 0), (.slice none 0 0)]) agg55 rfl (fun j u hu => by rw [Nat.zero_add]; exact hB9.cell hu)⟩, ⟨(zA hN rfl), trivial⟩⟩ rfl ⟨_, rfl, ?_⟩
  exact ⟨hb, .inl ⟨tab_none c12, rfl⟩⟩
 refine zB ?_
 refine hK14 _ _ (wp_cond_false (zA hN rfl) (wp_skip (hK13 _ _ (zF fun K20 hK20 => ?_))))
 refine zH ?_
 obtain ⟨k9, hk9, hkl, hkn, hkt⟩ := tab_some c12
 refine zY agg39 rfl (zA hN rfl) hB5 ?_
 refine zj ok60 (twin_ret (hT.mono zx) hD hsz (hV.mono (Nat.zero_le _) zx)) ⟨(zA hN rfl), trivial⟩ ?_
 rintro _ w22 ⟨E23, tv21, vv21, D21, V21, F21, FV21, rfl, hO21, hS21, hM21, hP21, hQ21, hdv21, hdt21, hvl21, hvs21⟩
 have lo_F21 : ∀ x, F21 x → w11.heap.size ≤ x := fun x hx => (hS21.lt x hx).1
 have dj25 : ¬ F21 b7 := fun hf => by have := lo_F21 _ hf; have := hB9.lt; omega
 have lo_FV21 : ∀ x, FV21 x → w11.heap.size ≤ x := fun x hx => (hQ21.lt x hx).1
 have E23 := zQ E23
 have := E23.size
 have hB9 := hB9.keep0 E23
 have hb := zP hb E23 hb.size
 have hO21 := hO21.mono (base' := w.heap.size) zx
 have hP21 := hP21.mono (base' := w.heap.size) zx
 have hS21 : TabsR w22 w.heap.size D21 F21 := hS21.mono zx
 have hQ21 : VsIn w22 w.heap.size V21 FV21 := hQ21.mono zx
 have hDl := dt_len hM21
 have hDt := dt_get hM21 k9
 refine op_fieldv (v := tv21) (zA hN rfl) (by obtain ⟨_, _, _, rfl⟩ := hO21.sl; obtain ⟨_, _, _, rfl⟩ := hP21.sl; kernel_rfl) ?_
 refine zG (zA hN rfl) ?_
 refine zh slt36 (zA hN rfl) hO21.rdw (zA hN rfl) zx zx ?_
 intro b28 o29 h0b28 h1b28 hc30
 refine zX (cs := [(.string (bs (D21.getD k9 default).t.nm)), (D21.getD k9 default).cv, (D21.getD k9 default).iv]) agg55 rfl (zA hN rfl) (fun j u hu => hc30 j u (by have := (List.getElem?_eq_some_iff.1 hu).1; simpa using this) ((el_dt (i := k9) zx zx) j u hu)) ?_
 refine zZ size55 (zA hN rfl) (zA hN rfl) rfl (by simp only [List.all_cons, List.all_nil, Bool.true_and, Bool.and_true, (hS21.1 (D21.getD k9 default) (getD_mem zx)).1.one, (hS21.1 (D21.getD k9 default) (getD_mem zx)).2.one]; try rfl) hB9 rfl ?_
 intro w33 hB9 E34
 have := E34.size
 have hS21 := hS21.keepG (Gr.of E34) (Dj.one dj25)
 have hb := below_step1 hb E34 hb.size zx
 refine zD rfl ?_
 refine zB ?_
 refine hK20 _ _ (wp_ret ?_)
 refine retN (rs := [.cell 4 55, .tmp 5]) (vs := [(.agg #[(.string (bs (D21.getD k9 default).t.nm)), (D21.getD k9 default).cv, (D21.getD k9 default).iv]), (.bool true)]) rfl hd ⟨⟨_, (zA hN rfl), run_loadA (cs := [(.string (bs (D21.getD k9 default).t.nm)), (D21.getD k9 default).cv, (D21.getD k9 default).iv]) agg55 rfl (fun j u hu => by rw [Nat.zero_add]; exact hB9.cell hu)⟩, ⟨(zA hN rfl), trivial⟩⟩ rfl ⟨_, rfl, ?_⟩
 have ho9 := hS21.1 (D21.getD k9 default) (getD_mem zx)
 exact ⟨hb, .inr ⟨_, by rw [hkt, hDt], rfl, ho9.1, ho9.2⟩⟩

theorem Table2T {tv : Value} {vv : Value} {D : List DTab} {V : List DVw} {x : List UInt8} {w : World} (hk : (tabAt (D.map DTab.t) x).isSome = true) (hT : TsRd w w.heap.size tv D) (hD : D.length ≤ 1000000) (hsz : ∀ d ∈ D, d.t.cols.length ≤ 1000000 ∧ d.t.idx.length ≤ 1000000) (hV : VsFr w 0 w.heap.size vv V) : Ret Try.prog 57 #[.agg #[tv, vv], .string (bs x)] w (fun v' w' => Below w.heap.size w w' ∧ ∃ d : DTab, v' = .tuple #[.agg #[.string (bs d.t.nm), d.cv, d.iv], .bool true] ∧ tabAt (D.map DTab.t) x = some d.t ∧ Own w' w.heap.size 68 3 d.cv d.t.cols.length (d.t.cols.flatMap cellsC) ∧ Own w' w.heap.size 9 1 d.iv d.t.idx.length (d.t.idx.map sv)) :=
  (Table2_ret x hT hD hsz hV).mono fun v' w' h => ⟨h.1, h.2.elim (fun q => by rw [q.1] at hk; cases hk) fun ⟨d, h1, h2, h3⟩ => ⟨d, h2, h1, h3⟩⟩
theorem Table2F {tv : Value} {vv : Value} {D : List DTab} {V : List DVw} {x : List UInt8} {w : World} (hk : (tabAt (D.map DTab.t) x).isSome = false) (hT : TsRd w w.heap.size tv D) (hD : D.length ≤ 1000000) (hsz : ∀ d ∈ D, d.t.cols.length ≤ 1000000 ∧ d.t.idx.length ≤ 1000000) (hV : VsFr w 0 w.heap.size vv V) : Ret Try.prog 57 #[.agg #[tv, vv], .string (bs x)] w (fun v' w' => Below w.heap.size w w' ∧ v' = .tuple #[.agg #[.string (bs []), .slice none 0 0, .slice none 0 0], .bool false]) :=
  (Table2_ret x hT hD hsz hV).mono fun v' w' h => ⟨h.1, h.2.elim (fun q => q.2) fun ⟨d, h1, _⟩ => by rw [h1] at hk; cases hk⟩

theorem Column_ret (a : List UInt8) (l : List PCol) (cv iv : Value) (x : List UInt8) (w : World) (hl : RdC w 0 w.heap.size 3 cv l.length (l.flatMap cellsC)) : Ret Try.prog 58 #[(.agg #[(.string (bs a)), cv, iv]), (.string (bs x))] w (fun v' w' => Below w.heap.size w w' ∧ v' = .int .i64 (colIx l x)) := by
 have hb := Below.refl w.heap.size w
 refine enter (N := 9) Try.func58 rfl rfl (by simp) fun a0 hN hd hA => ?_
 have s0 : a0.tmps.getD 0 undef = (.agg #[(.string (bs a)), cv, iv]) := hA 0 (by simp)
 have s1 : a0.tmps.getD 1 undef = (.string (bs x)) := hA 1 (by simp)
 clear hA
 refine zF fun K28 hK28 => ?_
 refine zH ?_
 refine op_box (cs := [(.string (bs a)), cv, iv]) (zC hN rfl s0) rfl ?_
 intro w29 b30 lo_b30 hi_b30 hB32 E31
 have := E31.size
 have hl := hl.keep0 E31
 have hb := zP hb E31 hb.size
 refine zD rfl ?_
 refine zB ?_
 refine hK28 _ _ (zF fun K33 hK33 => ?_)
 refine zH ?_
 refine zM fld55_1 (zA hN rfl) ?_
 refine zN (v := cv) one41 (zA hN rfl) (hB32.cell rfl) ?_
 refine zG (zC hN rfl s1) ?_
 refine zj ok86 (findCol (L := (l : List PCol)) x (hl.mono (Nat.zero_le _) zx)) ⟨(zA hN rfl), ⟨(zA hN rfl), ⟨rfl, trivial⟩⟩⟩ ?_
 rintro _ w34 ⟨E35, rfl⟩
 have E35 := zQ E35
 have := E35.size
 have hl := hl.keep0 E35
 have hb := zP hb E35 hb.size
 refine zD (zA hN rfl) ?_
 refine zB ?_
 refine hK33 _ _ (wp_ret ?_)
 refine ret1 rfl hd (zA hN rfl) ⟨_, rfl, ?_⟩
 exact ⟨hb, rfl⟩

theorem IxS_ix {l : List (List UInt8)} {v : Value} (x : List UInt8) {w : World} (hl : RdC w 0 w.heap.size 1 v l.length (l.map sv)) : Ret Try.prog 105 #[v, (.string (bs x))] w (fun v' w' => Below w.heap.size w w' ∧ v' = .int .i64 (ixOf (fun y => decide (x = y)) l)) := by
 have hlm := rd_len hl
 have hb := Below.refl w.heap.size w
 refine enter (N := 19) Try.func105 rfl rfl (by simp) fun a0 hN hd hA => ?_
 have s0 : a0.tmps.getD 0 undef = v := hA 0 (by simp)
 have s1 : a0.tmps.getD 1 undef = (.string (bs x)) := hA 1 (by simp)
 clear hA
 refine zF fun K1 hK1 => ?_
 refine zH ?_
 refine zD rfl ?_
 refine zB ?_
 refine hK1 _ _ (zF fun K2 hK2 => ?_)
 refine zF fun K3 hK3 => ?_
 refine zH ?_
 refine zG (zC hN rfl s0) ?_
 refine op_len_rd Try.underlying53 (zA hN rfl) hl ?_
 refine zG rfl ?_
 refine zB ?_
 refine hK3 _ _ (wp_block ?_)
 refine loop_m (fun mz_ az_ w' => ∃ (i : Nat), mz_ = l.length - i ∧ (az_.tmps.getD 0 undef = v) ∧ (az_.tmps.getD 1 undef = (.string (bs x))) ∧ (az_.tmps.getD 7 undef = (.int .i64 ((l.length : Nat) : Int))) ∧ (az_.tmps.getD 8 undef = (.int .i64 ((i : Nat) : Int))) ∧ (i ≤ l.length) ∧ (∀ j, j < i → decide (x = (l.getD j [])) = false) ∧ (Below w.heap.size w w') ∧ (w.heap.size ≤ w'.heap.size) ∧ (RdC w' 0 w.heap.size 1 v l.length (l.map sv))) _ hN hd ⟨0, rfl, (zL hN rfl s0), (zL hN rfl s1), (zU hN rfl), (zU hN rfl), (Nat.zero_le _), (fun _ h => absurd h (Nat.not_lt_zero _)), hb, (Nat.le_refl _), hl⟩ ?_
 rintro _ a4 w4 hN4 hd4 ⟨i, rfl, s4_0, s4_1, s4_7, s4_8, hi, hall, hb, zl_w4, hl⟩
 have := hb.size
 refine zF fun K5 hK5 => ?_
 refine zH ?_
 refine op_lss (zC hN4 rfl s4_8) (zC hN4 rfl s4_7) (fun c9 => ?_) (fun c9 => ?_)
 ·
  refine zB ?_
  refine hK5 _ _ (zF fun K6 hK6 => ?_)
  refine wp_cond_true (zA hN4 rfl) (wp_skip (hK6 _ _ (zF fun K7 hK7 => ?_)))
  refine wp_block ?_
  refine zF fun K8 hK8 => ?_
  refine zH ?_
  refine zG (zC hN4 rfl s4_8) ?_
  refine zD (zA hN4 rfl) ?_
  refine zB ?_
  refine hK8 _ _ (zF fun K9 hK9 => ?_)
  refine zH ?_
  refine zG (zC hN4 rfl s4_1) ?_
  refine zG (zC hN4 rfl s4_0) ?_
  refine zG (zA hN4 rfl) ?_
  refine zh slt53 (zA hN4 rfl) hl (zA hN4 rfl) zx zx ?_
  intro b10 o11 h0b10 h1b10 hc12
  refine zN (v := (Value.string (bs (l.getD i [])))) one9 (zA hN4 rfl) (by have := hc12 0 (.string (bs (l.getD i []))) zz (el_sv (i := i) zx zx); simpa using this) ?_
  refine op_seql (zA hN4 rfl) (zA hN4 rfl) (fun c16 => ?_) (fun c16 => ?_)
  ·
   refine zB ?_
   refine hK9 _ _ (wp_cond_true (zA hN4 rfl) (zF fun K13 hK13 => ?_))
   refine zH ?_
   refine zG (zA hN4 rfl) ?_
   refine zD (zA hN4 rfl) ?_
   refine zB ?_
   refine hK13 _ _ (wp_ret (zb (zO (zO (zb (zO ( ?_)))))))
   refine ret1 rfl hd4 (zA hN4 rfl) ⟨_, rfl, ?_⟩
   exact ⟨hb, congrArg (Value.int .i64) (ixOf_hit (p := (fun y => decide (x = y))) zx hall (decide_eq_true c16)).symm⟩
  refine zB ?_
  refine hK9 _ _ (wp_cond_false (zA hN4 rfl) (wp_skip (hK7 _ _ (zH ?_))))
  refine op_add (zC hN4 rfl s4_8) rfl (add64 zx) ?_
  refine zG (zA hN4 rfl) ?_
  refine zB ?_
  -- round 9T 16F
  exact zg _ hN4 hd4 ⟨(i + 1), rfl, (zL hN4 rfl s4_0), (zL hN4 rfl s4_1), (zL hN4 rfl s4_7), (zU hN4 rfl).trans (congrArg (Value.int .i64) zx), zx, (all_next hall (decide_eq_false c16)), hb, zx, hl⟩ zx
 refine zB ?_
 refine hK5 _ _ (zF fun K14 hK14 => ?_)
 refine wp_cond_false (zA hN4 rfl) (wp_exit (then_exit (then_exit (blk_hit ?_))))
 refine hK2 _ _ (zF fun K15 hK15 => ?_)
 refine zH ?_
 refine zD rfl ?_
 refine zB ?_
 refine hK15 _ _ (wp_ret ?_)
 refine ret1 rfl hd4 (zA hN4 rfl) ⟨_, rfl, ?_⟩
 exact ⟨hb, congrArg (Value.int .i64) (ixOf_none (p := (fun y => decide (x = y))) zx hall).symm⟩

theorem IxS_has {l : List (List UInt8)} {v : Value} (x : List UInt8) {w : World} (hl : RdC w 0 w.heap.size 1 v l.length (l.map sv)) : Ret Try.prog 88 #[v, (.string (bs x))] w (fun v' w' => Below w.heap.size w w' ∧ v' = .bool (decide (x ∈ l))) := by
 have hb := Below.refl w.heap.size w
 refine enter (N := 9) Try.func88 rfl rfl (by simp) fun a0 hN hd hA => ?_
 have s0 : a0.tmps.getD 0 undef = v := hA 0 (by simp)
 have s1 : a0.tmps.getD 1 undef = (.string (bs x)) := hA 1 (by simp)
 clear hA
 refine zF fun K16 hK16 => ?_
 refine zH ?_
 refine zD rfl ?_
 refine zB ?_
 refine hK16 _ _ (zF fun K17 hK17 => ?_)
 refine zH ?_
 refine zG (zC hN rfl s0) ?_
 refine zG (zC hN rfl s1) ?_
 refine zj ok105 (IxS_ix x (hl.mono (Nat.zero_le _) zx)) ⟨(zA hN rfl), ⟨(zA hN rfl), trivial⟩⟩ ?_
 rintro _ w18 ⟨E19, rfl⟩
 have E19 := zQ E19
 have := E19.size
 have hl := hl.keep0 E19
 have hb := zP hb E19 hb.size
 refine op_geq (zA hN rfl) rfl (fun c8 => ?_) (fun c8 => ?_)
 ·
  refine zD (zA hN rfl) ?_
  refine zB ?_
  refine hK17 _ _ (wp_ret ?_)
  refine ret1 rfl hd (zA hN rfl) ⟨_, rfl, ?_⟩
  exact ⟨hb, congrArg Value.bool (decide_eq_true (ix_mem.1 c8)).symm⟩
 refine zD (zA hN rfl) ?_
 refine zB ?_
 refine hK17 _ _ (wp_ret ?_)
 refine ret1 rfl hd (zA hN rfl) ⟨_, rfl, ?_⟩
 exact ⟨hb, congrArg Value.bool (decide_eq_false (fun h => c8 (ix_mem.2 h))).symm⟩

theorem IxI_ix {l : List (Int)} {v : Value} (x : Int) {w : World} (hl : RdC w 0 w.heap.size 1 v l.length (l.map (Value.int .i64))) : Ret Try.prog 115 #[v, (.int .i64 x)] w (fun v' w' => Below w.heap.size w w' ∧ v' = .int .i64 (ixOf (fun y => decide (x = y)) l)) := by
 have hlm := rd_len hl
 have hb := Below.refl w.heap.size w
 refine enter (N := 19) Try.func115 rfl rfl (by simp) fun a0 hN hd hA => ?_
 have s0 : a0.tmps.getD 0 undef = v := hA 0 (by simp)
 have s1 : a0.tmps.getD 1 undef = (.int .i64 x) := hA 1 (by simp)
 clear hA
 refine zF fun K20 hK20 => ?_
 refine zH ?_
 refine zD rfl ?_
 refine zB ?_
 refine hK20 _ _ (zF fun K21 hK21 => ?_)
 refine zF fun K22 hK22 => ?_
 refine zH ?_
 refine zG (zC hN rfl s0) ?_
 refine op_len_rd Try.underlying23 (zA hN rfl) hl ?_
 refine zG rfl ?_
 refine zB ?_
 refine hK22 _ _ (wp_block ?_)
 refine loop_m (fun mz_ az_ w' => ∃ (i : Nat), mz_ = l.length - i ∧ (az_.tmps.getD 0 undef = v) ∧ (az_.tmps.getD 1 undef = (.int .i64 x)) ∧ (az_.tmps.getD 7 undef = (.int .i64 ((l.length : Nat) : Int))) ∧ (az_.tmps.getD 8 undef = (.int .i64 ((i : Nat) : Int))) ∧ (i ≤ l.length) ∧ (∀ j, j < i → decide (x = (l.getD j 0)) = false) ∧ (Below w.heap.size w w') ∧ (w.heap.size ≤ w'.heap.size) ∧ (RdC w' 0 w.heap.size 1 v l.length (l.map (Value.int .i64)))) _ hN hd ⟨0, rfl, (zL hN rfl s0), (zL hN rfl s1), (zU hN rfl), (zU hN rfl), (Nat.zero_le _), (fun _ h => absurd h (Nat.not_lt_zero _)), hb, (Nat.le_refl _), hl⟩ ?_
 rintro _ a23 w23 hN23 hd23 ⟨i, rfl, s23_0, s23_1, s23_7, s23_8, hi, hall, hb, zl_w23, hl⟩
 have := hb.size
 refine zF fun K24 hK24 => ?_
 refine zH ?_
 refine op_lss (zC hN23 rfl s23_8) (zC hN23 rfl s23_7) (fun c9 => ?_) (fun c9 => ?_)
 ·
  refine zB ?_
  refine hK24 _ _ (zF fun K25 hK25 => ?_)
  refine wp_cond_true (zA hN23 rfl) (wp_skip (hK25 _ _ (zF fun K26 hK26 => ?_)))
  refine wp_block ?_
  refine zF fun K27 hK27 => ?_
  refine zH ?_
  refine zG (zC hN23 rfl s23_8) ?_
  refine zD (zA hN23 rfl) ?_
  refine zB ?_
  refine hK27 _ _ (zF fun K28 hK28 => ?_)
  refine zH ?_
  refine zG (zC hN23 rfl s23_1) ?_
  refine zG (zC hN23 rfl s23_0) ?_
  refine zG (zA hN23 rfl) ?_
  refine zh slt23 (zA hN23 rfl) hl (zA hN23 rfl) zx zx ?_
  intro b29 o30 h0b29 h1b29 hc31
  refine zN (v := (Value.int .i64 (l.getD i 0))) one3 (zA hN23 rfl) (by have := hc31 0 (.int .i64 (l.getD i 0)) zz (el_i64 (i := i) zx zx); simpa using this) ?_
  refine op_eql (zA hN23 rfl) (zA hN23 rfl) (fun c16 => ?_) (fun c16 => ?_)
  ·
   refine zB ?_
   refine hK28 _ _ (wp_cond_true (zA hN23 rfl) (zF fun K32 hK32 => ?_))
   refine zH ?_
   refine zG (zA hN23 rfl) ?_
   refine zD (zA hN23 rfl) ?_
   refine zB ?_
   refine hK32 _ _ (wp_ret (zb (zO (zO (zb (zO ( ?_)))))))
   refine ret1 rfl hd23 (zA hN23 rfl) ⟨_, rfl, ?_⟩
   exact ⟨hb, congrArg (Value.int .i64) (ixOf_hit (p := (fun y => decide (x = y))) zx hall (decide_eq_true c16)).symm⟩
  refine zB ?_
  refine hK28 _ _ (wp_cond_false (zA hN23 rfl) (wp_skip (hK26 _ _ (zH ?_))))
  refine op_add (zC hN23 rfl s23_8) rfl (add64 zx) ?_
  refine zG (zA hN23 rfl) ?_
  refine zB ?_
  -- round 9T 16F
  exact zg _ hN23 hd23 ⟨(i + 1), rfl, (zL hN23 rfl s23_0), (zL hN23 rfl s23_1), (zL hN23 rfl s23_7), (zU hN23 rfl).trans (congrArg (Value.int .i64) zx), zx, (all_next hall (decide_eq_false c16)), hb, zx, hl⟩ zx
 refine zB ?_
 refine hK24 _ _ (zF fun K33 hK33 => ?_)
 refine wp_cond_false (zA hN23 rfl) (wp_exit (then_exit (then_exit (blk_hit ?_))))
 refine hK21 _ _ (zF fun K34 hK34 => ?_)
 refine zH ?_
 refine zD rfl ?_
 refine zB ?_
 refine hK34 _ _ (wp_ret ?_)
 refine ret1 rfl hd23 (zA hN23 rfl) ⟨_, rfl, ?_⟩
 exact ⟨hb, congrArg (Value.int .i64) (ixOf_none (p := (fun y => decide (x = y))) zx hall).symm⟩

theorem IxI_has {l : List (Int)} {v : Value} (x : Int) {w : World} (hl : RdC w 0 w.heap.size 1 v l.length (l.map (Value.int .i64))) : Ret Try.prog 95 #[v, (.int .i64 x)] w (fun v' w' => Below w.heap.size w w' ∧ v' = .bool (decide (x ∈ l))) := by
 have hb := Below.refl w.heap.size w
 refine enter (N := 9) Try.func95 rfl rfl (by simp) fun a0 hN hd hA => ?_
 have s0 : a0.tmps.getD 0 undef = v := hA 0 (by simp)
 have s1 : a0.tmps.getD 1 undef = (.int .i64 x) := hA 1 (by simp)
 clear hA
 refine zF fun K35 hK35 => ?_
 refine zH ?_
 refine zD rfl ?_
 refine zB ?_
 refine hK35 _ _ (zF fun K36 hK36 => ?_)
 refine zH ?_
 refine zG (zC hN rfl s0) ?_
 refine zG (zC hN rfl s1) ?_
 refine zj ok115 (IxI_ix x (hl.mono (Nat.zero_le _) zx)) ⟨(zA hN rfl), ⟨(zA hN rfl), trivial⟩⟩ ?_
 rintro _ w37 ⟨E38, rfl⟩
 have E38 := zQ E38
 have := E38.size
 have hl := hl.keep0 E38
 have hb := zP hb E38 hb.size
 refine op_geq (zA hN rfl) rfl (fun c8 => ?_) (fun c8 => ?_)
 ·
  refine zD (zA hN rfl) ?_
  refine zB ?_
  refine hK36 _ _ (wp_ret ?_)
  refine ret1 rfl hd (zA hN rfl) ⟨_, rfl, ?_⟩
  exact ⟨hb, congrArg Value.bool (decide_eq_true (ix_mem.1 c8)).symm⟩
 refine zD (zA hN rfl) ?_
 refine zB ?_
 refine hK36 _ _ (wp_ret ?_)
 refine ret1 rfl hd (zA hN rfl) ⟨_, rfl, ?_⟩
 exact ⟨hb, congrArg Value.bool (decide_eq_false (fun h => c8 (ix_mem.2 h))).symm⟩

theorem Indexed_ret {a : List UInt8} {l : List PCol} {ix : List (List UInt8)} {cv iv : Value} (x : List UInt8) {w : World} (hl : RdC w 0 w.heap.size 3 cv l.length (l.flatMap cellsC)) (hi : RdC w 0 w.heap.size 1 iv ix.length (ix.map sv)) : Ret Try.prog 59 #[(.agg #[(.string (bs a)), cv, iv]), (.string (bs x))] w (fun v' w' => Below w.heap.size w w' ∧ v' = .bool (decide (colIx l x = 0 ∨ x ∈ ix))) := by
 have hb := Below.refl w.heap.size w
 refine enter (N := 15) Try.func59 rfl rfl (by simp) fun a0 hN hd hA => ?_
 have s0 : a0.tmps.getD 0 undef = (.agg #[(.string (bs a)), cv, iv]) := hA 0 (by simp)
 have s1 : a0.tmps.getD 1 undef = (.string (bs x)) := hA 1 (by simp)
 clear hA
 refine zF fun K39 hK39 => ?_
 refine zH ?_
 refine op_box (cs := [(.string (bs a)), cv, iv]) (zC hN rfl s0) rfl ?_
 intro w40 b41 lo_b41 hi_b41 hB43 E42
 have := E42.size
 have hl := hl.keep0 E42
 have hi := hi.keep0 E42
 have hb := zP hb E42 hb.size
 refine zD rfl ?_
 refine zB ?_
 refine hK39 _ _ (zF fun K44 hK44 => ?_)
 refine zH ?_
 refine zY agg55 rfl (zA hN rfl) hB43 ?_
 refine zG (zC hN rfl s1) ?_
 refine zj ok58 (Column_ret a l _ iv x _ (hl.mono (Nat.zero_le _) zx)) ⟨(zA hN rfl), ⟨(zA hN rfl), trivial⟩⟩ ?_
 rintro _ w45 ⟨E46, rfl⟩
 have E46 := zQ E46
 have := E46.size
 have hl := hl.keep0 E46
 have hi := hi.keep0 E46
 have hB43 := hB43.keep0 E46
 have hb := zP hb E46 hb.size
 refine op_eql (zA hN rfl) rfl (fun c8 => ?_) (fun c8 => ?_)
 ·
  refine zG (zA hN rfl) ?_
  refine zR (j := 4) (dj := 9) (b := false) rfl rfl rfl (zA hN rfl) rfl rfl ?_
  refine zR (j := 4) (dj := 9) (b := false) rfl rfl rfl (zA hN rfl) rfl rfl ?_
  refine zR (j := 4) (dj := 9) (b := false) rfl rfl rfl (zA hN rfl) rfl rfl ?_
  refine zR (j := 4) (dj := 9) (b := false) rfl rfl rfl (zA hN rfl) rfl rfl ?_
  refine zc (zA hN rfl) rfl ?_
  refine zD (zA hN rfl) ?_
  refine zB ?_
  refine hK44 _ _ (wp_ret ?_)
  refine ret1 rfl hd (zA hN rfl) ⟨_, rfl, ?_⟩
  exact ⟨hb, congrArg Value.bool (decide_eq_true (.inl c8)).symm⟩
 refine zG (zA hN rfl) ?_
 refine zS (j := 4) (dj := 9) (b := false) rfl rfl rfl (zA hN rfl) ?_
 refine zM fld55_2 (zA hN rfl) ?_
 refine zS (j := 4) (dj := 9) (b := false) rfl rfl rfl (zA hN rfl) ?_
 refine zN (v := iv) one53 (zA hN rfl) (hB43.cell rfl) ?_
 refine zS (j := 4) (dj := 9) (b := false) rfl rfl rfl (zA hN rfl) ?_
 refine zG (zC hN rfl s1) ?_
 refine zS (j := 4) (dj := 9) (b := false) rfl rfl rfl (zA hN rfl) ?_
 refine zj ok88 (IxS_has x (hi.mono (Nat.zero_le _) zx)) ⟨(zA hN rfl), ⟨(zA hN rfl), trivial⟩⟩ ?_
 rintro _ w47 ⟨E48, rfl⟩
 have E48 := zQ E48
 have := E48.size
 have hl := hl.keep0 E48
 have hb := zP hb E48 hb.size
 rcases Bool.eq_false_or_eq_true ((decide (x ∈ ix))) with c13 | c13
 ·
  rw [c13]
  refine zd (zA hN rfl) (zA hN rfl) ?_
  refine zD (zA hN rfl) ?_
  refine zB ?_
  refine hK44 _ _ (wp_ret ?_)
  refine ret1 rfl hd (zA hN rfl) ⟨_, rfl, ?_⟩
  exact ⟨hb, congrArg Value.bool (decide_eq_true (.inr (of_decide_eq_true c13))).symm⟩
 rw [c13]
 refine zd (zA hN rfl) (zA hN rfl) ?_
 refine zD (zA hN rfl) ?_
 refine zB ?_
 refine hK44 _ _ (wp_ret ?_)
 refine ret1 rfl hd (zA hN rfl) ⟨_, rfl, ?_⟩
 exact ⟨hb, congrArg Value.bool (decide_eq_false (fun h => h.elim c8 (of_decide_eq_false c13))).symm⟩

theorem colR1 (d : PCol) {w : World} : Ret Try.prog 111 #[(.agg #[(.string (bs d.nm)), (.int .i64 d.kind), (.string (bs d.ref))])] w (fun v' w' => Below w.heap.size w w' ∧ v' = .bool (decide (d.ref ≠ []))) := by
 have hb := Below.refl w.heap.size w
 refine enter (N := 6) Try.func111 rfl rfl (by simp) fun a0 hN hd hA => ?_
 have s0 : a0.tmps.getD 0 undef = (.agg #[(.string (bs d.nm)), (.int .i64 d.kind), (.string (bs d.ref))]) := hA 0 (by simp)
 clear hA
 refine zF fun K49 hK49 => ?_
 refine zH ?_
 refine op_box (cs := [(.string (bs d.nm)), (.int .i64 d.kind), (.string (bs d.ref))]) (zC hN rfl s0) rfl ?_
 intro w50 b51 lo_b51 hi_b51 hB53 E52
 have := E52.size
 have hb := zP hb E52 hb.size
 refine zD rfl ?_
 refine zB ?_
 refine hK49 _ _ (zF fun K54 hK54 => ?_)
 refine zH ?_
 refine zM fld68_2 (zA hN rfl) ?_
 refine zN (v := (Value.string (bs d.ref))) one9 (zA hN rfl) (hB53.cell rfl) ?_
 refine op_sneq (zA hN rfl) rfl (fun c5 => ?_) (fun c5 => ?_)
 ·
  refine zD (zA hN rfl) ?_
  refine zB ?_
  refine hK54 _ _ (wp_ret ?_)
  refine ret1 rfl hd (zA hN rfl) ⟨_, rfl, ?_⟩
  exact ⟨hb, congrArg Value.bool (decide_eq_true c5).symm⟩
 refine zD (zA hN rfl) ?_
 refine zB ?_
 refine hK54 _ _ (wp_ret ?_)
 refine ret1 rfl hd (zA hN rfl) ⟨_, rfl, ?_⟩
 exact ⟨hb, congrArg Value.bool (decide_eq_false (fun h => h c5)).symm⟩

theorem ContRef {L : List PCol} {v : Value} {w : World} (hl : RdC w 0 w.heap.size 3 v L.length (L.flatMap cellsC)) : Ret Try.prog 64 #[v, (.func (.func 111) #[] #[])] w (fun v' w' => Below w.heap.size w w' ∧ v' = .bool (decide (0 ≤ ixOf (fun d : PCol => decide (d.ref ≠ [])) L))) := by
 have hb := Below.refl w.heap.size w
 refine enter (N := 9) Try.func64 rfl rfl (by simp) fun a0 hN hd hA => ?_
 have s0 : a0.tmps.getD 0 undef = v := hA 0 (by simp)
 have s1 : a0.tmps.getD 1 undef = (.func (.func 111) #[] #[]) := hA 1 (by simp)
 clear hA
 refine zF fun K61 hK61 => ?_
 refine zH ?_
 refine zD rfl ?_
 refine zB ?_
 refine hK61 _ _ (zF fun K62 hK62 => ?_)
 refine zH ?_
 refine zG (zC hN rfl s0) ?_
 refine zG (zC hN rfl s1) ?_
 refine zj ok97 (IdxC (g := 111) (fs := []) (cs := []) (p := (fun d : PCol => decide (d.ref ≠ []))) (hl.mono (Nat.zero_le _) zx) ok111 (fun i hi w1 E9 => colR1 (L.getD i default))) ⟨(zA hN rfl), ⟨(zA hN rfl), trivial⟩⟩ ?_
 rintro _ w63 ⟨E64, rfl⟩
 have E64 := zQ E64
 have := E64.size
 have hl := hl.keep0 E64
 have hb := zP hb E64 hb.size
 refine op_geq (zA hN rfl) rfl (fun c8 => ?_) (fun c8 => ?_)
 ·
  refine zD (zA hN rfl) ?_
  refine zB ?_
  refine hK62 _ _ (wp_ret ?_)
  refine ret1 rfl hd (zA hN rfl) ⟨_, rfl, ?_⟩
  exact ⟨hb, congrArg Value.bool (decide_eq_true c8).symm⟩
 refine zD (zA hN rfl) ?_
 refine zB ?_
 refine hK62 _ _ (wp_ret ?_)
 refine ret1 rfl hd (zA hN rfl) ⟨_, rfl, ?_⟩
 exact ⟨hb, congrArg Value.bool (decide_eq_false c8).symm⟩

theorem col_ret {tv vv cv : Value} {D : List DTab} {V : List DVw} {cols : List PCol} {i : Nat} {w : World} (hT : TsRd w w.heap.size tv D) (hD : D.length ≤ 1000000) (hsz : ∀ d ∈ D, d.t.cols.length ≤ 1000000 ∧ d.t.idx.length ≤ 1000000) (hV : VsFr w 0 w.heap.size vv V) (hc : RdC w 0 w.heap.size 3 cv cols.length (cols.flatMap cellsC)) (hi : i < cols.length) : Ret Try.prog 93 #[(.agg #[tv, vv]), cv, (.int .i64 ((i : Nat) : Int))] w (fun v' w' => Below w.heap.size w w' ∧ v' = .int .i64 (colE (D.map DTab.t) cols i)) := by
 have hR := hT.1
 have hcm := rd_len hc
 obtain ⟨c9, hcap, hc99⟩ := rd_capC hc zx
 have hch := rd_hiC hc (Nat.le_of_lt hi) zx
 have hb := Below.refl w.heap.size w
 refine enter (N := 67) Try.func93 rfl rfl (by simp) fun a0 hN hd hA => ?_
 have s0 : a0.tmps.getD 0 undef = (.agg #[tv, vv]) := hA 0 (by simp)
 have s1 : a0.tmps.getD 1 undef = cv := hA 1 (by simp)
 have s2 : a0.tmps.getD 2 undef = (.int .i64 ((i : Nat) : Int)) := hA 2 (by simp)
 clear hA
 refine zF fun K1 hK1 => ?_
 refine zH ?_
 refine op_box (cs := [tv, vv]) (zC hN rfl s0) rfl ?_
 intro w2 b3 lo_b3 hi_b3 hB5 E4
 have := E4.size
 have hT := hT.keep0 E4
 have hV := hV.keep0 E4
 have hc := hc.keep0 E4
 have hch := hch.keep0 E4
 have hb := zP hb E4 hb.size
 refine zD rfl ?_
 refine zB ?_
 refine hK1 _ _ (zF fun K6 hK6 => ?_)
 refine zH ?_
 refine zG (zC hN rfl s1) ?_
 refine zG (zC hN rfl s2) ?_
 refine zh slt41 (zA hN rfl) hc (zA hN rfl) zx zx ?_
 intro b7 o8 h0b7 h1b7 hc9
 refine zX (cs := [(.string (bs (cols.getD i default).nm)), (.int .i64 (cols.getD i default).kind), (.string (bs (cols.getD i default).ref))]) agg68 rfl (zA hN rfl) (fun j u hu => hc9 j u (by have := (List.getElem?_eq_some_iff.1 hu).1; simpa using this) ((el_pc (i := i) zx zx) j u hu)) ?_
 refine op_alloc (cs := [(.string (bs [])), (.int .i64 0), (.string (bs []))]) zero68 rfl ?_
 intro w10 b11 lo_b11 hi_b11 hB13 E12
 have := E12.size
 have hT := hT.keep0 E12
 have hV := hV.keep0 E12
 have hc := hc.keep0 E12
 have hch := hch.keep0 E12
 have hB5 := hB5.keep0 E12
 have hb := zP hb E12 hb.size
 have hB13_old := hB13
 refine zZ size68 (zA hN rfl) (zA hN rfl) rfl rfl hB13 rfl ?_
 intro w16 hB13 E17
 have := E17.size
 have hT := hT.keep E17 sR
 have hV := hV.keep E17 sO
 have hc := hc.keep E17 sR
 have hch := hch.keep E17 sR
 have hB5 := hB5.keep E17 (sN hB5 hB13_old)
 have hb := below_step1 hb E17 hb.size zx
 refine zB ?_
 refine hK6 _ _ (zF fun K18 hK18 => ?_)
 refine zH ?_
 refine zY agg39 rfl (zA hN rfl) hB5 ?_
 refine zM fld68_2 (zA hN rfl) ?_
 refine zN (v := (Value.string (bs (cols.getD i default).ref))) one9 (zA hN rfl) (hB13.cell rfl) ?_
 rcases Bool.eq_false_or_eq_true ((tabAt (D.map DTab.t) ((cols.getD i default).ref)).isSome) with k18 | k18
 ·
  refine zj ok57 (Table2T k18 (hT.mono zx) hD hsz (hV.mono (Nat.zero_le _) zx)) ⟨(zA hN rfl), ⟨(zA hN rfl), trivial⟩⟩ ?_
  rintro _ w20 ⟨E21, d19, rfl, ht19, hO19, hP19⟩
  have E21 := zQ E21
  have := E21.size
  have hc := hc.keep0 E21
  have hch := hch.keep0 E21
  have hB13 := hB13.keep0 E21
  have hb := zP hb E21 hb.size
  have hO19 := hO19.mono (base' := w.heap.size) zx
  have hP19 := hP19.mono (base' := w.heap.size) zx
  refine zG (zA hN rfl) ?_
  refine zW (zA hN rfl) rfl ?_
  refine zW (zA hN rfl) rfl ?_
  refine op_alloc (cs := [(.string (bs [])), (.slice none 0 0), (.slice none 0 0)]) zero55 rfl ?_
  intro w22 b23 lo_b23 hi_b23 hB25 E24
  have := E24.size
  have hc := hc.keep0 E24
  have hch := hch.keep0 E24
  have hB13 := hB13.keep0 E24
  have hO19 := hO19.keep0 E24
  have hP19 := hP19.keep0 E24
  have hb := zP hb E24 hb.size
  have hB25_old := hB25
  refine zZ size55 (zA hN rfl) (zA hN rfl) rfl (by simp only [List.all_cons, List.all_nil, Bool.true_and, Bool.and_true, hO19.one, hP19.one]; try rfl) hB25 rfl ?_
  intro w28 hB25 E29
  have := E29.size
  have hc := hc.keep E29 sR
  have hch := hch.keep E29 sR
  have hB13 := hB13.keep E29 (sN hB13 hB25_old)
  have hO19 := hO19.keepX hB25_old E29 zz
  have hb := below_step1 hb E29 hb.size zx
  refine zD (zA hN rfl) ?_
  refine zB ?_
  refine hK18 _ _ (zF fun K30 hK30 => ?_)
  refine wp_block ?_
  refine zF fun K31 hK31 => ?_
  refine reg_split (hd := [_, _, _, _, _, _]) (tl := _) 6 mixed zy rfl rfl ?_
  refine any_env (φ := phiV [(fun uz => uz = cv), (fun uz => uz = (.int .i64 ((i : Nat) : Int))), (fun uz => uz = (hiV cv i)), (fun uz => uz = (ptr b11 0)), (fun uz => uz = (.string (bs (cols.getD i default).nm))), (fun _ => True)]) (G := fun w' => Bx w' b11 68 [(.string (bs (cols.getD i default).nm)), (.int .i64 (cols.getD i default).kind), (.string (bs (cols.getD i default).ref))]) [5] zy zy zy zy hN (fun w1 w2 E h => h.keep0 E) hB13 (ObEs.cons ?_ (ObEs.cons ?_ (ObEs.cons ?_ (ObEs.cons ?_ (ObEs.cons ?_ (ObEs.pass rfl (ObEs.nil))))))) (by simp only [putsL_defers]) ?_
  ·
   intro eA aA wA hNA hGA hbsA hdpA
   have qA_1 := (hbsA 1 rfl).trans (zL hN rfl s1)
   refine zG (zC hNA rfl qA_1) ?_
   exact obE_end rfl rfl rfl
  ·
   intro eA aA wA hNA hGA hbsA hdpA
   have qA_2 := (hbsA 2 rfl).trans (zL hN rfl s2)
   refine zG (zC hNA rfl qA_2) ?_
   exact obE_end rfl rfl rfl
  ·
   intro eA aA wA hNA hGA hbsA hdpA
   have qA_22 : Sl aA 22 cv := (hdpA 0 _ 22 zy rfl rfl).2 rfl
   have qA_23 : Sl aA 23 (.int .i64 ((i : Nat) : Int)) := (hdpA 1 _ 23 zy rfl rfl).2 rfl
   refine op_slice_hiC (m := i) slt41 (zC hNA rfl qA_22) hcap (zC hNA rfl qA_23) rfl zx ?_
   exact obE_end rfl rfl rfl
  ·
   intro eA aA wA hNA hGA hbsA hdpA
   have qA_7 := (hbsA 7 rfl).trans (zU hN rfl)
   refine zM fld68_0 (zC hNA rfl qA_7) ?_
   exact obE_end rfl rfl rfl
  ·
   intro eA aA wA hNA hGA hbsA hdpA
   have qA_25 : Sl aA 25 (ptr b11 0) := (hdpA 3 _ 25 zy rfl rfl).2 rfl
   refine zN (v := (Value.string (bs (cols.getD i default).nm))) one9 (zC hNA rfl qA_25) (hGA.cell rfl) ?_
   exact obE_end rfl rfl rfl
  intro w32 E32 _ a32 hN32 hbs32 hdp32 o_ ho_; obtain rfl := zE ho_
  have := E32.size
  have hc := hc.keep0 E32
  have hch := hch.keep0 E32
  have hO19 := hO19.keep0 E32
  obtain ⟨hB13, hB25⟩ := kb2 E32 hB13 hB25
  have hb := zP hb E32 hb.size
  have q32_24 : Sl a32 24 (hiV cv i) := (hdp32 2 _ 24 zy rfl rfl).2 rfl
  have q32_26 : Sl a32 26 (.string (bs (cols.getD i default).nm)) := (hdp32 4 _ 26 zy rfl rfl).2 rfl
  refine zj ok86 (findCol (L := ((cols.take i) : List PCol)) ((cols.getD i default).nm) (hch.mono (Nat.zero_le _) zx)) ⟨(zC hN32 rfl q32_24), ⟨(zC hN32 rfl q32_26), ⟨rfl, trivial⟩⟩⟩ ?_
  rintro _ w33 ⟨E34, rfl⟩
  have E34 := zQ E34
  have := E34.size
  have hc := hc.keep0 E34
  have hch := hch.keep0 E34
  have hO19 := hO19.keep0 E34
  obtain ⟨hB13, hB25⟩ := kb2 E34 hB13 hB25
  have hb := zP hb E34 hb.size
  refine ke_end rfl zz rfl hB13 ?_
  intro w35 E35 a35 hN35 hd35 hbs35 hph35
  have hd35 := hd35.trans ((by simp only [putsL_defers] : _ = _).trans hd)
  have := E35.size
  have hc := hc.keep0 E35
  have hch := hch.keep0 E35
  have hO19 := hO19.keep0 E35
  obtain ⟨hB13, hB25⟩ := kb2 E35 hB13 hB25
  have hb := zP hb E35 hb.size
  have s35_1 := (hbs35 1 rfl).trans (zL hN rfl s1)
  have s35_2 := (hbs35 2 rfl).trans (zL hN rfl s2)
  have s35_7 := (hbs35 7 rfl).trans (zU hN rfl)
  have s35_8 := (hbs35 8 rfl).trans (zU hN rfl)
  have s35_9 := (hbs35 9 rfl).trans (zU hN rfl)
  have s35_27 : Sl a35 27 (.int .i64 (ixOf (fun d => decide (d.nm = (cols.getD i default).nm)) (cols.take i))) := (zE ((hph35 5 _ 27 rfl rfl).1 0 rfl)).symm
  refine split_end ?_
  refine from_seq (tl := [_, _]) zz zy rfl ?_
  refine op_geq (zC hN35 rfl s35_27) rfl (fun c28 => ?_) (fun c28 => ?_)
  ·
   refine zD (zA hN35 rfl) ?_
   refine zB ?_
   refine hK31 _ _ (wp_cond_true (zA hN35 rfl) (zF fun K36 hK36 => ?_))
   refine zH ?_
   refine zD rfl ?_
   refine zB ?_
   refine hK36 _ _ (wp_ret (zb (zO ( ?_))))
   refine ret1 rfl hd35 (zA hN35 rfl) ⟨_, rfl, ?_⟩
   have e9 : colE (D.map DTab.t) cols i = 12 := colE_1 c28
   rw [e9]; exact ⟨hb, rfl⟩
  refine zD (zA hN35 rfl) ?_
  refine zB ?_
  refine hK31 _ _ (wp_cond_false (zA hN35 rfl) (zF fun K37 hK37 => ?_))
  refine zH ?_
  refine zM fld68_1 (zC hN35 rfl s35_7) ?_
  refine zN (v := (Value.int .i64 (cols.getD i default).kind)) one3 (zA hN35 rfl) (hB13.cell rfl) ?_
  refine op_neq (zA hN35 rfl) rfl (fun c32 => ?_) (fun c32 => ?_)
  ·
   refine zG (zA hN35 rfl) ?_
   refine zS (j := 3) (dj := 33) (b := true) rfl rfl rfl (zA hN35 rfl) ?_
   refine zM fld68_1 (zC hN35 rfl s35_7) ?_
   refine zS (j := 3) (dj := 33) (b := true) rfl rfl rfl (zA hN35 rfl) ?_
   refine zN (v := (Value.int .i64 (cols.getD i default).kind)) one3 (zA hN35 rfl) (hB13.cell rfl) ?_
   refine zS (j := 3) (dj := 33) (b := true) rfl rfl rfl (zA hN35 rfl) ?_
   refine op_neq (zA hN35 rfl) rfl (fun c36 => ?_) (fun c36 => ?_)
   ·
    refine zc (zA hN35 rfl) (zA hN35 rfl) ?_
    refine zD (zA hN35 rfl) ?_
    refine zB ?_
    refine hK37 _ _ (wp_cond_true (zA hN35 rfl) (zF fun K38 hK38 => ?_))
    refine zH ?_
    refine zD rfl ?_
    refine zB ?_
    refine hK38 _ _ (wp_ret (zb (zO ( ?_))))
    refine ret1 rfl hd35 (zA hN35 rfl) ⟨_, rfl, ?_⟩
    have e9 : colE (D.map DTab.t) cols i = 11 := colE_2 c28 ⟨c32, c36⟩
    rw [e9]; exact ⟨hb, rfl⟩
   refine zc (zA hN35 rfl) (zA hN35 rfl) ?_
   refine zD (zA hN35 rfl) ?_
   refine zB ?_
   refine hK37 _ _ (wp_cond_false (zA hN35 rfl) (zF fun K39 hK39 => ?_))
   refine zH ?_
   refine zM fld68_2 (zC hN35 rfl s35_7) ?_
   refine zN (v := (Value.string (bs (cols.getD i default).ref))) one9 (zA hN35 rfl) (hB13.cell rfl) ?_
   refine op_seql (zA hN35 rfl) rfl (fun c41 => ?_) (fun c41 => ?_)
   ·
    refine zD (zA hN35 rfl) ?_
    refine zB ?_
    refine hK39 _ _ (wp_cond_true (zA hN35 rfl) (zF fun K40 hK40 => ?_))
    refine zH ?_
    refine zD rfl ?_
    refine zB ?_
    refine hK40 _ _ (wp_ret (zb (zO ( ?_))))
    refine ret1 rfl hd35 (zA hN35 rfl) ⟨_, rfl, ?_⟩
    have e9 : colE (D.map DTab.t) cols i = 0 := colE_3 c28 zx c41
    rw [e9]; exact ⟨hb, rfl⟩
   refine zD (zA hN35 rfl) ?_
   refine zB ?_
   refine hK39 _ _ (wp_cond_false (zA hN35 rfl) (zF fun K41 hK41 => ?_))
   refine zF fun K42 hK42 => ?_
   refine zH ?_
   refine zG (zC hN35 rfl s35_2) ?_
   refine op_eql (zA hN35 rfl) rfl (fun c44 => ?_) (fun c44 => ?_)
   ·
    refine zD (zA hN35 rfl) ?_
    refine zB ?_
    refine hK42 _ _ (wp_cond_true (zA hN35 rfl) (wp_skip (hK41 _ _ (wp_cond_true (zA hN35 rfl) (zF fun K43 hK43 => ?_)))))
    refine zH ?_
    refine zD rfl ?_
    refine zB ?_
    refine hK43 _ _ (wp_ret (zb (zO ( ?_))))
    refine ret1 rfl hd35 (zA hN35 rfl) ⟨_, rfl, ?_⟩
    have e9 : colE (D.map DTab.t) cols i = 14 := colE_4 c28 zx c41 (.inl zx)
    rw [e9]; exact ⟨hb, rfl⟩
   refine zD (zA hN35 rfl) ?_
   refine zB ?_
   refine hK42 _ _ (wp_cond_false (zA hN35 rfl) (zH ?_))
   refine zG (zC hN35 rfl s35_1) ?_
   refine zG (zC hN35 rfl s35_2) ?_
   refine op_slice_hiC (m := i) slt41 (zA hN35 rfl) hcap (zA hN35 rfl) rfl zx ?_
   refine zj ok64 (ContRef (hch.mono (Nat.zero_le _) zx)) ⟨(zA hN35 rfl), ⟨rfl, trivial⟩⟩ ?_
   rintro _ w44 ⟨E45, rfl⟩
   have E45 := zQ E45
   have := E45.size
   have hc := hc.keep0 E45
   have hch := hch.keep0 E45
   have hO19 := hO19.keep0 E45
   obtain ⟨hB13, hB25⟩ := kb2 E45 hB13 hB25
   have hb := zP hb E45 hb.size
   rcases Bool.eq_false_or_eq_true ((decide (0 ≤ ixOf (fun d : PCol => decide (d.ref ≠ [])) (cols.take i)))) with c48 | c48
   ·
    rw [c48]
    refine zD (zA hN35 rfl) ?_
    refine zB ?_
    refine hK41 _ _ (wp_cond_true (zA hN35 rfl) (zF fun K46 hK46 => ?_))
    refine zH ?_
    refine zD rfl ?_
    refine zB ?_
    refine hK46 _ _ (wp_ret (zb (zO ( ?_))))
    refine ret1 rfl hd35 (zA hN35 rfl) ⟨_, rfl, ?_⟩
    have e9 : colE (D.map DTab.t) cols i = 14 := colE_4 c28 zx c41 (.inr (of_decide_eq_true c48))
    rw [e9]; exact ⟨hb, rfl⟩
   rw [c48]
   refine zD (zA hN35 rfl) ?_
   refine zB ?_
   refine hK41 _ _ (wp_cond_false (zA hN35 rfl) (zF fun K47 hK47 => ?_))
   refine zH ?_
   refine zG (zC hN35 rfl s35_9) ?_
   refine op_not (zA hN35 rfl) ?_
   refine zD (zA hN35 rfl) ?_
   refine zB ?_
   refine hK47 _ _ (wp_cond_false (zA hN35 rfl) (zF fun K48 hK48 => ?_))
   refine reg_still mixed zy ?_
   intro w50 E49
   have := E49.size
   have hc := hc.keep0 E49
   have hch := hch.keep0 E49
   have hO19 := hO19.keep0 E49
   obtain ⟨hB13, hB25⟩ := kb2 E49 hB13 hB25
   have hb := zP hb E49 hb.size
   refine st_step rfl (fun _ h9 => zM fld55_1 (zC hN35 rfl s35_8) h9) ?_
   refine st_step rfl (fun _ h9 => zN (v := d19.cv) one41 (zA hN35 rfl) (hB25.cell rfl) h9) ?_
   refine st_step rfl (fun _ h9 => op_len_rd Try.underlying41 (zA hN35 rfl) hO19.rdw h9) ?_
   by_cases g56 : ((d19.t.cols.length : Nat) : Int) = 0
   ·
    refine st_step rfl (fun _ h9 => op_cmp (b := true) (zA hN35 rfl) rfl (b_eql (decide_eq_true g56)) h9) ?_
    refine st_step rfl (fun _ h9 => zG (zA hN35 rfl) h9) ?_
    refine st_g_false (j := 4) (dj := 57) (b := false) rfl rfl rfl (zA hN35 rfl) rfl rfl ?_
    refine st_g_false (j := 4) (dj := 57) (b := false) rfl rfl rfl (zA hN35 rfl) rfl rfl ?_
    refine st_g_false (j := 4) (dj := 57) (b := false) rfl rfl rfl (zA hN35 rfl) rfl rfl ?_
    refine st_g_false (j := 4) (dj := 57) (b := false) rfl rfl rfl (zA hN35 rfl) rfl rfl ?_
    refine st_g_false (j := 4) (dj := 57) (b := false) rfl rfl rfl (zA hN35 rfl) rfl rfl ?_
    refine st_g_false (j := 4) (dj := 57) (b := false) rfl rfl rfl (zA hN35 rfl) rfl rfl ?_
    refine st_g_false (j := 4) (dj := 57) (b := false) rfl rfl rfl (zA hN35 rfl) rfl rfl ?_
    refine st_g_false (j := 4) (dj := 57) (b := false) rfl rfl rfl (zA hN35 rfl) rfl rfl ?_
    refine st_step rfl (fun _ h9 => zc (zA hN35 rfl) rfl h9) ?_
    refine st_step rfl (fun _ h9 => zD (zA hN35 rfl) h9) ?_
    refine st_nil ?_
    refine hK48 _ _ (wp_cond_true (zA hN35 rfl) (zF fun K51 hK51 => ?_))
    refine zH ?_
    refine zD rfl ?_
    refine zB ?_
    refine hK51 _ _ (wp_ret (zb (zO ( ?_))))
    refine ret1 rfl hd35 (zA hN35 rfl) ⟨_, rfl, ?_⟩
    have e9 : colE (D.map DTab.t) cols i = 11 := (colE_5 (T := (D.map DTab.t)) c28 zx c41 (fun h => h.elim (fun h => c44 zx) fun h => of_decide_eq_false c48 h)).trans (by rw [ht19]; exact if_pos (.inl zx))
    rw [e9]; exact ⟨hb, rfl⟩
   refine st_step rfl (fun _ h9 => op_cmp (b := false) (zA hN35 rfl) rfl (b_eql (decide_eq_false g56)) h9) ?_
   refine st_step rfl (fun _ h9 => zG (zA hN35 rfl) h9) ?_
   refine st_g_true (j := 4) (dj := 57) (b := false) rfl rfl rfl (zA hN35 rfl) ?_
   refine st_step rfl (fun _ h9 => zM fld55_1 (zC hN35 rfl s35_8) h9) ?_
   refine st_g_true (j := 4) (dj := 57) (b := false) rfl rfl rfl (zA hN35 rfl) ?_
   refine st_step rfl (fun _ h9 => zN (v := d19.cv) one41 (zA hN35 rfl) (hB25.cell rfl) h9) ?_
   refine st_g_true (j := 4) (dj := 57) (b := false) rfl rfl rfl (zA hN35 rfl) ?_
   refine st_index_rd slt41 (zA hN35 rfl) hO19.rdw rfl zx zx ?_
   intro b52 o53 h0b52 h1b52 hc54
   refine st_g_true (j := 4) (dj := 57) (b := false) rfl rfl rfl (zA hN35 rfl) ?_
   refine st_step rfl (fun _ h9 => zM fld68_1 (zA hN35 rfl) h9) ?_
   refine st_g_true (j := 4) (dj := 57) (b := false) rfl rfl rfl (zA hN35 rfl) ?_
   refine st_step rfl (fun _ h9 => zN (v := (Value.int .i64 (d19.t.cols.getD 0 default).kind)) one3 (zA hN35 rfl) (hc54 1 ((.int .i64 (d19.t.cols.getD 0 default).kind)) zz ((el_pc (i := 0) zx zx) 1 ((.int .i64 (d19.t.cols.getD 0 default).kind)) rfl)) h9) ?_
   refine st_g_true (j := 4) (dj := 57) (b := false) rfl rfl rfl (zA hN35 rfl) ?_
   refine st_step rfl (fun _ h9 => zM fld68_1 (zC hN35 rfl s35_7) h9) ?_
   refine st_g_true (j := 4) (dj := 57) (b := false) rfl rfl rfl (zA hN35 rfl) ?_
   refine st_step rfl (fun _ h9 => zN (v := (Value.int .i64 (cols.getD i default).kind)) one3 (zA hN35 rfl) (hB13.cell rfl) h9) ?_
   refine st_g_true (j := 4) (dj := 57) (b := false) rfl rfl rfl (zA hN35 rfl) ?_
   refine st_step rfl (fun _ h9 => op_cmp (b := (decide ((d19.t.cols.getD 0 default).kind ≠ (cols.getD i default).kind))) (zA hN35 rfl) (zA hN35 rfl) (b_neq rfl) h9) ?_
   refine st_step rfl (fun _ h9 => zd (zA hN35 rfl) (zA hN35 rfl) h9) ?_
   refine st_step rfl (fun _ h9 => zD (zA hN35 rfl) h9) ?_
   refine st_nil ?_
   refine hK48 _ _ (wp_cond_split (zA hN35 rfl) (fun c52 => ?_) (fun c52 => ?_))
   ·
    have c52 := of_decide_eq_true c52
    refine zF fun K55 hK55 => ?_
    refine zH ?_
    refine zD rfl ?_
    refine zB ?_
    refine hK55 _ _ (wp_ret (zb (zO ( ?_))))
    refine ret1 rfl hd35 (zA hN35 rfl) ⟨_, rfl, ?_⟩
    have e9 : colE (D.map DTab.t) cols i = 11 := (colE_5 (T := (D.map DTab.t)) c28 zx c41 (fun h => h.elim (fun h => c44 zx) fun h => of_decide_eq_false c48 h)).trans (by rw [ht19]; exact if_pos (.inr c52))
    rw [e9]; exact ⟨hb, rfl⟩
   have c52 := of_decide_eq_false c52
   refine wp_skip (hK30 _ _ (zF fun K56 hK56 => ?_))
   refine zH ?_
   refine zD rfl ?_
   refine zB ?_
   refine hK56 _ _ (wp_ret ?_)
   refine ret1 rfl hd35 (zA hN35 rfl) ⟨_, rfl, ?_⟩
   have e9 : colE (D.map DTab.t) cols i = 0 := (colE_5 (T := (D.map DTab.t)) c28 zx c41 (fun h => h.elim (fun h => c44 zx) fun h => of_decide_eq_false c48 h)).trans (by rw [ht19]; exact if_neg (fun h => h.elim (fun g => by omega) fun g => c52 g))
   rw [e9]; exact ⟨hb, rfl⟩
  refine zG (zA hN35 rfl) ?_
  refine zR (j := 3) (dj := 33) (b := true) rfl rfl rfl (zA hN35 rfl) rfl rfl ?_
  refine zR (j := 3) (dj := 33) (b := true) rfl rfl rfl (zA hN35 rfl) rfl rfl ?_
  refine zR (j := 3) (dj := 33) (b := true) rfl rfl rfl (zA hN35 rfl) rfl rfl ?_
  refine zd (zA hN35 rfl) rfl ?_
  refine zD (zA hN35 rfl) ?_
  refine zB ?_
  refine hK37 _ _ (wp_cond_false (zA hN35 rfl) (zF fun K57 hK57 => ?_))
  refine zH ?_
  refine zM fld68_2 (zC hN35 rfl s35_7) ?_
  refine zN (v := (Value.string (bs (cols.getD i default).ref))) one9 (zA hN35 rfl) (hB13.cell rfl) ?_
  refine op_seql (zA hN35 rfl) rfl (fun c41 => ?_) (fun c41 => ?_)
  ·
   refine zD (zA hN35 rfl) ?_
   refine zB ?_
   refine hK57 _ _ (wp_cond_true (zA hN35 rfl) (zF fun K58 hK58 => ?_))
   refine zH ?_
   refine zD rfl ?_
   refine zB ?_
   refine hK58 _ _ (wp_ret (zb (zO ( ?_))))
   refine ret1 rfl hd35 (zA hN35 rfl) ⟨_, rfl, ?_⟩
   have e9 : colE (D.map DTab.t) cols i = 0 := colE_3 c28 zx c41
   rw [e9]; exact ⟨hb, rfl⟩
  refine zD (zA hN35 rfl) ?_
  refine zB ?_
  refine hK57 _ _ (wp_cond_false (zA hN35 rfl) (zF fun K59 hK59 => ?_))
  refine zF fun K60 hK60 => ?_
  refine zH ?_
  refine zG (zC hN35 rfl s35_2) ?_
  refine op_eql (zA hN35 rfl) rfl (fun c44 => ?_) (fun c44 => ?_)
  ·
   refine zD (zA hN35 rfl) ?_
   refine zB ?_
   refine hK60 _ _ (wp_cond_true (zA hN35 rfl) (wp_skip (hK59 _ _ (wp_cond_true (zA hN35 rfl) (zF fun K61 hK61 => ?_)))))
   refine zH ?_
   refine zD rfl ?_
   refine zB ?_
   refine hK61 _ _ (wp_ret (zb (zO ( ?_))))
   refine ret1 rfl hd35 (zA hN35 rfl) ⟨_, rfl, ?_⟩
   have e9 : colE (D.map DTab.t) cols i = 14 := colE_4 c28 zx c41 (.inl zx)
   rw [e9]; exact ⟨hb, rfl⟩
  refine zD (zA hN35 rfl) ?_
  refine zB ?_
  refine hK60 _ _ (wp_cond_false (zA hN35 rfl) (zH ?_))
  refine zG (zC hN35 rfl s35_1) ?_
  refine zG (zC hN35 rfl s35_2) ?_
  refine op_slice_hiC (m := i) slt41 (zA hN35 rfl) hcap (zA hN35 rfl) rfl zx ?_
  refine zj ok64 (ContRef (hch.mono (Nat.zero_le _) zx)) ⟨(zA hN35 rfl), ⟨rfl, trivial⟩⟩ ?_
  rintro _ w62 ⟨E63, rfl⟩
  have E63 := zQ E63
  have := E63.size
  have hc := hc.keep0 E63
  have hch := hch.keep0 E63
  have hO19 := hO19.keep0 E63
  obtain ⟨hB13, hB25⟩ := kb2 E63 hB13 hB25
  have hb := zP hb E63 hb.size
  rcases Bool.eq_false_or_eq_true ((decide (0 ≤ ixOf (fun d : PCol => decide (d.ref ≠ [])) (cols.take i)))) with c48 | c48
  ·
   rw [c48]
   refine zD (zA hN35 rfl) ?_
   refine zB ?_
   refine hK59 _ _ (wp_cond_true (zA hN35 rfl) (zF fun K64 hK64 => ?_))
   refine zH ?_
   refine zD rfl ?_
   refine zB ?_
   refine hK64 _ _ (wp_ret (zb (zO ( ?_))))
   refine ret1 rfl hd35 (zA hN35 rfl) ⟨_, rfl, ?_⟩
   have e9 : colE (D.map DTab.t) cols i = 14 := colE_4 c28 zx c41 (.inr (of_decide_eq_true c48))
   rw [e9]; exact ⟨hb, rfl⟩
  rw [c48]
  refine zD (zA hN35 rfl) ?_
  refine zB ?_
  refine hK59 _ _ (wp_cond_false (zA hN35 rfl) (zF fun K65 hK65 => ?_))
  refine zH ?_
  refine zG (zC hN35 rfl s35_9) ?_
  refine op_not (zA hN35 rfl) ?_
  refine zD (zA hN35 rfl) ?_
  refine zB ?_
  refine hK65 _ _ (wp_cond_false (zA hN35 rfl) (zF fun K66 hK66 => ?_))
  refine reg_still mixed zy ?_
  intro w68 E67
  have := E67.size
  have hc := hc.keep0 E67
  have hch := hch.keep0 E67
  have hO19 := hO19.keep0 E67
  obtain ⟨hB13, hB25⟩ := kb2 E67 hB13 hB25
  have hb := zP hb E67 hb.size
  refine st_step rfl (fun _ h9 => zM fld55_1 (zC hN35 rfl s35_8) h9) ?_
  refine st_step rfl (fun _ h9 => zN (v := d19.cv) one41 (zA hN35 rfl) (hB25.cell rfl) h9) ?_
  refine st_step rfl (fun _ h9 => op_len_rd Try.underlying41 (zA hN35 rfl) hO19.rdw h9) ?_
  by_cases g56 : ((d19.t.cols.length : Nat) : Int) = 0
  ·
   refine st_step rfl (fun _ h9 => op_cmp (b := true) (zA hN35 rfl) rfl (b_eql (decide_eq_true g56)) h9) ?_
   refine st_step rfl (fun _ h9 => zG (zA hN35 rfl) h9) ?_
   refine st_g_false (j := 4) (dj := 57) (b := false) rfl rfl rfl (zA hN35 rfl) rfl rfl ?_
   refine st_g_false (j := 4) (dj := 57) (b := false) rfl rfl rfl (zA hN35 rfl) rfl rfl ?_
   refine st_g_false (j := 4) (dj := 57) (b := false) rfl rfl rfl (zA hN35 rfl) rfl rfl ?_
   refine st_g_false (j := 4) (dj := 57) (b := false) rfl rfl rfl (zA hN35 rfl) rfl rfl ?_
   refine st_g_false (j := 4) (dj := 57) (b := false) rfl rfl rfl (zA hN35 rfl) rfl rfl ?_
   refine st_g_false (j := 4) (dj := 57) (b := false) rfl rfl rfl (zA hN35 rfl) rfl rfl ?_
   refine st_g_false (j := 4) (dj := 57) (b := false) rfl rfl rfl (zA hN35 rfl) rfl rfl ?_
   refine st_g_false (j := 4) (dj := 57) (b := false) rfl rfl rfl (zA hN35 rfl) rfl rfl ?_
   refine st_step rfl (fun _ h9 => zc (zA hN35 rfl) rfl h9) ?_
   refine st_step rfl (fun _ h9 => zD (zA hN35 rfl) h9) ?_
   refine st_nil ?_
   refine hK66 _ _ (wp_cond_true (zA hN35 rfl) (zF fun K69 hK69 => ?_))
   refine zH ?_
   refine zD rfl ?_
   refine zB ?_
   refine hK69 _ _ (wp_ret (zb (zO ( ?_))))
   refine ret1 rfl hd35 (zA hN35 rfl) ⟨_, rfl, ?_⟩
   have e9 : colE (D.map DTab.t) cols i = 11 := (colE_5 (T := (D.map DTab.t)) c28 zx c41 (fun h => h.elim (fun h => c44 zx) fun h => of_decide_eq_false c48 h)).trans (by rw [ht19]; exact if_pos (.inl zx))
   rw [e9]; exact ⟨hb, rfl⟩
  refine st_step rfl (fun _ h9 => op_cmp (b := false) (zA hN35 rfl) rfl (b_eql (decide_eq_false g56)) h9) ?_
  refine st_step rfl (fun _ h9 => zG (zA hN35 rfl) h9) ?_
  refine st_g_true (j := 4) (dj := 57) (b := false) rfl rfl rfl (zA hN35 rfl) ?_
  refine st_step rfl (fun _ h9 => zM fld55_1 (zC hN35 rfl s35_8) h9) ?_
  refine st_g_true (j := 4) (dj := 57) (b := false) rfl rfl rfl (zA hN35 rfl) ?_
  refine st_step rfl (fun _ h9 => zN (v := d19.cv) one41 (zA hN35 rfl) (hB25.cell rfl) h9) ?_
  refine st_g_true (j := 4) (dj := 57) (b := false) rfl rfl rfl (zA hN35 rfl) ?_
  refine st_index_rd slt41 (zA hN35 rfl) hO19.rdw rfl zx zx ?_
  intro b70 o71 h0b70 h1b70 hc72
  refine st_g_true (j := 4) (dj := 57) (b := false) rfl rfl rfl (zA hN35 rfl) ?_
  refine st_step rfl (fun _ h9 => zM fld68_1 (zA hN35 rfl) h9) ?_
  refine st_g_true (j := 4) (dj := 57) (b := false) rfl rfl rfl (zA hN35 rfl) ?_
  refine st_step rfl (fun _ h9 => zN (v := (Value.int .i64 (d19.t.cols.getD 0 default).kind)) one3 (zA hN35 rfl) (hc72 1 ((.int .i64 (d19.t.cols.getD 0 default).kind)) zz ((el_pc (i := 0) zx zx) 1 ((.int .i64 (d19.t.cols.getD 0 default).kind)) rfl)) h9) ?_
  refine st_g_true (j := 4) (dj := 57) (b := false) rfl rfl rfl (zA hN35 rfl) ?_
  refine st_step rfl (fun _ h9 => zM fld68_1 (zC hN35 rfl s35_7) h9) ?_
  refine st_g_true (j := 4) (dj := 57) (b := false) rfl rfl rfl (zA hN35 rfl) ?_
  refine st_step rfl (fun _ h9 => zN (v := (Value.int .i64 (cols.getD i default).kind)) one3 (zA hN35 rfl) (hB13.cell rfl) h9) ?_
  refine st_g_true (j := 4) (dj := 57) (b := false) rfl rfl rfl (zA hN35 rfl) ?_
  refine st_step rfl (fun _ h9 => op_cmp (b := (decide ((d19.t.cols.getD 0 default).kind ≠ (cols.getD i default).kind))) (zA hN35 rfl) (zA hN35 rfl) (b_neq rfl) h9) ?_
  refine st_step rfl (fun _ h9 => zd (zA hN35 rfl) (zA hN35 rfl) h9) ?_
  refine st_step rfl (fun _ h9 => zD (zA hN35 rfl) h9) ?_
  refine st_nil ?_
  refine hK66 _ _ (wp_cond_split (zA hN35 rfl) (fun c52 => ?_) (fun c52 => ?_))
  ·
   have c52 := of_decide_eq_true c52
   refine zF fun K73 hK73 => ?_
   refine zH ?_
   refine zD rfl ?_
   refine zB ?_
   refine hK73 _ _ (wp_ret (zb (zO ( ?_))))
   refine ret1 rfl hd35 (zA hN35 rfl) ⟨_, rfl, ?_⟩
   have e9 : colE (D.map DTab.t) cols i = 11 := (colE_5 (T := (D.map DTab.t)) c28 zx c41 (fun h => h.elim (fun h => c44 zx) fun h => of_decide_eq_false c48 h)).trans (by rw [ht19]; exact if_pos (.inr c52))
   rw [e9]; exact ⟨hb, rfl⟩
  have c52 := of_decide_eq_false c52
  refine wp_skip (hK30 _ _ (zF fun K74 hK74 => ?_))
  refine zH ?_
  refine zD rfl ?_
  refine zB ?_
  refine hK74 _ _ (wp_ret ?_)
  refine ret1 rfl hd35 (zA hN35 rfl) ⟨_, rfl, ?_⟩
  have e9 : colE (D.map DTab.t) cols i = 0 := (colE_5 (T := (D.map DTab.t)) c28 zx c41 (fun h => h.elim (fun h => c44 zx) fun h => of_decide_eq_false c48 h)).trans (by rw [ht19]; exact if_neg (fun h => h.elim (fun g => by omega) fun g => c52 g))
  rw [e9]; exact ⟨hb, rfl⟩
 refine zj ok57 (Table2F k18 (hT.mono zx) hD hsz (hV.mono (Nat.zero_le _) zx)) ⟨(zA hN rfl), ⟨(zA hN rfl), trivial⟩⟩ ?_
 rintro _ w75 ⟨E76, rfl⟩
 have E76 := zQ E76
 have := E76.size
 have hc := hc.keep0 E76
 have hch := hch.keep0 E76
 have hB13 := hB13.keep0 E76
 have hb := zP hb E76 hb.size
 refine zG (zA hN rfl) ?_
 refine zW (zA hN rfl) rfl ?_
 refine zW (zA hN rfl) rfl ?_
 refine op_alloc (cs := [(.string (bs [])), (.slice none 0 0), (.slice none 0 0)]) zero55 rfl ?_
 intro w77 b78 lo_b78 hi_b78 hB80 E79
 have := E79.size
 have hc := hc.keep0 E79
 have hch := hch.keep0 E79
 have hB13 := hB13.keep0 E79
 have hb := zP hb E79 hb.size
 have hB80_old := hB80
 refine zZ size55 (zA hN rfl) (zA hN rfl) rfl rfl hB80 rfl ?_
 intro w83 hB80 E84
 have := E84.size
 have hc := hc.keep E84 sR
 have hch := hch.keep E84 sR
 have hB13 := hB13.keep E84 (sN hB13 hB80_old)
 have hb := below_step1 hb E84 hb.size zx
 refine zD (zA hN rfl) ?_
 refine zB ?_
 refine hK18 _ _ (zF fun K85 hK85 => ?_)
 refine wp_block ?_
 refine zF fun K86 hK86 => ?_
 refine reg_split (hd := [_, _, _, _, _, _]) (tl := _) 6 mixed zy rfl rfl ?_
 refine any_env (φ := phiV [(fun uz => uz = cv), (fun uz => uz = (.int .i64 ((i : Nat) : Int))), (fun uz => uz = (hiV cv i)), (fun uz => uz = (ptr b11 0)), (fun uz => uz = (.string (bs (cols.getD i default).nm))), (fun _ => True)]) (G := fun w' => Bx w' b11 68 [(.string (bs (cols.getD i default).nm)), (.int .i64 (cols.getD i default).kind), (.string (bs (cols.getD i default).ref))]) [5] zy zy zy zy hN (fun w1 w2 E h => h.keep0 E) hB13 (ObEs.cons ?_ (ObEs.cons ?_ (ObEs.cons ?_ (ObEs.cons ?_ (ObEs.cons ?_ (ObEs.pass rfl (ObEs.nil))))))) (by simp only [putsL_defers]) ?_
 ·
  intro eA aA wA hNA hGA hbsA hdpA
  have qA_1 := (hbsA 1 rfl).trans (zL hN rfl s1)
  refine zG (zC hNA rfl qA_1) ?_
  exact obE_end rfl rfl rfl
 ·
  intro eA aA wA hNA hGA hbsA hdpA
  have qA_2 := (hbsA 2 rfl).trans (zL hN rfl s2)
  refine zG (zC hNA rfl qA_2) ?_
  exact obE_end rfl rfl rfl
 ·
  intro eA aA wA hNA hGA hbsA hdpA
  have qA_22 : Sl aA 22 cv := (hdpA 0 _ 22 zy rfl rfl).2 rfl
  have qA_23 : Sl aA 23 (.int .i64 ((i : Nat) : Int)) := (hdpA 1 _ 23 zy rfl rfl).2 rfl
  refine op_slice_hiC (m := i) slt41 (zC hNA rfl qA_22) hcap (zC hNA rfl qA_23) rfl zx ?_
  exact obE_end rfl rfl rfl
 ·
  intro eA aA wA hNA hGA hbsA hdpA
  have qA_7 := (hbsA 7 rfl).trans (zU hN rfl)
  refine zM fld68_0 (zC hNA rfl qA_7) ?_
  exact obE_end rfl rfl rfl
 ·
  intro eA aA wA hNA hGA hbsA hdpA
  have qA_25 : Sl aA 25 (ptr b11 0) := (hdpA 3 _ 25 zy rfl rfl).2 rfl
  refine zN (v := (Value.string (bs (cols.getD i default).nm))) one9 (zC hNA rfl qA_25) (hGA.cell rfl) ?_
  exact obE_end rfl rfl rfl
 intro w87 E87 _ a87 hN87 hbs87 hdp87 o_ ho_; obtain rfl := zE ho_
 have := E87.size
 have hc := hc.keep0 E87
 have hch := hch.keep0 E87
 have hB13 := hB13.keep0 E87
 have hb := zP hb E87 hb.size
 have q87_24 : Sl a87 24 (hiV cv i) := (hdp87 2 _ 24 zy rfl rfl).2 rfl
 have q87_26 : Sl a87 26 (.string (bs (cols.getD i default).nm)) := (hdp87 4 _ 26 zy rfl rfl).2 rfl
 refine zj ok86 (findCol (L := ((cols.take i) : List PCol)) ((cols.getD i default).nm) (hch.mono (Nat.zero_le _) zx)) ⟨(zC hN87 rfl q87_24), ⟨(zC hN87 rfl q87_26), ⟨rfl, trivial⟩⟩⟩ ?_
 rintro _ w88 ⟨E89, rfl⟩
 have E89 := zQ E89
 have := E89.size
 have hc := hc.keep0 E89
 have hch := hch.keep0 E89
 have hB13 := hB13.keep0 E89
 have hb := zP hb E89 hb.size
 refine ke_end rfl zz rfl hB13 ?_
 intro w90 E90 a90 hN90 hd90 hbs90 hph90
 have hd90 := hd90.trans ((by simp only [putsL_defers] : _ = _).trans hd)
 have := E90.size
 have hc := hc.keep0 E90
 have hch := hch.keep0 E90
 have hB13 := hB13.keep0 E90
 have hb := zP hb E90 hb.size
 have s90_1 := (hbs90 1 rfl).trans (zL hN rfl s1)
 have s90_2 := (hbs90 2 rfl).trans (zL hN rfl s2)
 have s90_7 := (hbs90 7 rfl).trans (zU hN rfl)
 have s90_9 := (hbs90 9 rfl).trans (zU hN rfl)
 have s90_27 : Sl a90 27 (.int .i64 (ixOf (fun d => decide (d.nm = (cols.getD i default).nm)) (cols.take i))) := (zE ((hph90 5 _ 27 rfl rfl).1 0 rfl)).symm
 refine split_end ?_
 refine from_seq (tl := [_, _]) zz zy rfl ?_
 refine op_geq (zC hN90 rfl s90_27) rfl (fun c28 => ?_) (fun c28 => ?_)
 ·
  refine zD (zA hN90 rfl) ?_
  refine zB ?_
  refine hK86 _ _ (wp_cond_true (zA hN90 rfl) (zF fun K91 hK91 => ?_))
  refine zH ?_
  refine zD rfl ?_
  refine zB ?_
  refine hK91 _ _ (wp_ret (zb (zO ( ?_))))
  refine ret1 rfl hd90 (zA hN90 rfl) ⟨_, rfl, ?_⟩
  have e9 : colE (D.map DTab.t) cols i = 12 := colE_1 c28
  rw [e9]; exact ⟨hb, rfl⟩
 refine zD (zA hN90 rfl) ?_
 refine zB ?_
 refine hK86 _ _ (wp_cond_false (zA hN90 rfl) (zF fun K92 hK92 => ?_))
 refine zH ?_
 refine zM fld68_1 (zC hN90 rfl s90_7) ?_
 refine zN (v := (Value.int .i64 (cols.getD i default).kind)) one3 (zA hN90 rfl) (hB13.cell rfl) ?_
 refine op_neq (zA hN90 rfl) rfl (fun c32 => ?_) (fun c32 => ?_)
 ·
  refine zG (zA hN90 rfl) ?_
  refine zS (j := 3) (dj := 33) (b := true) rfl rfl rfl (zA hN90 rfl) ?_
  refine zM fld68_1 (zC hN90 rfl s90_7) ?_
  refine zS (j := 3) (dj := 33) (b := true) rfl rfl rfl (zA hN90 rfl) ?_
  refine zN (v := (Value.int .i64 (cols.getD i default).kind)) one3 (zA hN90 rfl) (hB13.cell rfl) ?_
  refine zS (j := 3) (dj := 33) (b := true) rfl rfl rfl (zA hN90 rfl) ?_
  refine op_neq (zA hN90 rfl) rfl (fun c36 => ?_) (fun c36 => ?_)
  ·
   refine zc (zA hN90 rfl) (zA hN90 rfl) ?_
   refine zD (zA hN90 rfl) ?_
   refine zB ?_
   refine hK92 _ _ (wp_cond_true (zA hN90 rfl) (zF fun K93 hK93 => ?_))
   refine zH ?_
   refine zD rfl ?_
   refine zB ?_
   refine hK93 _ _ (wp_ret (zb (zO ( ?_))))
   refine ret1 rfl hd90 (zA hN90 rfl) ⟨_, rfl, ?_⟩
   have e9 : colE (D.map DTab.t) cols i = 11 := colE_2 c28 ⟨c32, c36⟩
   rw [e9]; exact ⟨hb, rfl⟩
  refine zc (zA hN90 rfl) (zA hN90 rfl) ?_
  refine zD (zA hN90 rfl) ?_
  refine zB ?_
  refine hK92 _ _ (wp_cond_false (zA hN90 rfl) (zF fun K94 hK94 => ?_))
  refine zH ?_
  refine zM fld68_2 (zC hN90 rfl s90_7) ?_
  refine zN (v := (Value.string (bs (cols.getD i default).ref))) one9 (zA hN90 rfl) (hB13.cell rfl) ?_
  refine op_seql (zA hN90 rfl) rfl (fun c41 => ?_) (fun c41 => ?_)
  ·
   refine zD (zA hN90 rfl) ?_
   refine zB ?_
   refine hK94 _ _ (wp_cond_true (zA hN90 rfl) (zF fun K95 hK95 => ?_))
   refine zH ?_
   refine zD rfl ?_
   refine zB ?_
   refine hK95 _ _ (wp_ret (zb (zO ( ?_))))
   refine ret1 rfl hd90 (zA hN90 rfl) ⟨_, rfl, ?_⟩
   have e9 : colE (D.map DTab.t) cols i = 0 := colE_3 c28 zx c41
   rw [e9]; exact ⟨hb, rfl⟩
  refine zD (zA hN90 rfl) ?_
  refine zB ?_
  refine hK94 _ _ (wp_cond_false (zA hN90 rfl) (zF fun K96 hK96 => ?_))
  refine zF fun K97 hK97 => ?_
  refine zH ?_
  refine zG (zC hN90 rfl s90_2) ?_
  refine op_eql (zA hN90 rfl) rfl (fun c44 => ?_) (fun c44 => ?_)
  ·
   refine zD (zA hN90 rfl) ?_
   refine zB ?_
   refine hK97 _ _ (wp_cond_true (zA hN90 rfl) (wp_skip (hK96 _ _ (wp_cond_true (zA hN90 rfl) (zF fun K98 hK98 => ?_)))))
   refine zH ?_
   refine zD rfl ?_
   refine zB ?_
   refine hK98 _ _ (wp_ret (zb (zO ( ?_))))
   refine ret1 rfl hd90 (zA hN90 rfl) ⟨_, rfl, ?_⟩
   have e9 : colE (D.map DTab.t) cols i = 14 := colE_4 c28 zx c41 (.inl zx)
   rw [e9]; exact ⟨hb, rfl⟩
  refine zD (zA hN90 rfl) ?_
  refine zB ?_
  refine hK97 _ _ (wp_cond_false (zA hN90 rfl) (zH ?_))
  refine zG (zC hN90 rfl s90_1) ?_
  refine zG (zC hN90 rfl s90_2) ?_
  refine op_slice_hiC (m := i) slt41 (zA hN90 rfl) hcap (zA hN90 rfl) rfl zx ?_
  refine zj ok64 (ContRef (hch.mono (Nat.zero_le _) zx)) ⟨(zA hN90 rfl), ⟨rfl, trivial⟩⟩ ?_
  rintro _ w99 ⟨E100, rfl⟩
  have E100 := zQ E100
  have := E100.size
  have hc := hc.keep0 E100
  have hch := hch.keep0 E100
  have hb := zP hb E100 hb.size
  rcases Bool.eq_false_or_eq_true ((decide (0 ≤ ixOf (fun d : PCol => decide (d.ref ≠ [])) (cols.take i)))) with c48 | c48
  ·
   rw [c48]
   refine zD (zA hN90 rfl) ?_
   refine zB ?_
   refine hK96 _ _ (wp_cond_true (zA hN90 rfl) (zF fun K101 hK101 => ?_))
   refine zH ?_
   refine zD rfl ?_
   refine zB ?_
   refine hK101 _ _ (wp_ret (zb (zO ( ?_))))
   refine ret1 rfl hd90 (zA hN90 rfl) ⟨_, rfl, ?_⟩
   have e9 : colE (D.map DTab.t) cols i = 14 := colE_4 c28 zx c41 (.inr (of_decide_eq_true c48))
   rw [e9]; exact ⟨hb, rfl⟩
  rw [c48]
  refine zD (zA hN90 rfl) ?_
  refine zB ?_
  refine hK96 _ _ (wp_cond_false (zA hN90 rfl) (zF fun K102 hK102 => ?_))
  refine zH ?_
  refine zG (zC hN90 rfl s90_9) ?_
  refine op_not (zA hN90 rfl) ?_
  refine zD (zA hN90 rfl) ?_
  refine zB ?_
  refine hK102 _ _ (wp_cond_true (zA hN90 rfl) (zF fun K103 hK103 => ?_))
  refine zH ?_
  refine zD rfl ?_
  refine zB ?_
  refine hK103 _ _ (wp_ret (zb (zO ( ?_))))
  refine ret1 rfl hd90 (zA hN90 rfl) ⟨_, rfl, ?_⟩
  have hn9 : tabAt (D.map DTab.t) (cols.getD i default).ref = none := by cases hh : tabAt (D.map DTab.t) (cols.getD i default).ref with
    | none => rfl
    | some u => rw [hh] at k18; cases k18
  have e9 : colE (D.map DTab.t) cols i = 9 := (colE_5 (T := (D.map DTab.t)) c28 zx c41 (fun h => h.elim (fun h => c44 zx) fun h => of_decide_eq_false c48 h)).trans (by rw [hn9])
  rw [e9]; exact ⟨hb, rfl⟩
 refine zG (zA hN90 rfl) ?_
 refine zR (j := 3) (dj := 33) (b := true) rfl rfl rfl (zA hN90 rfl) rfl rfl ?_
 refine zR (j := 3) (dj := 33) (b := true) rfl rfl rfl (zA hN90 rfl) rfl rfl ?_
 refine zR (j := 3) (dj := 33) (b := true) rfl rfl rfl (zA hN90 rfl) rfl rfl ?_
 refine zd (zA hN90 rfl) rfl ?_
 refine zD (zA hN90 rfl) ?_
 refine zB ?_
 refine hK92 _ _ (wp_cond_false (zA hN90 rfl) (zF fun K104 hK104 => ?_))
 refine zH ?_
 refine zM fld68_2 (zC hN90 rfl s90_7) ?_
 refine zN (v := (Value.string (bs (cols.getD i default).ref))) one9 (zA hN90 rfl) (hB13.cell rfl) ?_
 refine op_seql (zA hN90 rfl) rfl (fun c41 => ?_) (fun c41 => ?_)
 ·
  refine zD (zA hN90 rfl) ?_
  refine zB ?_
  refine hK104 _ _ (wp_cond_true (zA hN90 rfl) (zF fun K105 hK105 => ?_))
  refine zH ?_
  refine zD rfl ?_
  refine zB ?_
  refine hK105 _ _ (wp_ret (zb (zO ( ?_))))
  refine ret1 rfl hd90 (zA hN90 rfl) ⟨_, rfl, ?_⟩
  have e9 : colE (D.map DTab.t) cols i = 0 := colE_3 c28 zx c41
  rw [e9]; exact ⟨hb, rfl⟩
 refine zD (zA hN90 rfl) ?_
 refine zB ?_
 refine hK104 _ _ (wp_cond_false (zA hN90 rfl) (zF fun K106 hK106 => ?_))
 refine zF fun K107 hK107 => ?_
 refine zH ?_
 refine zG (zC hN90 rfl s90_2) ?_
 refine op_eql (zA hN90 rfl) rfl (fun c44 => ?_) (fun c44 => ?_)
 ·
  refine zD (zA hN90 rfl) ?_
  refine zB ?_
  refine hK107 _ _ (wp_cond_true (zA hN90 rfl) (wp_skip (hK106 _ _ (wp_cond_true (zA hN90 rfl) (zF fun K108 hK108 => ?_)))))
  refine zH ?_
  refine zD rfl ?_
  refine zB ?_
  refine hK108 _ _ (wp_ret (zb (zO ( ?_))))
  refine ret1 rfl hd90 (zA hN90 rfl) ⟨_, rfl, ?_⟩
  have e9 : colE (D.map DTab.t) cols i = 14 := colE_4 c28 zx c41 (.inl zx)
  rw [e9]; exact ⟨hb, rfl⟩
 refine zD (zA hN90 rfl) ?_
 refine zB ?_
 refine hK107 _ _ (wp_cond_false (zA hN90 rfl) (zH ?_))
 refine zG (zC hN90 rfl s90_1) ?_
 refine zG (zC hN90 rfl s90_2) ?_
 refine op_slice_hiC (m := i) slt41 (zA hN90 rfl) hcap (zA hN90 rfl) rfl zx ?_
 refine zj ok64 (ContRef (hch.mono (Nat.zero_le _) zx)) ⟨(zA hN90 rfl), ⟨rfl, trivial⟩⟩ ?_
 rintro _ w109 ⟨E110, rfl⟩
 have E110 := zQ E110
 have := E110.size
 have hc := hc.keep0 E110
 have hch := hch.keep0 E110
 have hb := zP hb E110 hb.size
 rcases Bool.eq_false_or_eq_true ((decide (0 ≤ ixOf (fun d : PCol => decide (d.ref ≠ [])) (cols.take i)))) with c48 | c48
 ·
  rw [c48]
  refine zD (zA hN90 rfl) ?_
  refine zB ?_
  refine hK106 _ _ (wp_cond_true (zA hN90 rfl) (zF fun K111 hK111 => ?_))
  refine zH ?_
  refine zD rfl ?_
  refine zB ?_
  refine hK111 _ _ (wp_ret (zb (zO ( ?_))))
  refine ret1 rfl hd90 (zA hN90 rfl) ⟨_, rfl, ?_⟩
  have e9 : colE (D.map DTab.t) cols i = 14 := colE_4 c28 zx c41 (.inr (of_decide_eq_true c48))
  rw [e9]; exact ⟨hb, rfl⟩
 rw [c48]
 refine zD (zA hN90 rfl) ?_
 refine zB ?_
 refine hK106 _ _ (wp_cond_false (zA hN90 rfl) (zF fun K112 hK112 => ?_))
 refine zH ?_
 refine zG (zC hN90 rfl s90_9) ?_
 refine op_not (zA hN90 rfl) ?_
 refine zD (zA hN90 rfl) ?_
 refine zB ?_
 refine hK112 _ _ (wp_cond_true (zA hN90 rfl) (zF fun K113 hK113 => ?_))
 refine zH ?_
 refine zD rfl ?_
 refine zB ?_
 refine hK113 _ _ (wp_ret (zb (zO ( ?_))))
 refine ret1 rfl hd90 (zA hN90 rfl) ⟨_, rfl, ?_⟩
 have hn9 : tabAt (D.map DTab.t) (cols.getD i default).ref = none := by cases hh : tabAt (D.map DTab.t) (cols.getD i default).ref with
   | none => rfl
   | some u => rw [hh] at k18; cases k18
 have e9 : colE (D.map DTab.t) cols i = 9 := (colE_5 (T := (D.map DTab.t)) c28 zx c41 (fun h => h.elim (fun h => c44 zx) fun h => of_decide_eq_false c48 h)).trans (by rw [hn9])
 rw [e9]; exact ⟨hb, rfl⟩

theorem table_ret {tv vv : Value} {D : List DTab} {V : List DVw} {F FV : Nat → Prop} {base Bs : Nat} {s : XS} {w : World} (O : Own w base 55 3 tv D.length (D.flatMap cellsT)) (S : TabsR w base D F) (P : Own w base 98 15 vv V.length (V.flatMap cellsW)) (Q : VsIn w base V FV) (d1 : Dj (Bl vv) FV) (d2 : Dj (Bl tv) FV) (hD : D.length ≤ 1000000) (hsz : ∀ d ∈ D, d.t.cols.length ≤ 1000000 ∧ d.t.idx.length ≤ 1000000) (hVz : V.length ≤ 1000) (he : SFr w 0 Bs s) (hBs : Bs ≤ base) (hbw : base ≤ w.heap.size) : Ret Try.prog 61 #[(.agg #[tv, vv]), (.agg #[(.int .i64 s.f.kind), (.string (bs s.f.tb)), (.string (bs s.f.nm)), s.f.cv, s.f.gv, s.f.vv, s.f.iv, (.string (bs s.f.join)), s.f.ov, s.f.wv, s.f.rv, (.bool s.f.desc), s.nv])] w (fun v' w' => Gr w w' (Bl tv) ∧ ∃ (tv' : Value) (D' : List DTab) (F' : Nat → Prop), v' = .tuple #[.agg #[tv', vv], .int .i64 (tabE (D.map DTab.t) s.f.nm s.f.cols)] ∧ Own w' base 55 3 tv' D'.length (D'.flatMap cellsT) ∧ TabsR w' base D' F' ∧ D'.map DTab.t = (if (tabE (D.map DTab.t) s.f.nm s.f.cols) = 0 then (D.map DTab.t) ++ [⟨s.f.nm, s.f.cols, []⟩] else (D.map DTab.t))) := by
 obtain ⟨hfc, hfg, hfv, hfi, hfo, hfw, hfr⟩ := he.ff
 have hfn := he.inn
 obtain ⟨⟨hs1, hs2, hs3⟩, hs4⟩ := he.sm
 have hb := Gr.refl w (Bl tv)
 refine enter (N := 60) Try.func61 rfl rfl (by simp) fun a0 hN hd hA => ?_
 have s0 : a0.tmps.getD 0 undef = (.agg #[tv, vv]) := hA 0 (by simp)
 have s1 : a0.tmps.getD 1 undef = (.agg #[(.int .i64 s.f.kind), (.string (bs s.f.tb)), (.string (bs s.f.nm)), s.f.cv, s.f.gv, s.f.vv, s.f.iv, (.string (bs s.f.join)), s.f.ov, s.f.wv, s.f.rv, (.bool s.f.desc), s.nv]) := hA 1 (by simp)
 clear hA
 refine zF fun K1 hK1 => ?_
 refine zH ?_
 refine op_box (cs := [tv, vv]) (zC hN rfl s0) rfl ?_
 intro w2 b3 lo_b3 hi_b3 hB5 E4
 have dj6 : ¬ F b3 := fun hf => by have := (S.lt _ hf).2; omega
 have := E4.size
 have O := O.keep0 E4
 have S := S.keepG (zi E4 NoB) (fun _ _ h => h)
 have P := P.keep0 E4
 have Q := Q.keepG (zi E4 NoB) (fun _ _ h => h)
 have hfc := hfc.keep0 E4
 have hfg := hfg.keep0 E4
 have hfi := hfi.keep0 E4
 have hfv := hfv.keep0 E4
 have hfo := hfo.keep0 E4
 have hfw := hfw.keep0 E4
 have hfr := hfr.keep0 E4
 have hfn := hfn.keep0 E4
 have hb := hb.step0 E4
 refine op_box (cs := [(.int .i64 s.f.kind), (.string (bs s.f.tb)), (.string (bs s.f.nm)), s.f.cv, s.f.gv, s.f.vv, s.f.iv, (.string (bs s.f.join)), s.f.ov, s.f.wv, s.f.rv, (.bool s.f.desc), s.nv]) (zC hN rfl s1) rfl ?_
 intro w8 b9 lo_b9 hi_b9 hB11 E10
 have := E10.size
 have O := O.keep0 E10
 have S := S.keepG (zi E10 NoB) (fun _ _ h => h)
 have P := P.keep0 E10
 have Q := Q.keepG (zi E10 NoB) (fun _ _ h => h)
 have hfc := hfc.keep0 E10
 have hfg := hfg.keep0 E10
 have hfi := hfi.keep0 E10
 have hfv := hfv.keep0 E10
 have hfo := hfo.keep0 E10
 have hfw := hfw.keep0 E10
 have hfr := hfr.keep0 E10
 have hfn := hfn.keep0 E10
 have hB5 := hB5.keep0 E10
 have hb := hb.step0 E10
 refine op_alloc (cs := [(.slice none 0 0), (.slice none 0 0)]) zero39 rfl ?_
 intro w14 b15 lo_b15 hi_b15 hB17 E16
 have dj18 : ¬ F b15 := fun hf => by have := (S.lt _ hf).2; omega
 have := E16.size
 have O := O.keep0 E16
 have S := S.keepG (zi E16 NoB) (fun _ _ h => h)
 have P := P.keep0 E16
 have Q := Q.keepG (zi E16 NoB) (fun _ _ h => h)
 have hfc := hfc.keep0 E16
 have hfg := hfg.keep0 E16
 have hfi := hfi.keep0 E16
 have hfv := hfv.keep0 E16
 have hfo := hfo.keep0 E16
 have hfw := hfw.keep0 E16
 have hfr := hfr.keep0 E16
 have hfn := hfn.keep0 E16
 obtain ⟨hB5, hB11⟩ := kb2 E16 hB5 hB11
 have hb := hb.step0 E16
 refine zD rfl ?_
 refine zB ?_
 refine hK1 _ _ (zF fun K20 hK20 => ?_)
 refine wp_block ?_
 refine zF fun K21 hK21 => ?_
 refine zH ?_
 refine zM fld39_0 (zA hN rfl) ?_
 refine zN (v := tv) one36 (zA hN rfl) (hB5.cell rfl) ?_
 refine zM fld45_2 (zA hN rfl) ?_
 refine zN (v := (Value.string (bs s.f.nm))) one9 (zA hN rfl) (hB11.cell rfl) ?_
 refine zj ok84 (findTable (L := (D : List DTab)) s.f.nm (O.rdw.mono (Nat.zero_le _) zx)) ⟨(zA hN rfl), ⟨(zA hN rfl), ⟨rfl, trivial⟩⟩⟩ ?_
 rintro _ w22 ⟨E23, rfl⟩
 have E23 := zQ E23
 have := E23.size
 have O := O.keep0 E23
 have S := S.keepG (zi E23 NoB) (fun _ _ h => h)
 have P := P.keep0 E23
 have Q := Q.keepG (zi E23 NoB) (fun _ _ h => h)
 have hfc := hfc.keep0 E23
 have hfg := hfg.keep0 E23
 have hfi := hfi.keep0 E23
 have hfv := hfv.keep0 E23
 have hfo := hfo.keep0 E23
 have hfw := hfw.keep0 E23
 have hfr := hfr.keep0 E23
 have hfn := hfn.keep0 E23
 obtain ⟨hB5, hB11, hB17⟩ := kb3 E23 hB5 hB11 hB17
 have hb := hb.step0 E23
 refine op_geq (zA hN rfl) rfl (fun c14 => ?_) (fun c14 => ?_)
 ·
  refine zD (zA hN rfl) ?_
  refine zB ?_
  refine hK21 _ _ (wp_cond_true (zA hN rfl) (zF fun K24 hK24 => ?_))
  refine zH ?_
  refine zY agg39 rfl (zA hN rfl) hB5 ?_
  have hB17_old := hB17
  refine zZ size39 (zA hN rfl) (zA hN rfl) rfl (by simp only [List.all_cons, List.all_nil, Bool.true_and, Bool.and_true, O.one, P.one]; try rfl) hB17 rfl ?_
  intro w27 hB17 E28
  have := E28.size
  have O := O.keepX hB17_old E28 zz
  have S := S.keepG (Gr.of E28) (Dj.one dj18)
  have hb := hb.step1 E28 zx
  refine zD rfl ?_
  refine zB ?_
  refine hK24 _ _ (wp_ret (zb (zO ( ?_))))
  refine retN (rs := [.cell 4 39, .tmp 5]) (vs := [(.agg #[tv, vv]), (.int .i64 12)]) rfl hd ⟨⟨_, (zA hN rfl), run_loadA (cs := [tv, vv]) agg39 rfl (fun j u hu => by rw [Nat.zero_add]; exact hB17.cell hu)⟩, ⟨(zA hN rfl), trivial⟩⟩ rfl ⟨_, rfl, ?_⟩
  have e9 : (tabE (D.map DTab.t) s.f.nm s.f.cols) = 12 := if_pos (tab_is c14)
  rw [e9]; exact ⟨hb, _, D, F, rfl, O, S, (if_neg (by first | decide | exact c44)).symm⟩
 refine zD (zA hN rfl) ?_
 refine zB ?_
 refine hK21 _ _ (wp_cond_false (zA hN rfl) (zF fun K29 hK29 => ?_))
 refine zH ?_
 refine zM fld39_0 (zA hN rfl) ?_
 refine zN (v := tv) one36 (zA hN rfl) (hB5.cell rfl) ?_
 refine op_len_rd Try.underlying36 (zA hN rfl) O.rdw ?_
 refine op_geq (zA hN rfl) rfl (fun c20 => ?_) (fun c20 => ?_)
 ·
  refine zD (zA hN rfl) ?_
  refine zB ?_
  refine hK29 _ _ (wp_cond_true (zA hN rfl) (zF fun K30 hK30 => ?_))
  refine zH ?_
  refine zY agg39 rfl (zA hN rfl) hB5 ?_
  have hB17_old := hB17
  refine zZ size39 (zA hN rfl) (zA hN rfl) rfl (by simp only [List.all_cons, List.all_nil, Bool.true_and, Bool.and_true, O.one, P.one]; try rfl) hB17 rfl ?_
  intro w33 hB17 E34
  have := E34.size
  have O := O.keepX hB17_old E34 zz
  have S := S.keepG (Gr.of E34) (Dj.one dj18)
  have hb := hb.step1 E34 zx
  refine zD rfl ?_
  refine zB ?_
  refine hK30 _ _ (wp_ret (zb (zO ( ?_))))
  refine retN (rs := [.cell 4 39, .tmp 5]) (vs := [(.agg #[tv, vv]), (.int .i64 25)]) rfl hd ⟨⟨_, (zA hN rfl), run_loadA (cs := [tv, vv]) agg39 rfl (fun j u hu => by rw [Nat.zero_add]; exact hB17.cell hu)⟩, ⟨(zA hN rfl), trivial⟩⟩ rfl ⟨_, rfl, ?_⟩
  have e9 : (tabE (D.map DTab.t) s.f.nm s.f.cols) = 25 := by unfold tabE; rw [if_neg (by rw [tab_isnt c14]; decide), if_pos (by rw [List.length_map]; omega)]
  rw [e9]; exact ⟨hb, _, D, F, rfl, O, S, (if_neg (by first | decide | exact c44)).symm⟩
 refine zD (zA hN rfl) ?_
 refine zB ?_
 refine hK29 _ _ (wp_cond_false (zA hN rfl) (zF fun K35 hK35 => ?_))
 refine zF fun K36 hK36 => ?_
 refine zH ?_
 refine zM fld45_3 (zA hN rfl) ?_
 refine zN (v := s.f.cv) one41 (zA hN rfl) (hB11.cell rfl) ?_
 refine op_len_rd Try.underlying41 (zA hN rfl) hfc ?_
 refine op_eql (zA hN rfl) rfl (fun c26 => ?_) (fun c26 => ?_)
 ·
  refine zD (zA hN rfl) ?_
  refine zB ?_
  refine hK36 _ _ (wp_cond_true (zA hN rfl) (wp_skip (hK35 _ _ (wp_cond_true (zA hN rfl) (zF fun K37 hK37 => ?_)))))
  refine zH ?_
  refine zY agg39 rfl (zA hN rfl) hB5 ?_
  have hB17_old := hB17
  refine zZ size39 (zA hN rfl) (zA hN rfl) rfl (by simp only [List.all_cons, List.all_nil, Bool.true_and, Bool.and_true, O.one, P.one]; try rfl) hB17 rfl ?_
  intro w40 hB17 E41
  have := E41.size
  have O := O.keepX hB17_old E41 zz
  have S := S.keepG (Gr.of E41) (Dj.one dj18)
  have hb := hb.step1 E41 zx
  refine zD rfl ?_
  refine zB ?_
  refine hK37 _ _ (wp_ret (zb (zO ( ?_))))
  refine retN (rs := [.cell 4 39, .tmp 5]) (vs := [(.agg #[tv, vv]), (.int .i64 7)]) rfl hd ⟨⟨_, (zA hN rfl), run_loadA (cs := [tv, vv]) agg39 rfl (fun j u hu => by rw [Nat.zero_add]; exact hB17.cell hu)⟩, ⟨(zA hN rfl), trivial⟩⟩ rfl ⟨_, rfl, ?_⟩
  have e9 : (tabE (D.map DTab.t) s.f.nm s.f.cols) = 7 := by unfold tabE; rw [if_neg (by rw [tab_isnt c14]; decide), if_neg (by rw [List.length_map]; omega), if_pos zx]
  rw [e9]; exact ⟨hb, _, D, F, rfl, O, S, (if_neg (by first | decide | exact c44)).symm⟩
 refine zD (zA hN rfl) ?_
 refine zB ?_
 refine hK36 _ _ (wp_cond_false (zA hN rfl) (zH ?_))
 refine zM fld45_3 (zA hN rfl) ?_
 refine zN (v := s.f.cv) one41 (zA hN rfl) (hB11.cell rfl) ?_
 refine op_len_rd Try.underlying41 (zA hN rfl) hfc ?_
 refine op_gtr (zA hN rfl) rfl (fun c30 => ?_) (fun c30 => ?_)
 ·
  refine zD (zA hN rfl) ?_
  refine zB ?_
  refine hK35 _ _ (wp_cond_true (zA hN rfl) (zF fun K42 hK42 => ?_))
  refine zH ?_
  refine zY agg39 rfl (zA hN rfl) hB5 ?_
  have hB17_old := hB17
  refine zZ size39 (zA hN rfl) (zA hN rfl) rfl (by simp only [List.all_cons, List.all_nil, Bool.true_and, Bool.and_true, O.one, P.one]; try rfl) hB17 rfl ?_
  intro w45 hB17 E46
  have := E46.size
  have O := O.keepX hB17_old E46 zz
  have S := S.keepG (Gr.of E46) (Dj.one dj18)
  have hb := hb.step1 E46 zx
  refine zD rfl ?_
  refine zB ?_
  refine hK42 _ _ (wp_ret (zb (zO ( ?_))))
  refine retN (rs := [.cell 4 39, .tmp 5]) (vs := [(.agg #[tv, vv]), (.int .i64 7)]) rfl hd ⟨⟨_, (zA hN rfl), run_loadA (cs := [tv, vv]) agg39 rfl (fun j u hu => by rw [Nat.zero_add]; exact hB17.cell hu)⟩, ⟨(zA hN rfl), trivial⟩⟩ rfl ⟨_, rfl, ?_⟩
  have e9 : (tabE (D.map DTab.t) s.f.nm s.f.cols) = 7 := by unfold tabE; rw [if_neg (by rw [tab_isnt c14]; decide), if_neg (by rw [List.length_map]; omega), if_pos zx]
  rw [e9]; exact ⟨hb, _, D, F, rfl, O, S, (if_neg (by first | decide | exact c44)).symm⟩
 refine zD (zA hN rfl) ?_
 refine zB ?_
 refine hK35 _ _ (wp_cond_false (zA hN rfl) (wp_skip (hK20 _ _ (zF fun K47 hK47 => ?_))))
 refine zF fun K48 hK48 => ?_
 refine zH ?_
 refine zM fld45_3 (zA hN rfl) ?_
 refine zN (v := s.f.cv) one41 (zA hN rfl) (hB11.cell rfl) ?_
 refine op_len_rd Try.underlying41 (zA hN rfl) hfc ?_
 refine zG rfl ?_
 refine zB ?_
 refine hK48 _ _ (wp_block ?_)
 refine loop_m (fun mz_ az_ w' => ∃ (i : Nat), mz_ = s.f.cols.length - i ∧ (az_.tmps.getD 2 undef = (ptr b3 0)) ∧ (az_.tmps.getD 3 undef = (ptr b9 0)) ∧ (az_.tmps.getD 4 undef = (ptr b15 0)) ∧ (az_.tmps.getD 34 undef = (.int .i64 ((s.f.cols.length : Nat) : Int))) ∧ (az_.tmps.getD 35 undef = (.int .i64 ((i : Nat) : Int))) ∧ (i ≤ s.f.cols.length) ∧ (∀ j, j < i → colE (D.map DTab.t) s.f.cols j = 0) ∧ (Gr w w' (Bl tv)) ∧ (w22.heap.size ≤ w'.heap.size) ∧ (Own w' base 55 3 tv D.length (D.flatMap cellsT)) ∧ (TabsR w' base D F) ∧ (Own w' base 98 15 vv V.length (V.flatMap cellsW)) ∧ (VsIn w' base V FV) ∧ (RdC w' 0 Bs 3 s.f.cv s.f.cols.length (s.f.cols.flatMap cellsC)) ∧ (RdC w' 0 Bs 1 s.f.gv s.f.tags.length (s.f.tags.map u16v)) ∧ (RdC w' 0 Bs 3 s.f.iv s.f.items.length (s.f.items.flatMap cellsI)) ∧ (XsFr w' 0 Bs s.f.vv s.f.vals) ∧ (XsFr w' 0 Bs s.f.ov s.f.on) ∧ (XsFr w' 0 Bs s.f.wv s.f.wh) ∧ (XsFr w' 0 Bs s.f.rv s.f.ord) ∧ (SsFr w' 0 Bs s.nv s.inner) ∧ (Bx w' b3 39 [tv, vv]) ∧ (Bx w' b9 45 [(.int .i64 s.f.kind), (.string (bs s.f.tb)), (.string (bs s.f.nm)), s.f.cv, s.f.gv, s.f.vv, s.f.iv, (.string (bs s.f.join)), s.f.ov, s.f.wv, s.f.rv, (.bool s.f.desc), s.nv]) ∧ (Bx w' b15 39 [(.slice none 0 0), (.slice none 0 0)])) _ hN hd ⟨0, rfl, (zU hN rfl), (zU hN rfl), (zU hN rfl), (zU hN rfl), (zU hN rfl), (Nat.zero_le _), (fun _ h => absurd h (Nat.not_lt_zero _)), hb, (Nat.le_refl _), O, S, P, Q, hfc, hfg, hfi, hfv, hfo, hfw, hfr, hfn, hB5, hB11, hB17⟩ ?_
 rintro _ a49 w49 hN49 hd49 ⟨i, rfl, s49_2, s49_3, s49_4, s49_34, s49_35, hi, hall, hb, zl_w49, O, S, P, Q, hfc, hfg, hfi, hfv, hfo, hfw, hfr, hfn, hB5, hB11, hB17⟩
 have := hb.size
 refine zF fun K50 hK50 => ?_
 refine zH ?_
 refine op_lss (zC hN49 rfl s49_35) (zC hN49 rfl s49_34) (fun c36 => ?_) (fun c36 => ?_)
 ·
  refine zB ?_
  refine hK50 _ _ (zF fun K51 hK51 => ?_)
  refine wp_cond_true (zA hN49 rfl) (wp_skip (hK51 _ _ (zF fun K52 hK52 => ?_)))
  refine wp_block ?_
  refine zF fun K53 hK53 => ?_
  refine zH ?_
  refine zG (zC hN49 rfl s49_35) ?_
  refine zD (zA hN49 rfl) ?_
  refine zB ?_
  refine hK53 _ _ (zF fun K54 hK54 => ?_)
  refine zH ?_
  refine zY agg39 rfl (zC hN49 rfl s49_2) hB5 ?_
  refine zM fld45_3 (zC hN49 rfl s49_3) ?_
  refine zN (v := s.f.cv) one41 (zA hN49 rfl) (hB11.cell rfl) ?_
  refine zG (zA hN49 rfl) ?_
  refine zj ok93 (col_ret (S.rd O) hD hsz ((Q.fr hVz P).mono (Nat.zero_le _) (Nat.le_refl _)) (hfc.mono (Nat.zero_le _) zx) zx) ⟨(zA hN49 rfl), ⟨(zA hN49 rfl), ⟨(zA hN49 rfl), trivial⟩⟩⟩ ?_
  rintro _ w55 ⟨E56, rfl⟩
  have E56 := zQ E56
  have := E56.size
  have O := O.keep0 E56
  have S := S.keepG (zi E56 NoB) (fun _ _ h => h)
  have P := P.keep0 E56
  have Q := Q.keepG (zi E56 NoB) (fun _ _ h => h)
  have hfc := hfc.keep0 E56
  have hfg := hfg.keep0 E56
  have hfi := hfi.keep0 E56
  have hfv := hfv.keep0 E56
  have hfo := hfo.keep0 E56
  have hfw := hfw.keep0 E56
  have hfr := hfr.keep0 E56
  have hfn := hfn.keep0 E56
  obtain ⟨hB5, hB11, hB17⟩ := kb3 E56 hB5 hB11 hB17
  have hb := hb.step0 E56
  refine zD (zA hN49 rfl) ?_
  refine zB ?_
  refine hK54 _ _ (zF fun K57 hK57 => ?_)
  refine zH ?_
  refine zG (zA hN49 rfl) ?_
  refine op_neq (zA hN49 rfl) rfl (fun c44 => ?_) (fun c44 => ?_)
  ·
   refine zB ?_
   refine hK57 _ _ (wp_cond_true (zA hN49 rfl) (zF fun K58 hK58 => ?_))
   refine zH ?_
   refine zY agg39 rfl (zC hN49 rfl s49_2) hB5 ?_
   refine zG (zA hN49 rfl) ?_
   have hB17_old := hB17
   refine zZ size39 (zC hN49 rfl s49_4) (zA hN49 rfl) rfl (by simp only [List.all_cons, List.all_nil, Bool.true_and, Bool.and_true, O.one, P.one]; try rfl) hB17 rfl ?_
   intro w61 hB17 E62
   have := E62.size
   have O := O.keepX hB17_old E62 zz
   have S := S.keepG (Gr.of E62) (Dj.one dj18)
   have hb := hb.step1 E62 zx
   refine zD (zA hN49 rfl) ?_
   refine zB ?_
   refine hK58 _ _ (wp_ret (zb (zO (zO (zb (zO ( ?_)))))))
   refine retN (rs := [.cell 4 39, .tmp 5]) (vs := [(.agg #[tv, vv]), (.int .i64 (colE (D.map DTab.t) s.f.cols i))]) rfl hd49 ⟨⟨_, (zC hN49 rfl s49_4), run_loadA (cs := [tv, vv]) agg39 rfl (fun j u hu => by rw [Nat.zero_add]; exact hB17.cell hu)⟩, ⟨(zA hN49 rfl), trivial⟩⟩ rfl ⟨_, rfl, ?_⟩
   have e9 : (tabE (D.map DTab.t) s.f.nm s.f.cols) = (colE (D.map DTab.t) s.f.cols i) := tabE_hit (tab_isnt c14) (by rw [List.length_map]; omega) zx zx hall c44
   rw [e9]; exact ⟨hb, _, D, F, rfl, O, S, (if_neg (by first | decide | exact c44)).symm⟩
  refine zB ?_
  refine hK57 _ _ (wp_cond_false (zA hN49 rfl) (wp_skip (hK52 _ _ (zH ?_))))
  refine op_add (zC hN49 rfl s49_35) rfl (add64 zx) ?_
  refine zG (zA hN49 rfl) ?_
  refine zB ?_
  -- round 14F 20F 26F 30F 36T 44F
  exact zg _ hN49 hd49 ⟨(i + 1), rfl, (zL hN49 rfl s49_2), (zL hN49 rfl s49_3), (zL hN49 rfl s49_4), (zL hN49 rfl s49_34), (zU hN49 rfl).trans (congrArg (Value.int .i64) zx), zx, (all_next hall c44), hb, zx, O, S, P, Q, hfc, hfg, hfi, hfv, hfo, hfw, hfr, hfn, hB5, hB11, hB17⟩ zx
 refine zB ?_
 refine hK50 _ _ (zF fun K63 hK63 => ?_)
 refine wp_cond_false (zA hN49 rfl) (wp_exit (then_exit (then_exit (blk_hit ?_))))
 refine hK47 _ _ (zF fun K64 hK64 => ?_)
 refine reg_split (hd := [_, _, _, _, _, _, _, _, _, _]) (tl := _) 10 mixed zy rfl rfl ?_
 refine any_tree (φ := phiV [(fun uz => uz = (ptr b3 0)), (fun uz => uz = tv), (fun uz => uz = (ptr b9 2)), (fun uz => uz = (.string (bs s.f.nm))), (fun uz => uz = (ptr b9 3)), (fun uz => uz = s.f.cv), (fun _ => True), (fun _ => True), (fun _ => True), (fun _ => True)]) (G := fun w' => Bx w' b3 39 [tv, vv] ∧ Bx w' b9 45 [(.int .i64 s.f.kind), (.string (bs s.f.tb)), (.string (bs s.f.nm)), s.f.cv, s.f.gv, s.f.vv, s.f.iv, (.string (bs s.f.join)), s.f.ov, s.f.wv, s.f.rv, (.bool s.f.desc), s.nv]) [6, 7, 8, 9] zy zy zy zy zy hN49 (fun w1 w2 E h => by obtain ⟨h0, h1⟩ := h; exact ⟨h0.keep0 E, h1.keep0 E⟩) ⟨hB5, hB11⟩ (ObRs9.cons ?_ (ObRs9.cons ?_ (ObRs9.cons ?_ (ObRs9.cons ?_ (ObRs9.cons ?_ (ObRs9.cons ?_ (ObRs9.pass rfl (ObRs9.pass rfl (ObRs9.pass rfl (ObRs9.pass rfl (ObRs9.nil))))))))))) (by simp only [putsL_defers]) ?_
 ·
  intro eA aA wA hNA hGA hbsA hdpA
  have qA_2 := (hbsA 2 rfl).trans (zL hN49 rfl s49_2)
  refine zM fld39_0 (zC hNA rfl qA_2) ?_
  exact obT_end rfl rfl
 ·
  intro eA aA wA hNA hGA hbsA hdpA
  have qA_48 : Sl aA 48 (ptr b3 0) := (hdpA 0 _ 48 zy rfl rfl).2 rfl
  obtain ⟨hB5, hB11⟩ := hGA
  refine zN (v := tv) one36 (zC hNA rfl qA_48) (hB5.cell rfl) ?_
  exact obT_end rfl rfl
 ·
  intro eA aA wA hNA hGA hbsA hdpA
  have qA_3 := (hbsA 3 rfl).trans (zL hN49 rfl s49_3)
  refine zM fld45_2 (zC hNA rfl qA_3) ?_
  exact obT_end rfl rfl
 ·
  intro eA aA wA hNA hGA hbsA hdpA
  have qA_50 : Sl aA 50 (ptr b9 2) := (hdpA 2 _ 50 zy rfl rfl).2 rfl
  obtain ⟨hB5, hB11⟩ := hGA
  refine zN (v := (Value.string (bs s.f.nm))) one9 (zC hNA rfl qA_50) (hB11.cell rfl) ?_
  exact obT_end rfl rfl
 ·
  intro eA aA wA hNA hGA hbsA hdpA
  have qA_3 := (hbsA 3 rfl).trans (zL hN49 rfl s49_3)
  refine zM fld45_3 (zC hNA rfl qA_3) ?_
  exact obT_end rfl rfl
 ·
  intro eA aA wA hNA hGA hbsA hdpA
  have qA_52 : Sl aA 52 (ptr b9 3) := (hdpA 4 _ 52 zy rfl rfl).2 rfl
  obtain ⟨hB5, hB11⟩ := hGA
  refine zN (v := s.f.cv) one41 (zC hNA rfl qA_52) (hB11.cell rfl) ?_
  exact obT_end rfl rfl
 refine kt_step (rs := [6]) zy ?_
 refine one_mem ?_
 intro w66 E66 _ a66 hN66 hbs66 hdp66 o_ ho_; obtain rfl := zE ho_
 have := E66.size
 have O := O.keep0 E66
 have S := S.keepG (zi E66 NoB) (fun _ _ h => h)
 have P := P.keep0 E66
 have hfc := hfc.keep0 E66
 obtain ⟨hB5, hB11, hB17⟩ := kb3 E66 hB5 hB11 hB17
 have hb := hb.step0 E66
 have q66_53 : Sl a66 53 s.f.cv := (hdp66 5 _ 53 zy rfl rfl).2 rfl
 refine zj ok89 (CloneC s.f.cols _ _ (by first | assumption | omega | (simp only [List.length_append, List.length_cons, List.length_nil, List.length_drop, List.length_take]; omega) | (dsimp only; omega) | decide | (simp [keyV, be8_len]; done)) (hfc.mono (Nat.zero_le _) zx)) ⟨(zC hN66 rfl q66_53), trivial⟩ ?_
 rintro v67 w68 ⟨E69, hO67⟩
 have E69 := zQ E69
 have := E69.size
 have O := O.keep0 E69
 have S := S.keepG (zi E69 NoB) (fun _ _ h => h)
 have P := P.keep0 E69
 obtain ⟨hB5, hB11, hB17⟩ := kb3 E69 hB5 hB11 hB17
 have hb := hb.step0 E69
 have hO67 := hO67.mono (base' := w.heap.size) zx
 refine kt_end rfl ⟨hB5, hB11⟩ ?_
 refine kt_step (rs := [7]) zy ?_
 refine one_mem ?_
 intro w73 E73 _ a73 hN73 hbs73 hdp73 o_ ho_; obtain rfl := zE ho_
 have := E73.size
 have O := O.keep0 E73
 have S := S.keepG (zi E73 NoB) (fun _ _ h => h)
 have P := P.keep0 E73
 have hO67 := hO67.keep0 E73
 obtain ⟨hB5, hB11, hB17⟩ := kb3 E73 hB5 hB11 hB17
 have hb := hb.step0 E73
 have q73_51 : Sl a73 51 (.string (bs s.f.nm)) := (hdp73 3 _ 51 zy rfl rfl).2 rfl
 have q73_54 : Sl a73 54 v67 := (zE ((hdp73 6 _ 54 zy rfl rfl).1 rfl)).symm
 refine zf (pv := [(0, (.string (bs s.f.nm))), (1, v67)]) (v := (Value.agg #[(.string (bs s.f.nm)), v67, (.slice none 0 0)])) ⟨rfl, (zC hN73 rfl q73_51), ⟨rfl, (zC hN73 rfl q73_54), trivial⟩⟩ (by obtain ⟨_, _, _, rfl⟩ := hO67.sl; kernel_rfl) ?_
 refine kt_end rfl ⟨hB5, hB11⟩ ?_
 refine kt_step (rs := [8]) zy ?_
 refine one_mem ?_
 intro w75 E75 _ a75 hN75 hbs75 hdp75 o_ ho_; obtain rfl := zE ho_
 have := E75.size
 have O := O.keep0 E75
 have S := S.keepG (zi E75 NoB) (fun _ _ h => h)
 have P := P.keep0 E75
 have hO67 := hO67.keep0 E75
 obtain ⟨hB5, hB11, hB17⟩ := kb3 E75 hB5 hB11 hB17
 have hb := hb.step0 E75
 have q75_55 : Sl a75 55 (.agg #[(.string (bs s.f.nm)), v67, (.slice none 0 0)]) := (zE ((hdp75 7 _ 55 zy rfl rfl).1 rfl)).symm
 refine op_bslice (e := 55) (pv := [(0, (.agg #[(.string (bs s.f.nm)), v67, (.slice none 0 0)]))]) (cs := [(.string (bs s.f.nm)), v67, (.slice none 0 0)]) ⟨rfl, (zC hN75 rfl q75_55), trivial⟩ (by obtain ⟨_, _, _, rfl⟩ := hO67.sl; kernel_rfl) ?_
 intro w76 b77 lo_b77 hi_b77 hB79 E78
 have := E78.size
 have O := O.keep0 E78
 have S := S.keepG (zi E78 NoB) (fun _ _ h => h)
 have P := P.keep0 E78
 have hO67 := hO67.keep0 E78
 obtain ⟨hB5, hB11, hB17⟩ := kb3 E78 hB5 hB11 hB17
 have hb := hb.step0 E78
 refine kt_end rfl ⟨hB5, hB11⟩ ?_
 refine kt_step (rs := [9]) zy ?_
 refine one_mem ?_
 intro w83 E83 _ a83 hN83 hbs83 hdp83 o_ ho_; obtain rfl := zE ho_
 have := E83.size
 have O := O.keep0 E83
 have S := S.keepG (zi E83 NoB) (fun _ _ h => h)
 have P := P.keep0 E83
 have hO67 := hO67.keep0 E83
 obtain ⟨hB5, hB11, hB17, hB79⟩ := kb4 E83 hB5 hB11 hB17 hB79
 have hb := hb.step0 E83
 have q83_49 : Sl a83 49 tv := (hdp83 1 _ 49 zy rfl rfl).2 rfl
 have q83_56 : Sl a83 56 (.slice (some ⟨b77, 0, none⟩) 1 1) := (zE ((hdp83 8 _ 56 zy rfl rfl).1 rfl)).symm
 have hP89 := O
 refine op_append slt36 (zC hN83 rfl q83_49) hP89 (zC hN83 rfl q83_56) (Src.ofRd Try.underlying36 zz (RdC.ofBx (sz := 3) (n := 1) hB79 rfl zz) (by simp only [List.all_cons, List.all_nil, Bool.true_and, Bool.and_true, hO67.one]; try rfl)) (by unfold maxLen; omega) zx (by first | exact Nat.le_trans (by assumption) hb.size | (have := hb.size; omega)) ?_
 intro v84 w85 hO87 E86 hm88
 have := E86.size
 have S := S.keepG (Gr.of E86) (S.notOwn hP89 zz zz).symm
 have P := P.keepT hP89 E86 zz
 have hB5 := hB5.keepO hP89 E86 zz
 have hB11 := hB11.keepO hP89 E86 zz
 have hB17 := hB17.keepO hP89 E86 zz
 have hO67 := hO67.keepT hP89 E86 zz
 have hb := hb.stepL E86 (fun k _ h => h)
 have hO87 : Own w85 base 55 3 v84 (D ++ [(DTab.mk ⟨s.f.nm, s.f.cols, []⟩ v67 (.slice none 0 0))]).length (((D ++ [(DTab.mk ⟨s.f.nm, s.f.cols, []⟩ v67 (.slice none 0 0))])).flatMap cellsT) := by exact hO87.cast (by simp) (by simp [cellsT])
 refine kt_end rfl ⟨hB5, hB11⟩ ?_
 intro w92 E92 a92 hN92 hd92 hbs92 hph92
 have hd92 := hd92.trans ((by simp only [putsL_defers] : _ = _).trans hd49)
 have := E92.size
 have S := S.keepG (zi E92 NoB) (fun _ _ h => h)
 have P := P.keep0 E92
 have hO67 := hO67.keep0 E92
 have hO87 := hO87.keep0 E92
 obtain ⟨hB5, hB17⟩ := kb2 E92 hB5 hB17
 have hb := hb.step0 E92
 have s92_2 := (hbs92 2 rfl).trans (zL hN49 rfl s49_2)
 have s92_4 := (hbs92 4 rfl).trans (zL hN49 rfl s49_4)
 have s92_57 : Sl a92 57 v84 := (zE ((hph92 9 _ 57 rfl rfl).1 rfl)).symm
 refine split_end ?_
 refine from_seq (tl := [_, _]) zz zy rfl ?_
 refine zM fld39_0 (zC hN92 rfl s92_2) ?_
 have hB5_old := hB5
 refine za (vs := [v84]) (cs' := [v84, vv]) size36 (zA hN92 rfl) (zC hN92 rfl s92_57) hO87.cl rfl (by simp only [List.all_cons, List.all_nil, Bool.true_and, Bool.and_true, hO87.one]; try rfl) hB5 (zI rfl) rfl ?_
 intro w95 hB5 E96
 have := E96.size
 have S := S.keepG (Gr.of E96) (Dj.one dj6)
 have P := P.keepX hB5_old E96 zz
 have hB17 := hB17.keep E96 sB
 have hO67 := hO67.keepX hB5_old E96 zz
 have hO87 := hO87.keepX hB5_old E96 zz
 have hb := hb.step1 E96 zx
 refine zB ?_
 refine hK64 _ _ (zF fun K97 hK97 => ?_)
 refine zH ?_
 refine zY agg39 rfl (zC hN92 rfl s92_2) hB5 ?_
 have hB17_old := hB17
 refine zZ size39 (zC hN92 rfl s92_4) (zA hN92 rfl) rfl (by simp only [List.all_cons, List.all_nil, Bool.true_and, Bool.and_true, hO87.one, P.one]; try rfl) hB17 rfl ?_
 intro w100 hB17 E101
 have := E101.size
 have S := S.keepG (Gr.of E101) (Dj.one dj18)
 have hO67 := hO67.keepX hB17_old E101 zz
 have hO87 := hO87.keepX hB17_old E101 zz
 have hb := hb.step1 E101 zx
 refine zD rfl ?_
 refine zB ?_
 refine hK97 _ _ (wp_ret ?_)
 refine retN (rs := [.cell 4 39, .tmp 5]) (vs := [(.agg #[v84, vv]), (.int .i64 0)]) rfl hd92 ⟨⟨_, (zC hN92 rfl s92_4), run_loadA (cs := [v84, vv]) agg39 rfl (fun j u hu => by rw [Nat.zero_add]; exact hB17.cell hu)⟩, ⟨(zA hN92 rfl), trivial⟩⟩ rfl ⟨_, rfl, ?_⟩
 have e9 : (tabE (D.map DTab.t) s.f.nm s.f.cols) = 0 := tabE_ok (tab_isnt c14) (by rw [List.length_map]; omega) zx zx hall
 rw [e9]; exact ⟨hb, _, D ++ [(DTab.mk ⟨s.f.nm, s.f.cols, []⟩ v67 (.slice none 0 0))], _, rfl, hO87, S.snoc (d := (DTab.mk ⟨s.f.nm, s.f.cols, []⟩ v67 (.slice none 0 0))) (hO67.mono hbw) (Own.nil _ _ _ _), by rw [if_pos rfl, List.map_append]; rfl⟩

end Go.Proofs.Ythflnkfghogaoaa

namespace Go.Gx
theorem vw_mem {V : List DVw} {x : List UInt8} : 0 ≤ ixOf (fun d : DVw => decide (d.nm = x)) V ↔ x ∈ V.map DVw.nm := by
  rcases ixOf_cases (fun d : DVw => decide (d.nm = x)) V with ⟨h1, h2⟩ | ⟨i, h1, h2, h3, _⟩
  · rw [h1]
    refine ⟨fun h => absurd h (by decide), fun h => ?_⟩
    obtain ⟨d, hd, rfl⟩ := List.mem_map.1 h
    have := List.find?_eq_none.1 h2 d hd
    simp at this
  · rw [h1]
    refine ⟨fun _ => ?_, fun _ => by omega⟩
    have e := of_decide_eq_true h3
    exact List.mem_map.2 ⟨_, getD_mem h2, e⟩
end Go.Gx
namespace Go.Proofs.Ythflnkfghogaoaa
open Go.Gx
def viewE (N : List (List UInt8)) (o : Lb) (s : XS) (k : List Int) : Int :=
  if s.f.nm ∈ N then 12 else if 8 ≤ N.length then 25 else if ownE o s.f.tags ≠ 0 then ownE o s.f.tags else if s.inner.length ≠ 1 ∨ ¬ (s.inner.getD 0 default).f.kind ∈ k then 1 else 0
def NewV (s : XS) (d : DVw) : Prop := d.nm = s.f.nm ∧ d.strip = normL s.f.tags ∧ SSame (s.inner.getD 0 default) d.act
end Go.Proofs.Ythflnkfghogaoaa

namespace Go.Proofs.Ythflnkfghogaoaa
open Go.Gx Go.RowKit
attribute [local irreducible] wpList wpStill Code.wp Calls

theorem isNaN16_ret (m : UInt16) (w : World) : Ret Try.prog 142 #[(.int .u16 (m.toNat : Int))] w (fun v' w' => v' = .bool false ∧ w' = w) := by
 refine enter (N := 6) Try.func142 rfl rfl (by simp) fun a0 hN hd hA => ?_
 have s0 : a0.tmps.getD 0 undef = (.int .u16 (m.toNat : Int)) := hA 0 (by simp)
 clear hA
 refine zF fun K1 hK1 => ?_
 refine zH ?_
 refine zD rfl ?_
 refine zB ?_
 refine hK1 _ _ (zF fun K2 hK2 => ?_)
 refine zH ?_
 refine zG (zC hN rfl s0) ?_
 refine zG (zC hN rfl s0) ?_
 refine op_neq (zA hN rfl) (zA hN rfl) (fun c5 => ?_) (fun c5 => ?_)
 ·
  refine zD (zA hN rfl) ?_
  refine zB ?_
  refine hK2 _ _ (wp_ret ?_)
  refine ret1 rfl hd (zA hN rfl) ⟨_, rfl, ?_⟩
  exact (c5 rfl).elim
 refine zD (zA hN rfl) ?_
 refine zB ?_
 refine hK2 _ _ (wp_ret ?_)
 refine ret1 rfl hd (zA hN rfl) ⟨_, rfl, ?_⟩
 exact ⟨rfl, rfl⟩

theorem Less16_ret (x y : UInt16) (w : World) : Ret Try.prog 132 #[(.int .u16 (x.toNat : Int)), (.int .u16 (y.toNat : Int))] w (fun v' w' => v' = .bool (ltT x y) ∧ w' = w) := by
 refine enter (N := 17) Try.func132 rfl rfl (by simp) fun a0 hN hd hA => ?_
 have s0 : a0.tmps.getD 0 undef = (.int .u16 (x.toNat : Int)) := hA 0 (by simp)
 have s1 : a0.tmps.getD 1 undef = (.int .u16 (y.toNat : Int)) := hA 1 (by simp)
 clear hA
 refine zF fun K3 hK3 => ?_
 refine zH ?_
 refine zD rfl ?_
 refine zB ?_
 refine hK3 _ _ (zF fun K4 hK4 => ?_)
 refine zH ?_
 refine zG (zC hN rfl s0) ?_
 refine ze (vs := [(.int .u16 (x.toNat : Int))]) ok142 ⟨(zA hN rfl), trivial⟩ (Ret.flip (isNaN16_ret x _)) ?_
 rintro _ _ ⟨rfl, rfl⟩
 refine zG (zA hN rfl) ?_
 refine zR (j := 2) (dj := 7) (b := true) rfl rfl rfl (zA hN rfl) rfl rfl ?_
 refine zR (j := 2) (dj := 7) (b := true) rfl rfl rfl (zA hN rfl) rfl rfl ?_
 refine zR (j := 2) (dj := 7) (b := true) rfl rfl rfl (zA hN rfl) rfl rfl ?_
 refine zd (zA hN rfl) rfl ?_
 refine zG (zA hN rfl) ?_
 refine zS (j := 7) (dj := 12) (b := false) rfl rfl rfl (zA hN rfl) ?_
 refine zG (zC hN rfl s0) ?_
 refine zS (j := 7) (dj := 12) (b := false) rfl rfl rfl (zA hN rfl) ?_
 refine zG (zC hN rfl s1) ?_
 refine zS (j := 7) (dj := 12) (b := false) rfl rfl rfl (zA hN rfl) ?_
 refine op_lss (zA hN rfl) (zA hN rfl) (fun c15 => ?_) (fun c15 => ?_)
 ·
  refine zd (zA hN rfl) (zA hN rfl) ?_
  refine zD (zA hN rfl) ?_
  refine zB ?_
  refine hK4 _ _ (wp_ret ?_)
  refine ret1 rfl hd (zA hN rfl) ⟨_, rfl, ?_⟩
  exact ⟨congrArg Value.bool (ltT_t c15).symm, rfl⟩
 refine zd (zA hN rfl) (zA hN rfl) ?_
 refine zD (zA hN rfl) ?_
 refine zB ?_
 refine hK4 _ _ (wp_ret ?_)
 refine ret1 rfl hd (zA hN rfl) ⟨_, rfl, ?_⟩
 exact ⟨congrArg Value.bool (ltT_f c15).symm, rfl⟩
open Go.Sort (insertionSort insOuter insInner swp siftDown heapSort heapBuild heapPop scanUp scanDown partition partLoop partitionEqual partEqLoop scanSorted partialIns bitsLen partialInsertionSort shiftDown shiftUp SortedIn reverseRange reverseLoop fixDown fixUp)
theorem insSort_ret (d : Ar) (v : Value) (n base : Nat) (a b : Nat) (w : World) (hd : d.size = n) (hn : n ≤ 4000000000000000000) (O : Own w base 74 1 v n (d.toList.map u16v)) (hab : a ≤ b) (hbn : b ≤ n) : Ret Try.prog 126 #[v, (.int .i64 ((a : Nat) : Int)), (.int .i64 ((b : Nat) : Int))] w (fun v' w' => w.grownBy w' v.ownBlock ∧ v' = .tuple #[] ∧ Own w' base 74 1 v n ((insertionSort ltT d a b).toList.map u16v)) := by
 have hb := grown_refl w v.ownBlock
 refine enter (N := 49) Try.func126 rfl rfl (by simp) fun a0 hN hd hA => ?_
 have s0 : a0.tmps.getD 0 undef = v := hA 0 (by simp)
 have s1 : a0.tmps.getD 1 undef = (.int .i64 ((a : Nat) : Int)) := hA 1 (by simp)
 have s2 : a0.tmps.getD 2 undef = (.int .i64 ((b : Nat) : Int)) := hA 2 (by simp)
 clear hA
 refine zF fun K1 hK1 => ?_
 refine zH ?_
 refine zG (zC hN rfl s1) ?_
 refine op_add (zA hN rfl) rfl (add64 zx) ?_
 refine zD (zA hN rfl) ?_
 refine zB ?_
 refine hK1 _ _ (wp_block ?_)
 refine loop_m (fun mz_ az_ w' => ∃ (i : Nat) (dk : Ar), mz_ = b - i ∧ (az_.tmps.getD 0 undef = v) ∧ (az_.tmps.getD 1 undef = (.int .i64 ((a : Nat) : Int))) ∧ (az_.tmps.getD 2 undef = (.int .i64 ((b : Nat) : Int))) ∧ (az_.tmps.getD 6 undef = (.int .i64 ((i : Nat) : Int))) ∧ (dk.size = n) ∧ (a + 1 ≤ i ∧ (i ≤ b ∨ i = a + 1)) ∧ (insOuter ltT a b (a + 1) d = insOuter ltT a b i dk) ∧ (w.grownBy w' v.ownBlock) ∧ (w.heap.size ≤ w'.heap.size) ∧ (Own w' base 74 1 v n (dk.toList.map u16v))) _ hN hd ⟨(a + 1), _, rfl, (zL hN rfl s0), (zL hN rfl s1), (zL hN rfl s2), (zU hN rfl).trans (congrArg (Value.int .i64) zx), (by first | assumption | (simp only [Array.size_setIfInBounds, swp_sz, siftDown_size]; assumption)), ⟨Nat.le_refl _, .inr rfl⟩, rfl, hb, (Nat.le_refl _), O⟩ ?_
 rintro _ a2 w2 hN2 hd2 ⟨i, dk, rfl, s2_0, s2_1, s2_2, s2_6, hdk, hi, ho, hb, zl_w2, hO3⟩
 have := hb.size
 refine zF fun K4 hK4 => ?_
 refine zF fun K5 hK5 => ?_
 refine zH ?_
 refine zG (zC hN2 rfl s2_6) ?_
 refine zG (zC hN2 rfl s2_2) ?_
 refine op_lss (zA hN2 rfl) (zA hN2 rfl) (fun c12 => ?_) (fun c12 => ?_)
 ·
  refine zB ?_
  refine hK5 _ _ (wp_cond_true (zA hN2 rfl) (wp_skip (hK4 _ _ (zF fun K6 hK6 => ?_))))
  refine wp_block ?_
  refine zF fun K7 hK7 => ?_
  refine zH ?_
  refine zG (zC hN2 rfl s2_6) ?_
  refine zD (zA hN2 rfl) ?_
  refine zB ?_
  refine hK7 _ _ (wp_block ?_)
  refine loop_m (fun mz_ az_ w' => ∃ (jj : Nat) (dj : Ar), mz_ = (jj + 1) ∧ (az_.tmps.getD 0 undef = v) ∧ (az_.tmps.getD 1 undef = (.int .i64 ((a : Nat) : Int))) ∧ (az_.tmps.getD 2 undef = (.int .i64 ((b : Nat) : Int))) ∧ (az_.tmps.getD 6 undef = (.int .i64 ((i : Nat) : Int))) ∧ (az_.tmps.getD 7 undef = (.int .i64 ((jj : Nat) : Int))) ∧ (dj.size = n) ∧ (a ≤ jj ∧ jj ≤ i) ∧ (insInner ltT a i dk = insInner ltT a jj dj) ∧ (w.grownBy w' v.ownBlock) ∧ (w2.heap.size ≤ w'.heap.size) ∧ (Own w' base 74 1 v n (dj.toList.map u16v))) _ hN2 hd2 ⟨i, _, rfl, (zL hN2 rfl s2_0), (zL hN2 rfl s2_1), (zL hN2 rfl s2_2), (zL hN2 rfl s2_6), (zU hN2 rfl).trans (congrArg (Value.int .i64) zx), (by first | assumption | (simp only [Array.size_setIfInBounds, swp_sz, siftDown_size]; assumption)), zx, rfl, hb, (Nat.le_refl _), hO3⟩ ?_
  rintro _ a8 w8 hN8 hd8 ⟨jj, dj, rfl, s8_0, s8_1, s8_2, s8_6, s8_7, hdj, hji, hj, hb, zl_w8, hO9⟩
  have := hb.size
  refine zF fun K10 hK10 => ?_
  refine zF fun K11 hK11 => ?_
  refine reg_still mixed zy ?_
  intro w13 E12
  have := E12.size
  have hO9 := hO9.keep0 E12
  have hb := grow_step0 hb E12
  refine st_step rfl (fun _ h9 => zG (zC hN8 rfl s8_7) h9) ?_
  refine st_step rfl (fun _ h9 => zG (zC hN8 rfl s8_1) h9) ?_
  by_cases g18 : ((a : Nat) : Int) < ((jj : Nat) : Int)
  ·
   refine st_step rfl (fun _ h9 => op_cmp (b := true) (zA hN8 rfl) (zA hN8 rfl) (b_gtr (decide_eq_true g18)) h9) ?_
   refine st_step rfl (fun _ h9 => zG (zA hN8 rfl) h9) ?_
   refine st_g_true (j := 3) (dj := 19) (b := true) rfl rfl rfl (zA hN8 rfl) ?_
   refine st_step rfl (fun _ h9 => zG (zC hN8 rfl s8_0) h9) ?_
   refine st_g_true (j := 3) (dj := 19) (b := true) rfl rfl rfl (zA hN8 rfl) ?_
   refine st_step rfl (fun _ h9 => zG (zC hN8 rfl s8_7) h9) ?_
   refine st_g_true (j := 3) (dj := 19) (b := true) rfl rfl rfl (zA hN8 rfl) ?_
   refine st_index_rd slt42 (zA hN8 rfl) hO9.rdw (zA hN8 rfl) zx zx ?_
   intro b14 o15 h0b14 h1b14 hc16
   refine st_g_true (j := 3) (dj := 19) (b := true) rfl rfl rfl (zA hN8 rfl) ?_
   refine st_step rfl (fun _ h9 => zN (v := (Value.int .u16 (dj[jj]!.toNat : Int))) one74 (zA hN8 rfl) (by have := hc16 0 (.int .u16 (dj[jj]!.toNat : Int)) zz (el_arr (i := jj) zx (by first | omega | (simp only [Array.size_setIfInBounds, swp_sz, siftDown_size]; omega))); simpa using this) h9) ?_
   refine st_g_true (j := 3) (dj := 19) (b := true) rfl rfl rfl (zA hN8 rfl) ?_
   refine st_step rfl (fun _ h9 => zG (zC hN8 rfl s8_0) h9) ?_
   refine st_g_true (j := 3) (dj := 19) (b := true) rfl rfl rfl (zA hN8 rfl) ?_
   refine st_step rfl (fun _ h9 => zG (zC hN8 rfl s8_7) h9) ?_
   refine st_g_true (j := 3) (dj := 19) (b := true) rfl rfl rfl (zA hN8 rfl) ?_
   refine st_step rfl (fun _ h9 => op_sub (zA hN8 rfl) rfl (sub64 zx) h9) ?_
   refine st_g_true (j := 3) (dj := 19) (b := true) rfl rfl rfl (zA hN8 rfl) ?_
   refine st_index_rd slt42 (zA hN8 rfl) hO9.rdw (zA hN8 rfl) zx zx ?_
   intro b17 o18 h0b17 h1b17 hc19
   refine st_g_true (j := 3) (dj := 19) (b := true) rfl rfl rfl (zA hN8 rfl) ?_
   refine st_step rfl (fun _ h9 => zN (v := (Value.int .u16 (dj[(jj - 1)]!.toNat : Int))) one74 (zA hN8 rfl) (by have := hc19 0 (.int .u16 (dj[(jj - 1)]!.toNat : Int)) zz (el_arr (i := (jj - 1)) zx (by first | omega | (simp only [Array.size_setIfInBounds, swp_sz, siftDown_size]; omega))); simpa using this) h9) ?_
   refine st_g_true (j := 3) (dj := 19) (b := true) rfl rfl rfl (zA hN8 rfl) ?_
   refine st_fn (vs := [(.int .u16 (dj[jj]!.toNat : Int)), (.int .u16 (dj[(jj - 1)]!.toNat : Int))]) ok132 (⟨(zA hN8 rfl), ⟨(zA hN8 rfl), trivial⟩⟩) (Less16_ret dj[jj]! dj[(jj - 1)]! _) ?_
   refine st_step rfl (fun _ h9 => zc (zA hN8 rfl) (zA hN8 rfl) h9) ?_
   refine st_nil ?_
   refine hK11 _ _ (wp_cond_split (zA hN8 rfl) (fun c30 => ?_) (fun c30 => ?_))
   ·
    refine wp_skip (hK10 _ _ (zF fun K20 hK20 => ?_))
    refine wp_block ?_
    refine reg_mid (e := 74) (sz := 1) (base := base) (n := n) (v := v) (Φ := phiL [(fun uz _ => uz = v), (fun uz _ => uz = (.int .i64 ((jj : Nat) : Int))), (fun uz _ => uz = v), (fun uz _ => uz = (.int .i64 ((jj : Nat) : Int))), (fun uz _ => uz = (.int .i64 (((jj : Nat) : Int) - 1))), (fun uz _ => uz = v), (fun uz _ => uz = (.int .i64 ((jj : Nat) : Int))), (fun uz _ => uz = (.int .i64 (((jj : Nat) : Int) - 1))), (fun uz _ => ∃ bz oz, uz = ptr bz oz ∧ AtV v (jj - 1) bz oz), (fun uz _ => uz = (.int .u16 (dj[(jj - 1)]!.toNat : Int))), (fun uz _ => uz = v), (fun uz _ => uz = (.int .i64 ((jj : Nat) : Int))), (fun uz _ => ∃ bz oz, uz = ptr bz oz ∧ AtV v jj bz oz), (fun uz _ => uz = (.int .u16 (dj[jj]!.toNat : Int))), (fun uz _ => ∃ bz oz, uz = ptr bz oz ∧ AtV v jj bz oz), (fun _ _ => True), (fun uz _ => ∃ bz oz, uz = ptr bz oz ∧ AtV v (jj - 1) bz oz), (fun _ _ => True)]) [15, 17] [(dj.toList.map u16v), ((dj.setIfInBounds jj dj[(jj - 1)]!).toList.map u16v), (((dj.setIfInBounds jj dj[(jj - 1)]!).setIfInBounds (jj - 1) dj[jj]!).toList.map u16v)] mixed zy zy zy zy hN8 hO9 (StL.get (StL.eq (StL.eq (StL.eq (StL.eq (StL.eq (StL.eq (StL.eq (StL.eq (StL.at (StL.eq (StL.eq (StL.eq (StL.at (StL.eq (StL.at (StL.cons (fun _ _ _ _ h => h) (StL.at (StL.cons (fun _ _ _ _ h => h) (StL.nil _)))))))))))))))))))) (ObRs.get (ObRs.cons ?_ (ObRs.cons ?_ (ObRs.cons ?_ (ObRs.cons ?_ (ObRs.cons ?_ (ObRs.cons ?_ (ObRs.cons ?_ (ObRs.cons ?_ (ObRs.cons ?_ (ObRs.cons ?_ (ObRs.cons ?_ (ObRs.cons ?_ (ObRs.cons ?_ (ObRs.cons ?_ (ObRs.cons ?_ (ObRs.pass rfl (ObRs.cons ?_ (ObRs.pass rfl (ObRs.nil)))))))))))))))))))) (ObWs.get (ObWs.cons ?_ (ObWs.cons ?_ (ObWs.nil)))) ?_
    ·
     intro aA wA cA hNA hRA hckA hOA hbsA hdpA
     have qA_0 := (hbsA 0 rfl).trans (zL hN8 rfl s8_0)
     clear hbsA hdpA
     refine zG (zC hNA rfl qA_0) ?_
     exact obR_end rfl rfl (grown_refl _ _)
    ·
     intro aA wA cA hNA hRA hckA hOA hbsA hdpA
     have qA_7 := (hbsA 7 rfl).trans (zL hN8 rfl s8_7)
     clear hbsA hdpA
     refine zG (zC hNA rfl qA_7) ?_
     exact obR_end rfl rfl (grown_refl _ _)
    ·
     intro aA wA cA hNA hRA hckA hOA hbsA hdpA
     have qA_0 := (hbsA 0 rfl).trans (zL hN8 rfl s8_0)
     clear hbsA hdpA
     refine zG (zC hNA rfl qA_0) ?_
     exact obR_end rfl rfl (grown_refl _ _)
    ·
     intro aA wA cA hNA hRA hckA hOA hbsA hdpA
     have qA_7 := (hbsA 7 rfl).trans (zL hN8 rfl s8_7)
     clear hbsA hdpA
     refine zG (zC hNA rfl qA_7) ?_
     exact obR_end rfl rfl (grown_refl _ _)
    ·
     intro aA wA cA hNA hRA hckA hOA hbsA hdpA
     have qA_36 : Sl aA 36 (.int .i64 ((jj : Nat) : Int)) := hdpA 3 _ 36 zy rfl rfl
     clear hbsA hdpA
     refine op_sub (zC hNA rfl qA_36) rfl (sub64 zx) ?_
     exact obR_end rfl rfl (grown_refl _ _)
    ·
     intro aA wA cA hNA hRA hckA hOA hbsA hdpA
     have qA_0 := (hbsA 0 rfl).trans (zL hN8 rfl s8_0)
     clear hbsA hdpA
     refine zG (zC hNA rfl qA_0) ?_
     exact obR_end rfl rfl (grown_refl _ _)
    ·
     intro aA wA cA hNA hRA hckA hOA hbsA hdpA
     have qA_7 := (hbsA 7 rfl).trans (zL hN8 rfl s8_7)
     clear hbsA hdpA
     refine zG (zC hNA rfl qA_7) ?_
     exact obR_end rfl rfl (grown_refl _ _)
    ·
     intro aA wA cA hNA hRA hckA hOA hbsA hdpA
     have qA_39 : Sl aA 39 (.int .i64 ((jj : Nat) : Int)) := hdpA 6 _ 39 zy rfl rfl
     clear hbsA hdpA
     refine op_sub (zC hNA rfl qA_39) rfl (sub64 zx) ?_
     exact obR_end rfl rfl (grown_refl _ _)
    ·
     intro aA wA cA hNA hRA hckA hOA hbsA hdpA
     have qA_38 : Sl aA 38 v := hdpA 5 _ 38 zy rfl rfl
     have qA_40 : Sl aA 40 (.int .i64 (((jj : Nat) : Int) - 1)) := hdpA 7 _ 40 zy rfl rfl
     clear hbsA hdpA
     refine op_index_own (i := (jj - 1)) slt42 (zC hNA rfl qA_38) hOA (zC hNA rfl qA_40) zx zx ?_
     intro b_ o_ _ hA_
     exact obR_end rfl ⟨b_, o_, rfl, by simpa using hA_⟩ (grown_refl _ _)
    ·
     intro aA wA cA hNA hRA hckA hOA hbsA hdpA
     obtain ⟨bA_41, oA_41, qA_41, hAA_41⟩ := hdpA 8 _ 41 zy rfl rfl
     clear hbsA hdpA
     obtain rfl : cA = 0 := Nat.le_zero.1 (hckA 0 15 rfl zy)
     have hOA : Own wA base 74 1 v n (dj.toList.map u16v) := hOA
     refine zN (v := (Value.int .u16 (dj[(jj - 1)]!.toNat : Int))) one74 (zC hNA rfl qA_41) (by have := hOA.cellAt hAA_41 0 _ (el_at (i := (jj - 1)) (by first | omega | (simp only [Array.size_setIfInBounds, swp_sz, siftDown_size]; omega))); simpa using this) ?_
     exact obR_end rfl rfl (grown_refl _ _)
    ·
     intro aA wA cA hNA hRA hckA hOA hbsA hdpA
     have qA_0 := (hbsA 0 rfl).trans (zL hN8 rfl s8_0)
     clear hbsA hdpA
     refine zG (zC hNA rfl qA_0) ?_
     exact obR_end rfl rfl (grown_refl _ _)
    ·
     intro aA wA cA hNA hRA hckA hOA hbsA hdpA
     have qA_7 := (hbsA 7 rfl).trans (zL hN8 rfl s8_7)
     clear hbsA hdpA
     refine zG (zC hNA rfl qA_7) ?_
     exact obR_end rfl rfl (grown_refl _ _)
    ·
     intro aA wA cA hNA hRA hckA hOA hbsA hdpA
     have qA_43 : Sl aA 43 v := hdpA 10 _ 43 zy rfl rfl
     have qA_44 : Sl aA 44 (.int .i64 ((jj : Nat) : Int)) := hdpA 11 _ 44 zy rfl rfl
     clear hbsA hdpA
     refine op_index_own (i := jj) slt42 (zC hNA rfl qA_43) hOA (zC hNA rfl qA_44) zx zx ?_
     intro b_ o_ _ hA_
     exact obR_end rfl ⟨b_, o_, rfl, by simpa using hA_⟩ (grown_refl _ _)
    ·
     intro aA wA cA hNA hRA hckA hOA hbsA hdpA
     obtain ⟨bA_45, oA_45, qA_45, hAA_45⟩ := hdpA 12 _ 45 zy rfl rfl
     clear hbsA hdpA
     obtain rfl : cA = 0 := Nat.le_zero.1 (hckA 0 15 rfl zy)
     have hOA : Own wA base 74 1 v n (dj.toList.map u16v) := hOA
     refine zN (v := (Value.int .u16 (dj[jj]!.toNat : Int))) one74 (zC hNA rfl qA_45) (by have := hOA.cellAt hAA_45 0 _ (el_at (i := jj) (by first | omega | (simp only [Array.size_setIfInBounds, swp_sz, siftDown_size]; omega))); simpa using this) ?_
     exact obR_end rfl rfl (grown_refl _ _)
    ·
     intro aA wA cA hNA hRA hckA hOA hbsA hdpA
     have qA_33 : Sl aA 33 v := hdpA 0 _ 33 zy rfl rfl
     have qA_34 : Sl aA 34 (.int .i64 ((jj : Nat) : Int)) := hdpA 1 _ 34 zy rfl rfl
     clear hbsA hdpA
     refine op_index_own (i := jj) slt42 (zC hNA rfl qA_33) hOA (zC hNA rfl qA_34) zx zx ?_
     intro b_ o_ _ hA_
     exact obR_end rfl ⟨b_, o_, rfl, by simpa using hA_⟩ (grown_refl _ _)
    ·
     intro aA wA cA hNA hRA hckA hOA hbsA hdpA
     have qA_35 : Sl aA 35 v := hdpA 2 _ 35 zy rfl rfl
     have qA_37 : Sl aA 37 (.int .i64 (((jj : Nat) : Int) - 1)) := hdpA 4 _ 37 zy rfl rfl
     clear hbsA hdpA
     refine op_index_own (i := (jj - 1)) slt42 (zC hNA rfl qA_35) hOA (zC hNA rfl qA_37) zx zx ?_
     intro b_ o_ _ hA_
     exact obR_end rfl ⟨b_, o_, rfl, by simpa using hA_⟩ (grown_refl _ _)
    ·
     intro o_ ho_; obtain rfl := zE ho_; intro aA wA hNA hRA hbsA hdpA hOA
     obtain ⟨bA_47, oA_47, qA_47, hAA_47⟩ := hdpA 14 _ 47 zy rfl rfl
     have qA_42 : Sl aA 42 (.int .u16 (dj[(jj - 1)]!.toNat : Int)) := hdpA 9 _ 42 zy rfl rfl
     clear hbsA hdpA
     have hOA : Own wA base 74 1 v n (dj.toList.map u16v) := hOA
     refine op_store_own (vs := [(.int .u16 (dj[(jj - 1)]!.toNat : Int))]) size74 (zC hNA rfl qA_47) (zC hNA rfl qA_42) rfl rfl rfl hOA hAA_47 (by have := hOA.1; simp at this ⊢; omega) ?_
     intro w_ hO_ E_
     exact obW_end rfl (hO_.cast rfl (set_arr (by first | omega | (simp only [Array.size_setIfInBounds, swp_sz, siftDown_size]; omega)))) E_
    ·
     intro o_ ho_; obtain rfl := zE ho_; intro aA wA hNA hRA hbsA hdpA hOA
     obtain ⟨bA_48, oA_48, qA_48, hAA_48⟩ := hdpA 16 _ 48 zy rfl rfl
     have qA_46 : Sl aA 46 (.int .u16 (dj[jj]!.toNat : Int)) := hdpA 13 _ 46 zy rfl rfl
     clear hbsA hdpA
     have hOA : Own wA base 74 1 v n ((dj.setIfInBounds jj dj[(jj - 1)]!).toList.map u16v) := hOA
     refine op_store_own (vs := [(.int .u16 (dj[jj]!.toNat : Int))]) size74 (zC hNA rfl qA_48) (zC hNA rfl qA_46) rfl rfl rfl hOA hAA_48 (by have := hOA.1; simp at this ⊢; omega) ?_
     intro w_ hO_ E_
     exact obW_end rfl (hO_.cast rfl (set_arr (by first | omega | (simp only [Array.size_setIfInBounds, swp_sz, siftDown_size]; omega)))) E_
    intro a21 w21 hN21 hd21 hbs21 hph21 hO21 E21
    have hd21 := hd21.trans hd8
    have s21_0 := (hbs21 0 rfl).trans (zL hN8 rfl s8_0)
    have s21_1 := (hbs21 1 rfl).trans (zL hN8 rfl s8_1)
    have s21_2 := (hbs21 2 rfl).trans (zL hN8 rfl s8_2)
    have s21_6 := (hbs21 6 rfl).trans (zL hN8 rfl s8_6)
    have s21_7 := (hbs21 7 rfl).trans (zL hN8 rfl s8_7)
    clear hbs21 hph21
    have hO21 : Own w21 base 74 1 v n (((dj.setIfInBounds jj dj[(jj - 1)]!).setIfInBounds (jj - 1) dj[jj]!).toList.map u16v) := hO21
    have := E21.size
    have hb := grow_stepX hb E21 rfl
    refine hK20 _ _ (zH ?_)
    refine zG (zC hN21 rfl s21_7) ?_
    refine op_sub (zA hN21 rfl) rfl (sub64 zx) ?_
    refine zD (zA hN21 rfl) ?_
    refine zB ?_
    -- round 12T 18T 30T
    exact zg _ hN21 hd21 ⟨(jj - 1), _, rfl, (zL hN21 rfl s21_0), (zL hN21 rfl s21_1), (zL hN21 rfl s21_2), (zL hN21 rfl s21_6), (zU hN21 rfl).trans (congrArg (Value.int .i64) zx), (by first | assumption | (simp only [Array.size_setIfInBounds, swp_sz, siftDown_size]; assumption)), zx, (hj.trans (insInner_go zx c30)), hb, zx, hO21⟩ zx
   refine wp_exit (then_exit (then_exit (blk_hit ?_)))
   refine hK6 _ _ (zH ?_)
   refine zG (zC hN8 rfl s8_6) ?_
   refine op_add (zA hN8 rfl) rfl (add64 zx) ?_
   refine zD (zA hN8 rfl) ?_
   refine zB ?_
   -- round 12T 18T 30F
   exact zg _ hN8 hd8 ⟨i + 1, _, rfl, (zL hN8 rfl s8_0), (zL hN8 rfl s8_1), (zL hN8 rfl s8_2), (zU hN8 rfl).trans (congrArg (Value.int .i64) zx), (by first | assumption | (simp only [Array.size_setIfInBounds, swp_sz, siftDown_size]; assumption)), zx, (ho.trans ((insOuter_go zx).trans (congrArg (insOuter ltT a b (i + 1)) (hj.trans (insInner_stop (.inr c30)))))), hb, zx, hO9⟩ zx
  refine st_step rfl (fun _ h9 => op_cmp (b := false) (zA hN8 rfl) (zA hN8 rfl) (b_gtr (decide_eq_false g18)) h9) ?_
  refine st_step rfl (fun _ h9 => zG (zA hN8 rfl) h9) ?_
  refine st_g_false (j := 3) (dj := 19) (b := true) rfl rfl rfl (zA hN8 rfl) rfl rfl ?_
  refine st_g_false (j := 3) (dj := 19) (b := true) rfl rfl rfl (zA hN8 rfl) rfl rfl ?_
  refine st_g_false (j := 3) (dj := 19) (b := true) rfl rfl rfl (zA hN8 rfl) rfl rfl ?_
  refine st_g_false (j := 3) (dj := 19) (b := true) rfl rfl rfl (zA hN8 rfl) rfl rfl ?_
  refine st_g_false (j := 3) (dj := 19) (b := true) rfl rfl rfl (zA hN8 rfl) rfl rfl ?_
  refine st_g_false (j := 3) (dj := 19) (b := true) rfl rfl rfl (zA hN8 rfl) rfl rfl ?_
  refine st_g_false (j := 3) (dj := 19) (b := true) rfl rfl rfl (zA hN8 rfl) rfl rfl ?_
  refine st_g_false (j := 3) (dj := 19) (b := true) rfl rfl rfl (zA hN8 rfl) rfl rfl ?_
  refine st_g_false (j := 3) (dj := 19) (b := true) rfl rfl rfl (zA hN8 rfl) rfl rfl ?_
  refine st_g_false (j := 3) (dj := 19) (b := true) rfl rfl rfl (zA hN8 rfl) rfl rfl ?_
  refine st_step rfl (fun _ h9 => zd (zA hN8 rfl) rfl h9) ?_
  refine st_nil ?_
  refine hK11 _ _ (wp_cond_false (zA hN8 rfl) (wp_exit (then_exit (then_exit (blk_hit ?_)))))
  refine hK6 _ _ (zH ?_)
  refine zG (zC hN8 rfl s8_6) ?_
  refine op_add (zA hN8 rfl) rfl (add64 zx) ?_
  refine zD (zA hN8 rfl) ?_
  refine zB ?_
  -- round 12T 18F
  exact zg _ hN8 hd8 ⟨i + 1, _, rfl, (zL hN8 rfl s8_0), (zL hN8 rfl s8_1), (zL hN8 rfl s8_2), (zU hN8 rfl).trans (congrArg (Value.int .i64) zx), (by first | assumption | (simp only [Array.size_setIfInBounds, swp_sz, siftDown_size]; assumption)), zx, (ho.trans ((insOuter_go zx).trans (congrArg (insOuter ltT a b (i + 1)) (hj.trans (insInner_stop (.inl zx)))))), hb, zx, hO9⟩ zx
 refine zB ?_
 refine hK5 _ _ (wp_cond_false (zA hN2 rfl) (wp_exit (then_exit (then_exit (blk_hit ?_)))))
 refine end_ret ?_
 refine ret0 rfl hd2  ⟨_, rfl, ?_⟩
 exact ⟨hb, rfl, hO3.cast rfl (by rw [show insertionSort ltT d a b = insOuter ltT a b (a + 1) d from rfl, ho, insOuter_stop zx])⟩
open Go.Sort (insertionSort insOuter insInner swp siftDown heapSort heapBuild heapPop scanUp scanDown partition partLoop partitionEqual partEqLoop scanSorted partialIns bitsLen partialInsertionSort shiftDown shiftUp SortedIn reverseRange reverseLoop fixDown fixUp)
set_option maxHeartbeats 2000000 in
theorem siftDownW_ret (d : Ar) (v : Value) (n base : Nat) (lo hi fi : Nat) (w : World) (hd : d.size = n) (hn : n ≤ 4000000000000000000) (O : Own w base 74 1 v n (d.toList.map u16v)) (hfh : fi + hi ≤ n) (hlo : lo ≤ n) : Ret Try.prog 137 #[v, (.int .i64 ((lo : Nat) : Int)), (.int .i64 ((hi : Nat) : Int)), (.int .i64 ((fi : Nat) : Int))] w (fun v' w' => w.grownBy w' v.ownBlock ∧ v' = .tuple #[] ∧ Own w' base 74 1 v n ((siftDown ltT hi fi lo d).toList.map u16v)) := by
 have hb := grown_refl w v.ownBlock
 refine enter (N := 76) Try.func137 rfl rfl (by simp) fun a0 hN hd hA => ?_
 have s0 : a0.tmps.getD 0 undef = v := hA 0 (by simp)
 have s1 : a0.tmps.getD 1 undef = (.int .i64 ((lo : Nat) : Int)) := hA 1 (by simp)
 have s2 : a0.tmps.getD 2 undef = (.int .i64 ((hi : Nat) : Int)) := hA 2 (by simp)
 have s3 : a0.tmps.getD 3 undef = (.int .i64 ((fi : Nat) : Int)) := hA 3 (by simp)
 clear hA
 refine zF fun K1 hK1 => ?_
 refine zH ?_
 refine zG (zC hN rfl s1) ?_
 refine zD (zA hN rfl) ?_
 refine zB ?_
 refine hK1 _ _ (wp_block ?_)
 refine loop_m (fun mz_ az_ w' => ∃ (rt : Nat) (dk : Ar), mz_ = (hi + lo + 1 - rt) ∧ (az_.tmps.getD 0 undef = v) ∧ (az_.tmps.getD 2 undef = (.int .i64 ((hi : Nat) : Int))) ∧ (az_.tmps.getD 3 undef = (.int .i64 ((fi : Nat) : Int))) ∧ (az_.tmps.getD 8 undef = (.int .i64 ((rt : Nat) : Int))) ∧ (dk.size = n) ∧ (rt < hi ∨ rt = lo) ∧ (siftDown ltT hi fi lo d = siftDown ltT hi fi rt dk) ∧ (w.grownBy w' v.ownBlock) ∧ (w.heap.size ≤ w'.heap.size) ∧ (Own w' base 74 1 v n (dk.toList.map u16v))) _ hN hd ⟨lo, _, rfl, (zL hN rfl s0), (zL hN rfl s2), (zL hN rfl s3), (zU hN rfl).trans (congrArg (Value.int .i64) zx), (by first | assumption | (simp only [Array.size_setIfInBounds, swp_sz, siftDown_size]; assumption)), .inr rfl, rfl, hb, (Nat.le_refl _), O⟩ ?_
 rintro _ a2 w2 hN2 hd2 ⟨rt, dk, rfl, s2_0, s2_2, s2_3, s2_8, hdk, hrt, hs, hb, zl_w2, hO3⟩
 have := hb.size
 refine wp_block ?_
 refine zF fun K4 hK4 => ?_
 refine zH ?_
 refine zG (zC hN2 rfl s2_8) ?_
 refine op_mul rfl (zA hN2 rfl) (mul64 zx) ?_
 refine op_add (zA hN2 rfl) rfl (add64 zx) ?_
 refine zD (zA hN2 rfl) ?_
 refine zB ?_
 refine hK4 _ _ (zF fun K5 hK5 => ?_)
 refine zF fun K6 hK6 => ?_
 refine zH ?_
 refine zG (zA hN2 rfl) ?_
 refine zG (zC hN2 rfl s2_2) ?_
 refine op_geq (zA hN2 rfl) (zA hN2 rfl) (fun c16 => ?_) (fun c16 => ?_)
 ·
  refine zB ?_
  refine hK6 _ _ (wp_cond_true (zA hN2 rfl) (wp_exit (then_exit (blk_miss zz (then_exit (blk_hit ?_))))))
  refine end_ret ?_
  refine ret0 rfl hd2  ⟨_, rfl, ?_⟩
  exact ⟨hb, rfl, hO3.cast rfl (by rw [hs, siftDown_stop zx])⟩
 refine zB ?_
 refine hK6 _ _ (wp_cond_false (zA hN2 rfl) (wp_skip (hK5 _ _ (zF fun K7 hK7 => ?_))))
 refine zF fun K8 hK8 => ?_
 refine reg_still mixed zy ?_
 intro w10 E9
 have := E9.size
 have hO3 := hO3.keep0 E9
 have hb := grow_step0 hb E9
 refine st_step rfl (fun _ h9 => zG (zA hN2 rfl) h9) ?_
 refine st_step rfl (fun _ h9 => op_add (zA hN2 rfl) rfl (add64 zx) h9) ?_
 refine st_step rfl (fun _ h9 => zG (zC hN2 rfl s2_2) h9) ?_
 by_cases g20 : (((2 * ((rt : Nat) : Int)) + 1) + 1) < ((hi : Nat) : Int)
 ·
  refine st_step rfl (fun _ h9 => op_cmp (b := true) (zA hN2 rfl) (zA hN2 rfl) (b_lss (decide_eq_true g20)) h9) ?_
  refine st_step rfl (fun _ h9 => zG (zA hN2 rfl) h9) ?_
  refine st_g_true (j := 4) (dj := 21) (b := true) rfl rfl rfl (zA hN2 rfl) ?_
  refine st_step rfl (fun _ h9 => zG (zC hN2 rfl s2_0) h9) ?_
  refine st_g_true (j := 4) (dj := 21) (b := true) rfl rfl rfl (zA hN2 rfl) ?_
  refine st_step rfl (fun _ h9 => zG (zC hN2 rfl s2_3) h9) ?_
  refine st_g_true (j := 4) (dj := 21) (b := true) rfl rfl rfl (zA hN2 rfl) ?_
  refine st_step rfl (fun _ h9 => zG (zA hN2 rfl) h9) ?_
  refine st_g_true (j := 4) (dj := 21) (b := true) rfl rfl rfl (zA hN2 rfl) ?_
  refine st_step rfl (fun _ h9 => op_add (zA hN2 rfl) (zA hN2 rfl) (add64 zx) h9) ?_
  refine st_g_true (j := 4) (dj := 21) (b := true) rfl rfl rfl (zA hN2 rfl) ?_
  refine st_index_rd slt42 (zA hN2 rfl) hO3.rdw (zA hN2 rfl) zx zx ?_
  intro b11 o12 h0b11 h1b11 hc13
  refine st_g_true (j := 4) (dj := 21) (b := true) rfl rfl rfl (zA hN2 rfl) ?_
  refine st_step rfl (fun _ h9 => zN (v := (Value.int .u16 (dk[(fi + ((2 * rt) + 1))]!.toNat : Int))) one74 (zA hN2 rfl) (by have := hc13 0 (.int .u16 (dk[(fi + ((2 * rt) + 1))]!.toNat : Int)) zz (el_arr (i := (fi + ((2 * rt) + 1))) zx (by first | omega | (simp only [Array.size_setIfInBounds, swp_sz, siftDown_size]; omega))); simpa using this) h9) ?_
  refine st_g_true (j := 4) (dj := 21) (b := true) rfl rfl rfl (zA hN2 rfl) ?_
  refine st_step rfl (fun _ h9 => zG (zC hN2 rfl s2_0) h9) ?_
  refine st_g_true (j := 4) (dj := 21) (b := true) rfl rfl rfl (zA hN2 rfl) ?_
  refine st_step rfl (fun _ h9 => zG (zC hN2 rfl s2_3) h9) ?_
  refine st_g_true (j := 4) (dj := 21) (b := true) rfl rfl rfl (zA hN2 rfl) ?_
  refine st_step rfl (fun _ h9 => zG (zA hN2 rfl) h9) ?_
  refine st_g_true (j := 4) (dj := 21) (b := true) rfl rfl rfl (zA hN2 rfl) ?_
  refine st_step rfl (fun _ h9 => op_add (zA hN2 rfl) (zA hN2 rfl) (add64 zx) h9) ?_
  refine st_g_true (j := 4) (dj := 21) (b := true) rfl rfl rfl (zA hN2 rfl) ?_
  refine st_step rfl (fun _ h9 => op_add (zA hN2 rfl) rfl (add64 zx) h9) ?_
  refine st_g_true (j := 4) (dj := 21) (b := true) rfl rfl rfl (zA hN2 rfl) ?_
  refine st_index_rd slt42 (zA hN2 rfl) hO3.rdw (zA hN2 rfl) zx zx ?_
  intro b14 o15 h0b14 h1b14 hc16
  refine st_g_true (j := 4) (dj := 21) (b := true) rfl rfl rfl (zA hN2 rfl) ?_
  refine st_step rfl (fun _ h9 => zN (v := (Value.int .u16 (dk[((fi + ((2 * rt) + 1)) + 1)]!.toNat : Int))) one74 (zA hN2 rfl) (by have := hc16 0 (.int .u16 (dk[((fi + ((2 * rt) + 1)) + 1)]!.toNat : Int)) zz (el_arr (i := ((fi + ((2 * rt) + 1)) + 1)) zx (by first | omega | (simp only [Array.size_setIfInBounds, swp_sz, siftDown_size]; omega))); simpa using this) h9) ?_
  refine st_g_true (j := 4) (dj := 21) (b := true) rfl rfl rfl (zA hN2 rfl) ?_
  refine st_fn (vs := [(.int .u16 (dk[(fi + ((2 * rt) + 1))]!.toNat : Int)), (.int .u16 (dk[((fi + ((2 * rt) + 1)) + 1)]!.toNat : Int))]) ok132 (⟨(zA hN2 rfl), ⟨(zA hN2 rfl), trivial⟩⟩) (Less16_ret dk[(fi + ((2 * rt) + 1))]! dk[((fi + ((2 * rt) + 1)) + 1)]! _) ?_
  refine st_step rfl (fun _ h9 => zc (zA hN2 rfl) (zA hN2 rfl) h9) ?_
  refine st_nil ?_
  refine hK8 _ _ (wp_cond_split (zA hN2 rfl) (fun c36 => ?_) (fun c36 => ?_))
  ·
   refine zH ?_
   refine zG (zA hN2 rfl) ?_
   refine op_add (zA hN2 rfl) rfl (add64 zx) ?_
   refine zD (zA hN2 rfl) ?_
   refine zB ?_
   refine hK7 _ _ (zF fun K17 hK17 => ?_)
   refine zF fun K18 hK18 => ?_
   refine reg_still mixed zy ?_
   intro w20 E19
   have := E19.size
   have hO3 := hO3.keep0 E19
   have hb := grow_step0 hb E19
   refine st_step rfl (fun _ h9 => zG (zC hN2 rfl s2_0) h9) ?_
   refine st_step rfl (fun _ h9 => zG (zC hN2 rfl s2_3) h9) ?_
   refine st_step rfl (fun _ h9 => zG (zC hN2 rfl s2_8) h9) ?_
   refine st_step rfl (fun _ h9 => op_add (zA hN2 rfl) (zA hN2 rfl) (add64 zx) h9) ?_
   refine st_index_rd slt42 (zA hN2 rfl) hO3.rdw (zA hN2 rfl) zx zx ?_
   intro b21 o22 h0b21 h1b21 hc23
   refine st_step rfl (fun _ h9 => zN (v := (Value.int .u16 (dk[(fi + rt)]!.toNat : Int))) one74 (zA hN2 rfl) (by have := hc23 0 (.int .u16 (dk[(fi + rt)]!.toNat : Int)) zz (el_arr (i := (fi + rt)) zx (by first | omega | (simp only [Array.size_setIfInBounds, swp_sz, siftDown_size]; omega))); simpa using this) h9) ?_
   refine st_step rfl (fun _ h9 => zG (zC hN2 rfl s2_0) h9) ?_
   refine st_step rfl (fun _ h9 => zG (zC hN2 rfl s2_3) h9) ?_
   refine st_step rfl (fun _ h9 => zG (zA hN2 rfl) h9) ?_
   refine st_step rfl (fun _ h9 => op_add (zA hN2 rfl) (zA hN2 rfl) (add64 zx) h9) ?_
   refine st_index_rd slt42 (zA hN2 rfl) hO3.rdw (zA hN2 rfl) zx zx ?_
   intro b24 o25 h0b24 h1b24 hc26
   refine st_step rfl (fun _ h9 => zN (v := (Value.int .u16 (dk[(fi + (((2 * rt) + 1) + 1))]!.toNat : Int))) one74 (zA hN2 rfl) (by have := hc26 0 (.int .u16 (dk[(fi + (((2 * rt) + 1) + 1))]!.toNat : Int)) zz (el_arr (i := (fi + (((2 * rt) + 1) + 1))) zx (by first | omega | (simp only [Array.size_setIfInBounds, swp_sz, siftDown_size]; omega))); simpa using this) h9) ?_
   refine st_fn (vs := [(.int .u16 (dk[(fi + rt)]!.toNat : Int)), (.int .u16 (dk[(fi + (((2 * rt) + 1) + 1))]!.toNat : Int))]) ok132 (⟨(zA hN2 rfl), ⟨(zA hN2 rfl), trivial⟩⟩) (Less16_ret dk[(fi + rt)]! dk[(fi + (((2 * rt) + 1) + 1))]! _) ?_
   refine st_step rfl (fun _ h9 => op_not (zA hN2 rfl) h9) ?_
   refine st_nil ?_
   refine hK18 _ _ (wp_cond_split (zA hN2 rfl) (fun c52 => ?_) (fun c52 => ?_))
   ·
    refine wp_ret (zO (zb (zO (zb ( ?_)))))
    refine ret0 rfl hd2  ⟨_, rfl, ?_⟩
    have hch : childS hi fi rt dk = 2 * rt + 2 := childS_t zx c36
    exact ⟨hb, rfl, hO3.cast rfl (by rw [hs, siftDown_ret zx (by rw [hch]; simpa [Nat.add_assoc] using c52)])⟩
   refine wp_skip (hK17 _ _ (zF fun K27 hK27 => ?_))
   refine reg_mid (e := 74) (sz := 1) (base := base) (n := n) (v := v) (Φ := phiL [(fun uz _ => uz = v), (fun uz _ => uz = (.int .i64 ((fi : Nat) : Int))), (fun uz _ => uz = (.int .i64 ((rt : Nat) : Int))), (fun uz _ => uz = (.int .i64 (((fi : Nat) : Int) + ((rt : Nat) : Int)))), (fun uz _ => uz = v), (fun uz _ => uz = (.int .i64 ((fi : Nat) : Int))), (fun uz _ => uz = (.int .i64 (((2 * ((rt : Nat) : Int)) + 1) + 1))), (fun uz _ => uz = (.int .i64 (((fi : Nat) : Int) + (((2 * ((rt : Nat) : Int)) + 1) + 1)))), (fun uz _ => uz = v), (fun uz _ => uz = (.int .i64 ((fi : Nat) : Int))), (fun uz _ => uz = (.int .i64 (((2 * ((rt : Nat) : Int)) + 1) + 1))), (fun uz _ => uz = (.int .i64 (((fi : Nat) : Int) + (((2 * ((rt : Nat) : Int)) + 1) + 1)))), (fun uz _ => ∃ bz oz, uz = ptr bz oz ∧ AtV v (fi + (((2 * rt) + 1) + 1)) bz oz), (fun uz _ => uz = (.int .u16 (dk[(fi + (((2 * rt) + 1) + 1))]!.toNat : Int))), (fun uz _ => uz = v), (fun uz _ => uz = (.int .i64 ((fi : Nat) : Int))), (fun uz _ => uz = (.int .i64 ((rt : Nat) : Int))), (fun uz _ => uz = (.int .i64 (((fi : Nat) : Int) + ((rt : Nat) : Int)))), (fun uz _ => ∃ bz oz, uz = ptr bz oz ∧ AtV v (fi + rt) bz oz), (fun uz _ => uz = (.int .u16 (dk[(fi + rt)]!.toNat : Int))), (fun uz _ => ∃ bz oz, uz = ptr bz oz ∧ AtV v (fi + rt) bz oz), (fun _ _ => True), (fun uz _ => ∃ bz oz, uz = ptr bz oz ∧ AtV v (fi + (((2 * rt) + 1) + 1)) bz oz), (fun _ _ => True)]) [21, 23] [(dk.toList.map u16v), ((dk.setIfInBounds (fi + rt) dk[(fi + (((2 * rt) + 1) + 1))]!).toList.map u16v), (((dk.setIfInBounds (fi + rt) dk[(fi + (((2 * rt) + 1) + 1))]!).setIfInBounds (fi + (((2 * rt) + 1) + 1)) dk[(fi + rt)]!).toList.map u16v)] mixed zy zy zy zy hN2 hO3 (StL.get (StL.eq (StL.eq (StL.eq (StL.eq (StL.eq (StL.eq (StL.eq (StL.eq (StL.eq (StL.eq (StL.eq (StL.eq (StL.at (StL.eq (StL.eq (StL.eq (StL.eq (StL.eq (StL.at (StL.eq (StL.at (StL.cons (fun _ _ _ _ h => h) (StL.at (StL.cons (fun _ _ _ _ h => h) (StL.nil _)))))))))))))))))))))))))) (ObRs.get (ObRs.cons ?_ (ObRs.cons ?_ (ObRs.cons ?_ (ObRs.cons ?_ (ObRs.cons ?_ (ObRs.cons ?_ (ObRs.cons ?_ (ObRs.cons ?_ (ObRs.cons ?_ (ObRs.cons ?_ (ObRs.cons ?_ (ObRs.cons ?_ (ObRs.cons ?_ (ObRs.cons ?_ (ObRs.cons ?_ (ObRs.cons ?_ (ObRs.cons ?_ (ObRs.cons ?_ (ObRs.cons ?_ (ObRs.cons ?_ (ObRs.cons ?_ (ObRs.pass rfl (ObRs.cons ?_ (ObRs.pass rfl (ObRs.nil)))))))))))))))))))))))))) (ObWs.get (ObWs.cons ?_ (ObWs.cons ?_ (ObWs.nil)))) ?_
   ·
    intro aA wA cA hNA hRA hckA hOA hbsA hdpA
    have qA_0 := (hbsA 0 rfl).trans (zL hN2 rfl s2_0)
    clear hbsA hdpA
    refine zG (zC hNA rfl qA_0) ?_
    exact obR_end rfl rfl (grown_refl _ _)
   ·
    intro aA wA cA hNA hRA hckA hOA hbsA hdpA
    have qA_3 := (hbsA 3 rfl).trans (zL hN2 rfl s2_3)
    clear hbsA hdpA
    refine zG (zC hNA rfl qA_3) ?_
    exact obR_end rfl rfl (grown_refl _ _)
   ·
    intro aA wA cA hNA hRA hckA hOA hbsA hdpA
    have qA_8 := (hbsA 8 rfl).trans (zL hN2 rfl s2_8)
    clear hbsA hdpA
    refine zG (zC hNA rfl qA_8) ?_
    exact obR_end rfl rfl (grown_refl _ _)
   ·
    intro aA wA cA hNA hRA hckA hOA hbsA hdpA
    have qA_54 : Sl aA 54 (.int .i64 ((fi : Nat) : Int)) := hdpA 1 _ 54 zy rfl rfl
    have qA_55 : Sl aA 55 (.int .i64 ((rt : Nat) : Int)) := hdpA 2 _ 55 zy rfl rfl
    clear hbsA hdpA
    refine op_add (zC hNA rfl qA_54) (zC hNA rfl qA_55) (add64 zx) ?_
    exact obR_end rfl rfl (grown_refl _ _)
   ·
    intro aA wA cA hNA hRA hckA hOA hbsA hdpA
    have qA_0 := (hbsA 0 rfl).trans (zL hN2 rfl s2_0)
    clear hbsA hdpA
    refine zG (zC hNA rfl qA_0) ?_
    exact obR_end rfl rfl (grown_refl _ _)
   ·
    intro aA wA cA hNA hRA hckA hOA hbsA hdpA
    have qA_3 := (hbsA 3 rfl).trans (zL hN2 rfl s2_3)
    clear hbsA hdpA
    refine zG (zC hNA rfl qA_3) ?_
    exact obR_end rfl rfl (grown_refl _ _)
   ·
    intro aA wA cA hNA hRA hckA hOA hbsA hdpA
    have qA_9 := (hbsA 9 rfl).trans (zU hN2 rfl)
    clear hbsA hdpA
    refine zG (zC hNA rfl qA_9) ?_
    exact obR_end rfl rfl (grown_refl _ _)
   ·
    intro aA wA cA hNA hRA hckA hOA hbsA hdpA
    have qA_58 : Sl aA 58 (.int .i64 ((fi : Nat) : Int)) := hdpA 5 _ 58 zy rfl rfl
    have qA_59 : Sl aA 59 (.int .i64 (((2 * ((rt : Nat) : Int)) + 1) + 1)) := hdpA 6 _ 59 zy rfl rfl
    clear hbsA hdpA
    refine op_add (zC hNA rfl qA_58) (zC hNA rfl qA_59) (add64 zx) ?_
    exact obR_end rfl rfl (grown_refl _ _)
   ·
    intro aA wA cA hNA hRA hckA hOA hbsA hdpA
    have qA_0 := (hbsA 0 rfl).trans (zL hN2 rfl s2_0)
    clear hbsA hdpA
    refine zG (zC hNA rfl qA_0) ?_
    exact obR_end rfl rfl (grown_refl _ _)
   ·
    intro aA wA cA hNA hRA hckA hOA hbsA hdpA
    have qA_3 := (hbsA 3 rfl).trans (zL hN2 rfl s2_3)
    clear hbsA hdpA
    refine zG (zC hNA rfl qA_3) ?_
    exact obR_end rfl rfl (grown_refl _ _)
   ·
    intro aA wA cA hNA hRA hckA hOA hbsA hdpA
    have qA_9 := (hbsA 9 rfl).trans (zU hN2 rfl)
    clear hbsA hdpA
    refine zG (zC hNA rfl qA_9) ?_
    exact obR_end rfl rfl (grown_refl _ _)
   ·
    intro aA wA cA hNA hRA hckA hOA hbsA hdpA
    have qA_62 : Sl aA 62 (.int .i64 ((fi : Nat) : Int)) := hdpA 9 _ 62 zy rfl rfl
    have qA_63 : Sl aA 63 (.int .i64 (((2 * ((rt : Nat) : Int)) + 1) + 1)) := hdpA 10 _ 63 zy rfl rfl
    clear hbsA hdpA
    refine op_add (zC hNA rfl qA_62) (zC hNA rfl qA_63) (add64 zx) ?_
    exact obR_end rfl rfl (grown_refl _ _)
   ·
    intro aA wA cA hNA hRA hckA hOA hbsA hdpA
    have qA_61 : Sl aA 61 v := hdpA 8 _ 61 zy rfl rfl
    have qA_64 : Sl aA 64 (.int .i64 (((fi : Nat) : Int) + (((2 * ((rt : Nat) : Int)) + 1) + 1))) := hdpA 11 _ 64 zy rfl rfl
    clear hbsA hdpA
    refine op_index_own (i := (fi + (((2 * rt) + 1) + 1))) slt42 (zC hNA rfl qA_61) hOA (zC hNA rfl qA_64) zx zx ?_
    intro b_ o_ _ hA_
    exact obR_end rfl ⟨b_, o_, rfl, by simpa using hA_⟩ (grown_refl _ _)
   ·
    intro aA wA cA hNA hRA hckA hOA hbsA hdpA
    obtain ⟨bA_65, oA_65, qA_65, hAA_65⟩ := hdpA 12 _ 65 zy rfl rfl
    clear hbsA hdpA
    obtain rfl : cA = 0 := Nat.le_zero.1 (hckA 0 21 rfl zy)
    have hOA : Own wA base 74 1 v n (dk.toList.map u16v) := hOA
    refine zN (v := (Value.int .u16 (dk[(fi + (((2 * rt) + 1) + 1))]!.toNat : Int))) one74 (zC hNA rfl qA_65) (by have := hOA.cellAt hAA_65 0 _ (el_at (i := (fi + (((2 * rt) + 1) + 1))) (by first | omega | (simp only [Array.size_setIfInBounds, swp_sz, siftDown_size]; omega))); simpa using this) ?_
    exact obR_end rfl rfl (grown_refl _ _)
   ·
    intro aA wA cA hNA hRA hckA hOA hbsA hdpA
    have qA_0 := (hbsA 0 rfl).trans (zL hN2 rfl s2_0)
    clear hbsA hdpA
    refine zG (zC hNA rfl qA_0) ?_
    exact obR_end rfl rfl (grown_refl _ _)
   ·
    intro aA wA cA hNA hRA hckA hOA hbsA hdpA
    have qA_3 := (hbsA 3 rfl).trans (zL hN2 rfl s2_3)
    clear hbsA hdpA
    refine zG (zC hNA rfl qA_3) ?_
    exact obR_end rfl rfl (grown_refl _ _)
   ·
    intro aA wA cA hNA hRA hckA hOA hbsA hdpA
    have qA_8 := (hbsA 8 rfl).trans (zL hN2 rfl s2_8)
    clear hbsA hdpA
    refine zG (zC hNA rfl qA_8) ?_
    exact obR_end rfl rfl (grown_refl _ _)
   ·
    intro aA wA cA hNA hRA hckA hOA hbsA hdpA
    have qA_68 : Sl aA 68 (.int .i64 ((fi : Nat) : Int)) := hdpA 15 _ 68 zy rfl rfl
    have qA_69 : Sl aA 69 (.int .i64 ((rt : Nat) : Int)) := hdpA 16 _ 69 zy rfl rfl
    clear hbsA hdpA
    refine op_add (zC hNA rfl qA_68) (zC hNA rfl qA_69) (add64 zx) ?_
    exact obR_end rfl rfl (grown_refl _ _)
   ·
    intro aA wA cA hNA hRA hckA hOA hbsA hdpA
    have qA_67 : Sl aA 67 v := hdpA 14 _ 67 zy rfl rfl
    have qA_70 : Sl aA 70 (.int .i64 (((fi : Nat) : Int) + ((rt : Nat) : Int))) := hdpA 17 _ 70 zy rfl rfl
    clear hbsA hdpA
    refine op_index_own (i := (fi + rt)) slt42 (zC hNA rfl qA_67) hOA (zC hNA rfl qA_70) zx zx ?_
    intro b_ o_ _ hA_
    exact obR_end rfl ⟨b_, o_, rfl, by simpa using hA_⟩ (grown_refl _ _)
   ·
    intro aA wA cA hNA hRA hckA hOA hbsA hdpA
    obtain ⟨bA_71, oA_71, qA_71, hAA_71⟩ := hdpA 18 _ 71 zy rfl rfl
    clear hbsA hdpA
    obtain rfl : cA = 0 := Nat.le_zero.1 (hckA 0 21 rfl zy)
    have hOA : Own wA base 74 1 v n (dk.toList.map u16v) := hOA
    refine zN (v := (Value.int .u16 (dk[(fi + rt)]!.toNat : Int))) one74 (zC hNA rfl qA_71) (by have := hOA.cellAt hAA_71 0 _ (el_at (i := (fi + rt)) (by first | omega | (simp only [Array.size_setIfInBounds, swp_sz, siftDown_size]; omega))); simpa using this) ?_
    exact obR_end rfl rfl (grown_refl _ _)
   ·
    intro aA wA cA hNA hRA hckA hOA hbsA hdpA
    have qA_53 : Sl aA 53 v := hdpA 0 _ 53 zy rfl rfl
    have qA_56 : Sl aA 56 (.int .i64 (((fi : Nat) : Int) + ((rt : Nat) : Int))) := hdpA 3 _ 56 zy rfl rfl
    clear hbsA hdpA
    refine op_index_own (i := (fi + rt)) slt42 (zC hNA rfl qA_53) hOA (zC hNA rfl qA_56) zx zx ?_
    intro b_ o_ _ hA_
    exact obR_end rfl ⟨b_, o_, rfl, by simpa using hA_⟩ (grown_refl _ _)
   ·
    intro aA wA cA hNA hRA hckA hOA hbsA hdpA
    have qA_57 : Sl aA 57 v := hdpA 4 _ 57 zy rfl rfl
    have qA_60 : Sl aA 60 (.int .i64 (((fi : Nat) : Int) + (((2 * ((rt : Nat) : Int)) + 1) + 1))) := hdpA 7 _ 60 zy rfl rfl
    clear hbsA hdpA
    refine op_index_own (i := (fi + (((2 * rt) + 1) + 1))) slt42 (zC hNA rfl qA_57) hOA (zC hNA rfl qA_60) zx zx ?_
    intro b_ o_ _ hA_
    exact obR_end rfl ⟨b_, o_, rfl, by simpa using hA_⟩ (grown_refl _ _)
   ·
    intro o_ ho_; obtain rfl := zE ho_; intro aA wA hNA hRA hbsA hdpA hOA
    obtain ⟨bA_73, oA_73, qA_73, hAA_73⟩ := hdpA 20 _ 73 zy rfl rfl
    have qA_66 : Sl aA 66 (.int .u16 (dk[(fi + (((2 * rt) + 1) + 1))]!.toNat : Int)) := hdpA 13 _ 66 zy rfl rfl
    clear hbsA hdpA
    have hOA : Own wA base 74 1 v n (dk.toList.map u16v) := hOA
    refine op_store_own (vs := [(.int .u16 (dk[(fi + (((2 * rt) + 1) + 1))]!.toNat : Int))]) size74 (zC hNA rfl qA_73) (zC hNA rfl qA_66) rfl rfl rfl hOA hAA_73 (by have := hOA.1; simp at this ⊢; omega) ?_
    intro w_ hO_ E_
    exact obW_end rfl (hO_.cast rfl (set_arr (by first | omega | (simp only [Array.size_setIfInBounds, swp_sz, siftDown_size]; omega)))) E_
   ·
    intro o_ ho_; obtain rfl := zE ho_; intro aA wA hNA hRA hbsA hdpA hOA
    obtain ⟨bA_74, oA_74, qA_74, hAA_74⟩ := hdpA 22 _ 74 zy rfl rfl
    have qA_72 : Sl aA 72 (.int .u16 (dk[(fi + rt)]!.toNat : Int)) := hdpA 19 _ 72 zy rfl rfl
    clear hbsA hdpA
    have hOA : Own wA base 74 1 v n ((dk.setIfInBounds (fi + rt) dk[(fi + (((2 * rt) + 1) + 1))]!).toList.map u16v) := hOA
    refine op_store_own (vs := [(.int .u16 (dk[(fi + rt)]!.toNat : Int))]) size74 (zC hNA rfl qA_74) (zC hNA rfl qA_72) rfl rfl rfl hOA hAA_74 (by have := hOA.1; simp at this ⊢; omega) ?_
    intro w_ hO_ E_
    exact obW_end rfl (hO_.cast rfl (set_arr (by first | omega | (simp only [Array.size_setIfInBounds, swp_sz, siftDown_size]; omega)))) E_
   intro a28 w28 hN28 hd28 hbs28 hph28 hO28 E28
   have hd28 := hd28.trans hd2
   have s28_0 := (hbs28 0 rfl).trans (zL hN2 rfl s2_0)
   have s28_2 := (hbs28 2 rfl).trans (zL hN2 rfl s2_2)
   have s28_3 := (hbs28 3 rfl).trans (zL hN2 rfl s2_3)
   have s28_9 := (hbs28 9 rfl).trans (zU hN2 rfl)
   clear hbs28 hph28
   have hO28 : Own w28 base 74 1 v n (((dk.setIfInBounds (fi + rt) dk[(fi + (((2 * rt) + 1) + 1))]!).setIfInBounds (fi + (((2 * rt) + 1) + 1)) dk[(fi + rt)]!).toList.map u16v) := hO28
   have := E28.size
   have hb := grow_stepX hb E28 rfl
   refine hK27 _ _ (zH ?_)
   refine zG (zC hN28 rfl s28_9) ?_
   refine zD (zA hN28 rfl) ?_
   refine zB ?_
   refine blk_normal ?_
   -- round 16F 20T 36T 52F
   have hch : childS hi fi rt dk = 2 * rt + 2 := childS_t zx c36
   exact zg _ hN28 hd28 ⟨(2 * rt + 2), _, rfl, (zL hN28 rfl s28_0), (zL hN28 rfl s28_2), (zL hN28 rfl s28_3), (zU hN28 rfl).trans (congrArg (Value.int .i64) zx), (by first | assumption | (simp only [Array.size_setIfInBounds, swp_sz, siftDown_size]; assumption)), zx, (hs.trans ((siftDown_go zx (by rw [hch]; simpa [Nat.add_assoc] using c52)).trans (by rw [hch]; rfl))), hb, zx, hO28⟩ zx
  refine wp_skip (hK7 _ _ (zF fun K29 hK29 => ?_))
  refine zF fun K30 hK30 => ?_
  refine reg_still mixed zy ?_
  intro w32 E31
  have := E31.size
  have hO3 := hO3.keep0 E31
  have hb := grow_step0 hb E31
  refine st_step rfl (fun _ h9 => zG (zC hN2 rfl s2_0) h9) ?_
  refine st_step rfl (fun _ h9 => zG (zC hN2 rfl s2_3) h9) ?_
  refine st_step rfl (fun _ h9 => zG (zC hN2 rfl s2_8) h9) ?_
  refine st_step rfl (fun _ h9 => op_add (zA hN2 rfl) (zA hN2 rfl) (add64 zx) h9) ?_
  refine st_index_rd slt42 (zA hN2 rfl) hO3.rdw (zA hN2 rfl) zx zx ?_
  intro b33 o34 h0b33 h1b33 hc35
  refine st_step rfl (fun _ h9 => zN (v := (Value.int .u16 (dk[(fi + rt)]!.toNat : Int))) one74 (zA hN2 rfl) (by have := hc35 0 (.int .u16 (dk[(fi + rt)]!.toNat : Int)) zz (el_arr (i := (fi + rt)) zx (by first | omega | (simp only [Array.size_setIfInBounds, swp_sz, siftDown_size]; omega))); simpa using this) h9) ?_
  refine st_step rfl (fun _ h9 => zG (zC hN2 rfl s2_0) h9) ?_
  refine st_step rfl (fun _ h9 => zG (zC hN2 rfl s2_3) h9) ?_
  refine st_step rfl (fun _ h9 => zG (zA hN2 rfl) h9) ?_
  refine st_step rfl (fun _ h9 => op_add (zA hN2 rfl) (zA hN2 rfl) (add64 zx) h9) ?_
  refine st_index_rd slt42 (zA hN2 rfl) hO3.rdw (zA hN2 rfl) zx zx ?_
  intro b36 o37 h0b36 h1b36 hc38
  refine st_step rfl (fun _ h9 => zN (v := (Value.int .u16 (dk[(fi + ((2 * rt) + 1))]!.toNat : Int))) one74 (zA hN2 rfl) (by have := hc38 0 (.int .u16 (dk[(fi + ((2 * rt) + 1))]!.toNat : Int)) zz (el_arr (i := (fi + ((2 * rt) + 1))) zx (by first | omega | (simp only [Array.size_setIfInBounds, swp_sz, siftDown_size]; omega))); simpa using this) h9) ?_
  refine st_fn (vs := [(.int .u16 (dk[(fi + rt)]!.toNat : Int)), (.int .u16 (dk[(fi + ((2 * rt) + 1))]!.toNat : Int))]) ok132 (⟨(zA hN2 rfl), ⟨(zA hN2 rfl), trivial⟩⟩) (Less16_ret dk[(fi + rt)]! dk[(fi + ((2 * rt) + 1))]! _) ?_
  refine st_step rfl (fun _ h9 => op_not (zA hN2 rfl) h9) ?_
  refine st_nil ?_
  refine hK30 _ _ (wp_cond_split (zA hN2 rfl) (fun c52 => ?_) (fun c52 => ?_))
  ·
   refine wp_ret (zO (zb (zO (zb ( ?_)))))
   refine ret0 rfl hd2  ⟨_, rfl, ?_⟩
   have hch : childS hi fi rt dk = 2 * rt + 1 := childS_f (.inr c36)
   exact ⟨hb, rfl, hO3.cast rfl (by rw [hs, siftDown_ret zx (by rw [hch]; simpa [Nat.add_assoc] using c52)])⟩
  refine wp_skip (hK29 _ _ (zF fun K39 hK39 => ?_))
  refine reg_mid (e := 74) (sz := 1) (base := base) (n := n) (v := v) (Φ := phiL [(fun uz _ => uz = v), (fun uz _ => uz = (.int .i64 ((fi : Nat) : Int))), (fun uz _ => uz = (.int .i64 ((rt : Nat) : Int))), (fun uz _ => uz = (.int .i64 (((fi : Nat) : Int) + ((rt : Nat) : Int)))), (fun uz _ => uz = v), (fun uz _ => uz = (.int .i64 ((fi : Nat) : Int))), (fun uz _ => uz = (.int .i64 ((2 * ((rt : Nat) : Int)) + 1))), (fun uz _ => uz = (.int .i64 (((fi : Nat) : Int) + ((2 * ((rt : Nat) : Int)) + 1)))), (fun uz _ => uz = v), (fun uz _ => uz = (.int .i64 ((fi : Nat) : Int))), (fun uz _ => uz = (.int .i64 ((2 * ((rt : Nat) : Int)) + 1))), (fun uz _ => uz = (.int .i64 (((fi : Nat) : Int) + ((2 * ((rt : Nat) : Int)) + 1)))), (fun uz _ => ∃ bz oz, uz = ptr bz oz ∧ AtV v (fi + ((2 * rt) + 1)) bz oz), (fun uz _ => uz = (.int .u16 (dk[(fi + ((2 * rt) + 1))]!.toNat : Int))), (fun uz _ => uz = v), (fun uz _ => uz = (.int .i64 ((fi : Nat) : Int))), (fun uz _ => uz = (.int .i64 ((rt : Nat) : Int))), (fun uz _ => uz = (.int .i64 (((fi : Nat) : Int) + ((rt : Nat) : Int)))), (fun uz _ => ∃ bz oz, uz = ptr bz oz ∧ AtV v (fi + rt) bz oz), (fun uz _ => uz = (.int .u16 (dk[(fi + rt)]!.toNat : Int))), (fun uz _ => ∃ bz oz, uz = ptr bz oz ∧ AtV v (fi + rt) bz oz), (fun _ _ => True), (fun uz _ => ∃ bz oz, uz = ptr bz oz ∧ AtV v (fi + ((2 * rt) + 1)) bz oz), (fun _ _ => True)]) [21, 23] [(dk.toList.map u16v), ((dk.setIfInBounds (fi + rt) dk[(fi + ((2 * rt) + 1))]!).toList.map u16v), (((dk.setIfInBounds (fi + rt) dk[(fi + ((2 * rt) + 1))]!).setIfInBounds (fi + ((2 * rt) + 1)) dk[(fi + rt)]!).toList.map u16v)] mixed zy zy zy zy hN2 hO3 (StL.get (StL.eq (StL.eq (StL.eq (StL.eq (StL.eq (StL.eq (StL.eq (StL.eq (StL.eq (StL.eq (StL.eq (StL.eq (StL.at (StL.eq (StL.eq (StL.eq (StL.eq (StL.eq (StL.at (StL.eq (StL.at (StL.cons (fun _ _ _ _ h => h) (StL.at (StL.cons (fun _ _ _ _ h => h) (StL.nil _)))))))))))))))))))))))))) (ObRs.get (ObRs.cons ?_ (ObRs.cons ?_ (ObRs.cons ?_ (ObRs.cons ?_ (ObRs.cons ?_ (ObRs.cons ?_ (ObRs.cons ?_ (ObRs.cons ?_ (ObRs.cons ?_ (ObRs.cons ?_ (ObRs.cons ?_ (ObRs.cons ?_ (ObRs.cons ?_ (ObRs.cons ?_ (ObRs.cons ?_ (ObRs.cons ?_ (ObRs.cons ?_ (ObRs.cons ?_ (ObRs.cons ?_ (ObRs.cons ?_ (ObRs.cons ?_ (ObRs.pass rfl (ObRs.cons ?_ (ObRs.pass rfl (ObRs.nil)))))))))))))))))))))))))) (ObWs.get (ObWs.cons ?_ (ObWs.cons ?_ (ObWs.nil)))) ?_
  ·
   intro aA wA cA hNA hRA hckA hOA hbsA hdpA
   have qA_0 := (hbsA 0 rfl).trans (zL hN2 rfl s2_0)
   clear hbsA hdpA
   refine zG (zC hNA rfl qA_0) ?_
   exact obR_end rfl rfl (grown_refl _ _)
  ·
   intro aA wA cA hNA hRA hckA hOA hbsA hdpA
   have qA_3 := (hbsA 3 rfl).trans (zL hN2 rfl s2_3)
   clear hbsA hdpA
   refine zG (zC hNA rfl qA_3) ?_
   exact obR_end rfl rfl (grown_refl _ _)
  ·
   intro aA wA cA hNA hRA hckA hOA hbsA hdpA
   have qA_8 := (hbsA 8 rfl).trans (zL hN2 rfl s2_8)
   clear hbsA hdpA
   refine zG (zC hNA rfl qA_8) ?_
   exact obR_end rfl rfl (grown_refl _ _)
  ·
   intro aA wA cA hNA hRA hckA hOA hbsA hdpA
   have qA_54 : Sl aA 54 (.int .i64 ((fi : Nat) : Int)) := hdpA 1 _ 54 zy rfl rfl
   have qA_55 : Sl aA 55 (.int .i64 ((rt : Nat) : Int)) := hdpA 2 _ 55 zy rfl rfl
   clear hbsA hdpA
   refine op_add (zC hNA rfl qA_54) (zC hNA rfl qA_55) (add64 zx) ?_
   exact obR_end rfl rfl (grown_refl _ _)
  ·
   intro aA wA cA hNA hRA hckA hOA hbsA hdpA
   have qA_0 := (hbsA 0 rfl).trans (zL hN2 rfl s2_0)
   clear hbsA hdpA
   refine zG (zC hNA rfl qA_0) ?_
   exact obR_end rfl rfl (grown_refl _ _)
  ·
   intro aA wA cA hNA hRA hckA hOA hbsA hdpA
   have qA_3 := (hbsA 3 rfl).trans (zL hN2 rfl s2_3)
   clear hbsA hdpA
   refine zG (zC hNA rfl qA_3) ?_
   exact obR_end rfl rfl (grown_refl _ _)
  ·
   intro aA wA cA hNA hRA hckA hOA hbsA hdpA
   have qA_9 := (hbsA 9 rfl).trans (zU hN2 rfl)
   clear hbsA hdpA
   refine zG (zC hNA rfl qA_9) ?_
   exact obR_end rfl rfl (grown_refl _ _)
  ·
   intro aA wA cA hNA hRA hckA hOA hbsA hdpA
   have qA_58 : Sl aA 58 (.int .i64 ((fi : Nat) : Int)) := hdpA 5 _ 58 zy rfl rfl
   have qA_59 : Sl aA 59 (.int .i64 ((2 * ((rt : Nat) : Int)) + 1)) := hdpA 6 _ 59 zy rfl rfl
   clear hbsA hdpA
   refine op_add (zC hNA rfl qA_58) (zC hNA rfl qA_59) (add64 zx) ?_
   exact obR_end rfl rfl (grown_refl _ _)
  ·
   intro aA wA cA hNA hRA hckA hOA hbsA hdpA
   have qA_0 := (hbsA 0 rfl).trans (zL hN2 rfl s2_0)
   clear hbsA hdpA
   refine zG (zC hNA rfl qA_0) ?_
   exact obR_end rfl rfl (grown_refl _ _)
  ·
   intro aA wA cA hNA hRA hckA hOA hbsA hdpA
   have qA_3 := (hbsA 3 rfl).trans (zL hN2 rfl s2_3)
   clear hbsA hdpA
   refine zG (zC hNA rfl qA_3) ?_
   exact obR_end rfl rfl (grown_refl _ _)
  ·
   intro aA wA cA hNA hRA hckA hOA hbsA hdpA
   have qA_9 := (hbsA 9 rfl).trans (zU hN2 rfl)
   clear hbsA hdpA
   refine zG (zC hNA rfl qA_9) ?_
   exact obR_end rfl rfl (grown_refl _ _)
  ·
   intro aA wA cA hNA hRA hckA hOA hbsA hdpA
   have qA_62 : Sl aA 62 (.int .i64 ((fi : Nat) : Int)) := hdpA 9 _ 62 zy rfl rfl
   have qA_63 : Sl aA 63 (.int .i64 ((2 * ((rt : Nat) : Int)) + 1)) := hdpA 10 _ 63 zy rfl rfl
   clear hbsA hdpA
   refine op_add (zC hNA rfl qA_62) (zC hNA rfl qA_63) (add64 zx) ?_
   exact obR_end rfl rfl (grown_refl _ _)
  ·
   intro aA wA cA hNA hRA hckA hOA hbsA hdpA
   have qA_61 : Sl aA 61 v := hdpA 8 _ 61 zy rfl rfl
   have qA_64 : Sl aA 64 (.int .i64 (((fi : Nat) : Int) + ((2 * ((rt : Nat) : Int)) + 1))) := hdpA 11 _ 64 zy rfl rfl
   clear hbsA hdpA
   refine op_index_own (i := (fi + ((2 * rt) + 1))) slt42 (zC hNA rfl qA_61) hOA (zC hNA rfl qA_64) zx zx ?_
   intro b_ o_ _ hA_
   exact obR_end rfl ⟨b_, o_, rfl, by simpa using hA_⟩ (grown_refl _ _)
  ·
   intro aA wA cA hNA hRA hckA hOA hbsA hdpA
   obtain ⟨bA_65, oA_65, qA_65, hAA_65⟩ := hdpA 12 _ 65 zy rfl rfl
   clear hbsA hdpA
   obtain rfl : cA = 0 := Nat.le_zero.1 (hckA 0 21 rfl zy)
   have hOA : Own wA base 74 1 v n (dk.toList.map u16v) := hOA
   refine zN (v := (Value.int .u16 (dk[(fi + ((2 * rt) + 1))]!.toNat : Int))) one74 (zC hNA rfl qA_65) (by have := hOA.cellAt hAA_65 0 _ (el_at (i := (fi + ((2 * rt) + 1))) (by first | omega | (simp only [Array.size_setIfInBounds, swp_sz, siftDown_size]; omega))); simpa using this) ?_
   exact obR_end rfl rfl (grown_refl _ _)
  ·
   intro aA wA cA hNA hRA hckA hOA hbsA hdpA
   have qA_0 := (hbsA 0 rfl).trans (zL hN2 rfl s2_0)
   clear hbsA hdpA
   refine zG (zC hNA rfl qA_0) ?_
   exact obR_end rfl rfl (grown_refl _ _)
  ·
   intro aA wA cA hNA hRA hckA hOA hbsA hdpA
   have qA_3 := (hbsA 3 rfl).trans (zL hN2 rfl s2_3)
   clear hbsA hdpA
   refine zG (zC hNA rfl qA_3) ?_
   exact obR_end rfl rfl (grown_refl _ _)
  ·
   intro aA wA cA hNA hRA hckA hOA hbsA hdpA
   have qA_8 := (hbsA 8 rfl).trans (zL hN2 rfl s2_8)
   clear hbsA hdpA
   refine zG (zC hNA rfl qA_8) ?_
   exact obR_end rfl rfl (grown_refl _ _)
  ·
   intro aA wA cA hNA hRA hckA hOA hbsA hdpA
   have qA_68 : Sl aA 68 (.int .i64 ((fi : Nat) : Int)) := hdpA 15 _ 68 zy rfl rfl
   have qA_69 : Sl aA 69 (.int .i64 ((rt : Nat) : Int)) := hdpA 16 _ 69 zy rfl rfl
   clear hbsA hdpA
   refine op_add (zC hNA rfl qA_68) (zC hNA rfl qA_69) (add64 zx) ?_
   exact obR_end rfl rfl (grown_refl _ _)
  ·
   intro aA wA cA hNA hRA hckA hOA hbsA hdpA
   have qA_67 : Sl aA 67 v := hdpA 14 _ 67 zy rfl rfl
   have qA_70 : Sl aA 70 (.int .i64 (((fi : Nat) : Int) + ((rt : Nat) : Int))) := hdpA 17 _ 70 zy rfl rfl
   clear hbsA hdpA
   refine op_index_own (i := (fi + rt)) slt42 (zC hNA rfl qA_67) hOA (zC hNA rfl qA_70) zx zx ?_
   intro b_ o_ _ hA_
   exact obR_end rfl ⟨b_, o_, rfl, by simpa using hA_⟩ (grown_refl _ _)
  ·
   intro aA wA cA hNA hRA hckA hOA hbsA hdpA
   obtain ⟨bA_71, oA_71, qA_71, hAA_71⟩ := hdpA 18 _ 71 zy rfl rfl
   clear hbsA hdpA
   obtain rfl : cA = 0 := Nat.le_zero.1 (hckA 0 21 rfl zy)
   have hOA : Own wA base 74 1 v n (dk.toList.map u16v) := hOA
   refine zN (v := (Value.int .u16 (dk[(fi + rt)]!.toNat : Int))) one74 (zC hNA rfl qA_71) (by have := hOA.cellAt hAA_71 0 _ (el_at (i := (fi + rt)) (by first | omega | (simp only [Array.size_setIfInBounds, swp_sz, siftDown_size]; omega))); simpa using this) ?_
   exact obR_end rfl rfl (grown_refl _ _)
  ·
   intro aA wA cA hNA hRA hckA hOA hbsA hdpA
   have qA_53 : Sl aA 53 v := hdpA 0 _ 53 zy rfl rfl
   have qA_56 : Sl aA 56 (.int .i64 (((fi : Nat) : Int) + ((rt : Nat) : Int))) := hdpA 3 _ 56 zy rfl rfl
   clear hbsA hdpA
   refine op_index_own (i := (fi + rt)) slt42 (zC hNA rfl qA_53) hOA (zC hNA rfl qA_56) zx zx ?_
   intro b_ o_ _ hA_
   exact obR_end rfl ⟨b_, o_, rfl, by simpa using hA_⟩ (grown_refl _ _)
  ·
   intro aA wA cA hNA hRA hckA hOA hbsA hdpA
   have qA_57 : Sl aA 57 v := hdpA 4 _ 57 zy rfl rfl
   have qA_60 : Sl aA 60 (.int .i64 (((fi : Nat) : Int) + ((2 * ((rt : Nat) : Int)) + 1))) := hdpA 7 _ 60 zy rfl rfl
   clear hbsA hdpA
   refine op_index_own (i := (fi + ((2 * rt) + 1))) slt42 (zC hNA rfl qA_57) hOA (zC hNA rfl qA_60) zx zx ?_
   intro b_ o_ _ hA_
   exact obR_end rfl ⟨b_, o_, rfl, by simpa using hA_⟩ (grown_refl _ _)
  ·
   intro o_ ho_; obtain rfl := zE ho_; intro aA wA hNA hRA hbsA hdpA hOA
   obtain ⟨bA_73, oA_73, qA_73, hAA_73⟩ := hdpA 20 _ 73 zy rfl rfl
   have qA_66 : Sl aA 66 (.int .u16 (dk[(fi + ((2 * rt) + 1))]!.toNat : Int)) := hdpA 13 _ 66 zy rfl rfl
   clear hbsA hdpA
   have hOA : Own wA base 74 1 v n (dk.toList.map u16v) := hOA
   refine op_store_own (vs := [(.int .u16 (dk[(fi + ((2 * rt) + 1))]!.toNat : Int))]) size74 (zC hNA rfl qA_73) (zC hNA rfl qA_66) rfl rfl rfl hOA hAA_73 (by have := hOA.1; simp at this ⊢; omega) ?_
   intro w_ hO_ E_
   exact obW_end rfl (hO_.cast rfl (set_arr (by first | omega | (simp only [Array.size_setIfInBounds, swp_sz, siftDown_size]; omega)))) E_
  ·
   intro o_ ho_; obtain rfl := zE ho_; intro aA wA hNA hRA hbsA hdpA hOA
   obtain ⟨bA_74, oA_74, qA_74, hAA_74⟩ := hdpA 22 _ 74 zy rfl rfl
   have qA_72 : Sl aA 72 (.int .u16 (dk[(fi + rt)]!.toNat : Int)) := hdpA 19 _ 72 zy rfl rfl
   clear hbsA hdpA
   have hOA : Own wA base 74 1 v n ((dk.setIfInBounds (fi + rt) dk[(fi + ((2 * rt) + 1))]!).toList.map u16v) := hOA
   refine op_store_own (vs := [(.int .u16 (dk[(fi + rt)]!.toNat : Int))]) size74 (zC hNA rfl qA_74) (zC hNA rfl qA_72) rfl rfl rfl hOA hAA_74 (by have := hOA.1; simp at this ⊢; omega) ?_
   intro w_ hO_ E_
   exact obW_end rfl (hO_.cast rfl (set_arr (by first | omega | (simp only [Array.size_setIfInBounds, swp_sz, siftDown_size]; omega)))) E_
  intro a40 w40 hN40 hd40 hbs40 hph40 hO40 E40
  have hd40 := hd40.trans hd2
  have s40_0 := (hbs40 0 rfl).trans (zL hN2 rfl s2_0)
  have s40_2 := (hbs40 2 rfl).trans (zL hN2 rfl s2_2)
  have s40_3 := (hbs40 3 rfl).trans (zL hN2 rfl s2_3)
  have s40_9 := (hbs40 9 rfl).trans (zU hN2 rfl)
  clear hbs40 hph40
  have hO40 : Own w40 base 74 1 v n (((dk.setIfInBounds (fi + rt) dk[(fi + ((2 * rt) + 1))]!).setIfInBounds (fi + ((2 * rt) + 1)) dk[(fi + rt)]!).toList.map u16v) := hO40
  have := E40.size
  have hb := grow_stepX hb E40 rfl
  refine hK39 _ _ (zH ?_)
  refine zG (zC hN40 rfl s40_9) ?_
  refine zD (zA hN40 rfl) ?_
  refine zB ?_
  refine blk_normal ?_
  -- round 16F 20T 36F 52F
  have hch : childS hi fi rt dk = 2 * rt + 1 := childS_f (.inr c36)
  exact zg _ hN40 hd40 ⟨(2 * rt + 1), _, rfl, (zL hN40 rfl s40_0), (zL hN40 rfl s40_2), (zL hN40 rfl s40_3), (zU hN40 rfl).trans (congrArg (Value.int .i64) zx), (by first | assumption | (simp only [Array.size_setIfInBounds, swp_sz, siftDown_size]; assumption)), zx, (hs.trans ((siftDown_go zx (by rw [hch]; simpa [Nat.add_assoc] using c52)).trans (by rw [hch]; rfl))), hb, zx, hO40⟩ zx
 refine st_step rfl (fun _ h9 => op_cmp (b := false) (zA hN2 rfl) (zA hN2 rfl) (b_lss (decide_eq_false g20)) h9) ?_
 refine st_step rfl (fun _ h9 => zG (zA hN2 rfl) h9) ?_
 refine st_g_false (j := 4) (dj := 21) (b := true) rfl rfl rfl (zA hN2 rfl) rfl rfl ?_
 refine st_g_false (j := 4) (dj := 21) (b := true) rfl rfl rfl (zA hN2 rfl) rfl rfl ?_
 refine st_g_false (j := 4) (dj := 21) (b := true) rfl rfl rfl (zA hN2 rfl) rfl rfl ?_
 refine st_g_false (j := 4) (dj := 21) (b := true) rfl rfl rfl (zA hN2 rfl) rfl rfl ?_
 refine st_g_false (j := 4) (dj := 21) (b := true) rfl rfl rfl (zA hN2 rfl) rfl rfl ?_
 refine st_g_false (j := 4) (dj := 21) (b := true) rfl rfl rfl (zA hN2 rfl) rfl rfl ?_
 refine st_g_false (j := 4) (dj := 21) (b := true) rfl rfl rfl (zA hN2 rfl) rfl rfl ?_
 refine st_g_false (j := 4) (dj := 21) (b := true) rfl rfl rfl (zA hN2 rfl) rfl rfl ?_
 refine st_g_false (j := 4) (dj := 21) (b := true) rfl rfl rfl (zA hN2 rfl) rfl rfl ?_
 refine st_g_false (j := 4) (dj := 21) (b := true) rfl rfl rfl (zA hN2 rfl) rfl rfl ?_
 refine st_g_false (j := 4) (dj := 21) (b := true) rfl rfl rfl (zA hN2 rfl) rfl rfl ?_
 refine st_g_false (j := 4) (dj := 21) (b := true) rfl rfl rfl (zA hN2 rfl) rfl rfl ?_
 refine st_g_false (j := 4) (dj := 21) (b := true) rfl rfl rfl (zA hN2 rfl) rfl rfl ?_
 refine st_g_false (j := 4) (dj := 21) (b := true) rfl rfl rfl (zA hN2 rfl) rfl rfl ?_
 refine st_step rfl (fun _ h9 => zd (zA hN2 rfl) rfl h9) ?_
 refine st_nil ?_
 refine hK8 _ _ (wp_cond_false (zA hN2 rfl) (wp_skip (hK7 _ _ (zF fun K41 hK41 => ?_))))
 refine zF fun K42 hK42 => ?_
 refine reg_still mixed zy ?_
 intro w44 E43
 have := E43.size
 have hO3 := hO3.keep0 E43
 have hb := grow_step0 hb E43
 refine st_step rfl (fun _ h9 => zG (zC hN2 rfl s2_0) h9) ?_
 refine st_step rfl (fun _ h9 => zG (zC hN2 rfl s2_3) h9) ?_
 refine st_step rfl (fun _ h9 => zG (zC hN2 rfl s2_8) h9) ?_
 refine st_step rfl (fun _ h9 => op_add (zA hN2 rfl) (zA hN2 rfl) (add64 zx) h9) ?_
 refine st_index_rd slt42 (zA hN2 rfl) hO3.rdw (zA hN2 rfl) zx zx ?_
 intro b45 o46 h0b45 h1b45 hc47
 refine st_step rfl (fun _ h9 => zN (v := (Value.int .u16 (dk[(fi + rt)]!.toNat : Int))) one74 (zA hN2 rfl) (by have := hc47 0 (.int .u16 (dk[(fi + rt)]!.toNat : Int)) zz (el_arr (i := (fi + rt)) zx (by first | omega | (simp only [Array.size_setIfInBounds, swp_sz, siftDown_size]; omega))); simpa using this) h9) ?_
 refine st_step rfl (fun _ h9 => zG (zC hN2 rfl s2_0) h9) ?_
 refine st_step rfl (fun _ h9 => zG (zC hN2 rfl s2_3) h9) ?_
 refine st_step rfl (fun _ h9 => zG (zA hN2 rfl) h9) ?_
 refine st_step rfl (fun _ h9 => op_add (zA hN2 rfl) (zA hN2 rfl) (add64 zx) h9) ?_
 refine st_index_rd slt42 (zA hN2 rfl) hO3.rdw (zA hN2 rfl) zx zx ?_
 intro b48 o49 h0b48 h1b48 hc50
 refine st_step rfl (fun _ h9 => zN (v := (Value.int .u16 (dk[(fi + ((2 * rt) + 1))]!.toNat : Int))) one74 (zA hN2 rfl) (by have := hc50 0 (.int .u16 (dk[(fi + ((2 * rt) + 1))]!.toNat : Int)) zz (el_arr (i := (fi + ((2 * rt) + 1))) zx (by first | omega | (simp only [Array.size_setIfInBounds, swp_sz, siftDown_size]; omega))); simpa using this) h9) ?_
 refine st_fn (vs := [(.int .u16 (dk[(fi + rt)]!.toNat : Int)), (.int .u16 (dk[(fi + ((2 * rt) + 1))]!.toNat : Int))]) ok132 (⟨(zA hN2 rfl), ⟨(zA hN2 rfl), trivial⟩⟩) (Less16_ret dk[(fi + rt)]! dk[(fi + ((2 * rt) + 1))]! _) ?_
 refine st_step rfl (fun _ h9 => op_not (zA hN2 rfl) h9) ?_
 refine st_nil ?_
 refine hK42 _ _ (wp_cond_split (zA hN2 rfl) (fun c52 => ?_) (fun c52 => ?_))
 ·
  refine wp_ret (zO (zb (zO (zb ( ?_)))))
  refine ret0 rfl hd2  ⟨_, rfl, ?_⟩
  have hch : childS hi fi rt dk = 2 * rt + 1 := childS_f (.inl zx)
  exact ⟨hb, rfl, hO3.cast rfl (by rw [hs, siftDown_ret zx (by rw [hch]; simpa [Nat.add_assoc] using c52)])⟩
 refine wp_skip (hK41 _ _ (zF fun K51 hK51 => ?_))
 refine reg_mid (e := 74) (sz := 1) (base := base) (n := n) (v := v) (Φ := phiL [(fun uz _ => uz = v), (fun uz _ => uz = (.int .i64 ((fi : Nat) : Int))), (fun uz _ => uz = (.int .i64 ((rt : Nat) : Int))), (fun uz _ => uz = (.int .i64 (((fi : Nat) : Int) + ((rt : Nat) : Int)))), (fun uz _ => uz = v), (fun uz _ => uz = (.int .i64 ((fi : Nat) : Int))), (fun uz _ => uz = (.int .i64 ((2 * ((rt : Nat) : Int)) + 1))), (fun uz _ => uz = (.int .i64 (((fi : Nat) : Int) + ((2 * ((rt : Nat) : Int)) + 1)))), (fun uz _ => uz = v), (fun uz _ => uz = (.int .i64 ((fi : Nat) : Int))), (fun uz _ => uz = (.int .i64 ((2 * ((rt : Nat) : Int)) + 1))), (fun uz _ => uz = (.int .i64 (((fi : Nat) : Int) + ((2 * ((rt : Nat) : Int)) + 1)))), (fun uz _ => ∃ bz oz, uz = ptr bz oz ∧ AtV v (fi + ((2 * rt) + 1)) bz oz), (fun uz _ => uz = (.int .u16 (dk[(fi + ((2 * rt) + 1))]!.toNat : Int))), (fun uz _ => uz = v), (fun uz _ => uz = (.int .i64 ((fi : Nat) : Int))), (fun uz _ => uz = (.int .i64 ((rt : Nat) : Int))), (fun uz _ => uz = (.int .i64 (((fi : Nat) : Int) + ((rt : Nat) : Int)))), (fun uz _ => ∃ bz oz, uz = ptr bz oz ∧ AtV v (fi + rt) bz oz), (fun uz _ => uz = (.int .u16 (dk[(fi + rt)]!.toNat : Int))), (fun uz _ => ∃ bz oz, uz = ptr bz oz ∧ AtV v (fi + rt) bz oz), (fun _ _ => True), (fun uz _ => ∃ bz oz, uz = ptr bz oz ∧ AtV v (fi + ((2 * rt) + 1)) bz oz), (fun _ _ => True)]) [21, 23] [(dk.toList.map u16v), ((dk.setIfInBounds (fi + rt) dk[(fi + ((2 * rt) + 1))]!).toList.map u16v), (((dk.setIfInBounds (fi + rt) dk[(fi + ((2 * rt) + 1))]!).setIfInBounds (fi + ((2 * rt) + 1)) dk[(fi + rt)]!).toList.map u16v)] mixed zy zy zy zy hN2 hO3 (StL.get (StL.eq (StL.eq (StL.eq (StL.eq (StL.eq (StL.eq (StL.eq (StL.eq (StL.eq (StL.eq (StL.eq (StL.eq (StL.at (StL.eq (StL.eq (StL.eq (StL.eq (StL.eq (StL.at (StL.eq (StL.at (StL.cons (fun _ _ _ _ h => h) (StL.at (StL.cons (fun _ _ _ _ h => h) (StL.nil _)))))))))))))))))))))))))) (ObRs.get (ObRs.cons ?_ (ObRs.cons ?_ (ObRs.cons ?_ (ObRs.cons ?_ (ObRs.cons ?_ (ObRs.cons ?_ (ObRs.cons ?_ (ObRs.cons ?_ (ObRs.cons ?_ (ObRs.cons ?_ (ObRs.cons ?_ (ObRs.cons ?_ (ObRs.cons ?_ (ObRs.cons ?_ (ObRs.cons ?_ (ObRs.cons ?_ (ObRs.cons ?_ (ObRs.cons ?_ (ObRs.cons ?_ (ObRs.cons ?_ (ObRs.cons ?_ (ObRs.pass rfl (ObRs.cons ?_ (ObRs.pass rfl (ObRs.nil)))))))))))))))))))))))))) (ObWs.get (ObWs.cons ?_ (ObWs.cons ?_ (ObWs.nil)))) ?_
 ·
  intro aA wA cA hNA hRA hckA hOA hbsA hdpA
  have qA_0 := (hbsA 0 rfl).trans (zL hN2 rfl s2_0)
  clear hbsA hdpA
  refine zG (zC hNA rfl qA_0) ?_
  exact obR_end rfl rfl (grown_refl _ _)
 ·
  intro aA wA cA hNA hRA hckA hOA hbsA hdpA
  have qA_3 := (hbsA 3 rfl).trans (zL hN2 rfl s2_3)
  clear hbsA hdpA
  refine zG (zC hNA rfl qA_3) ?_
  exact obR_end rfl rfl (grown_refl _ _)
 ·
  intro aA wA cA hNA hRA hckA hOA hbsA hdpA
  have qA_8 := (hbsA 8 rfl).trans (zL hN2 rfl s2_8)
  clear hbsA hdpA
  refine zG (zC hNA rfl qA_8) ?_
  exact obR_end rfl rfl (grown_refl _ _)
 ·
  intro aA wA cA hNA hRA hckA hOA hbsA hdpA
  have qA_54 : Sl aA 54 (.int .i64 ((fi : Nat) : Int)) := hdpA 1 _ 54 zy rfl rfl
  have qA_55 : Sl aA 55 (.int .i64 ((rt : Nat) : Int)) := hdpA 2 _ 55 zy rfl rfl
  clear hbsA hdpA
  refine op_add (zC hNA rfl qA_54) (zC hNA rfl qA_55) (add64 zx) ?_
  exact obR_end rfl rfl (grown_refl _ _)
 ·
  intro aA wA cA hNA hRA hckA hOA hbsA hdpA
  have qA_0 := (hbsA 0 rfl).trans (zL hN2 rfl s2_0)
  clear hbsA hdpA
  refine zG (zC hNA rfl qA_0) ?_
  exact obR_end rfl rfl (grown_refl _ _)
 ·
  intro aA wA cA hNA hRA hckA hOA hbsA hdpA
  have qA_3 := (hbsA 3 rfl).trans (zL hN2 rfl s2_3)
  clear hbsA hdpA
  refine zG (zC hNA rfl qA_3) ?_
  exact obR_end rfl rfl (grown_refl _ _)
 ·
  intro aA wA cA hNA hRA hckA hOA hbsA hdpA
  have qA_9 := (hbsA 9 rfl).trans (zU hN2 rfl)
  clear hbsA hdpA
  refine zG (zC hNA rfl qA_9) ?_
  exact obR_end rfl rfl (grown_refl _ _)
 ·
  intro aA wA cA hNA hRA hckA hOA hbsA hdpA
  have qA_58 : Sl aA 58 (.int .i64 ((fi : Nat) : Int)) := hdpA 5 _ 58 zy rfl rfl
  have qA_59 : Sl aA 59 (.int .i64 ((2 * ((rt : Nat) : Int)) + 1)) := hdpA 6 _ 59 zy rfl rfl
  clear hbsA hdpA
  refine op_add (zC hNA rfl qA_58) (zC hNA rfl qA_59) (add64 zx) ?_
  exact obR_end rfl rfl (grown_refl _ _)
 ·
  intro aA wA cA hNA hRA hckA hOA hbsA hdpA
  have qA_0 := (hbsA 0 rfl).trans (zL hN2 rfl s2_0)
  clear hbsA hdpA
  refine zG (zC hNA rfl qA_0) ?_
  exact obR_end rfl rfl (grown_refl _ _)
 ·
  intro aA wA cA hNA hRA hckA hOA hbsA hdpA
  have qA_3 := (hbsA 3 rfl).trans (zL hN2 rfl s2_3)
  clear hbsA hdpA
  refine zG (zC hNA rfl qA_3) ?_
  exact obR_end rfl rfl (grown_refl _ _)
 ·
  intro aA wA cA hNA hRA hckA hOA hbsA hdpA
  have qA_9 := (hbsA 9 rfl).trans (zU hN2 rfl)
  clear hbsA hdpA
  refine zG (zC hNA rfl qA_9) ?_
  exact obR_end rfl rfl (grown_refl _ _)
 ·
  intro aA wA cA hNA hRA hckA hOA hbsA hdpA
  have qA_62 : Sl aA 62 (.int .i64 ((fi : Nat) : Int)) := hdpA 9 _ 62 zy rfl rfl
  have qA_63 : Sl aA 63 (.int .i64 ((2 * ((rt : Nat) : Int)) + 1)) := hdpA 10 _ 63 zy rfl rfl
  clear hbsA hdpA
  refine op_add (zC hNA rfl qA_62) (zC hNA rfl qA_63) (add64 zx) ?_
  exact obR_end rfl rfl (grown_refl _ _)
 ·
  intro aA wA cA hNA hRA hckA hOA hbsA hdpA
  have qA_61 : Sl aA 61 v := hdpA 8 _ 61 zy rfl rfl
  have qA_64 : Sl aA 64 (.int .i64 (((fi : Nat) : Int) + ((2 * ((rt : Nat) : Int)) + 1))) := hdpA 11 _ 64 zy rfl rfl
  clear hbsA hdpA
  refine op_index_own (i := (fi + ((2 * rt) + 1))) slt42 (zC hNA rfl qA_61) hOA (zC hNA rfl qA_64) zx zx ?_
  intro b_ o_ _ hA_
  exact obR_end rfl ⟨b_, o_, rfl, by simpa using hA_⟩ (grown_refl _ _)
 ·
  intro aA wA cA hNA hRA hckA hOA hbsA hdpA
  obtain ⟨bA_65, oA_65, qA_65, hAA_65⟩ := hdpA 12 _ 65 zy rfl rfl
  clear hbsA hdpA
  obtain rfl : cA = 0 := Nat.le_zero.1 (hckA 0 21 rfl zy)
  have hOA : Own wA base 74 1 v n (dk.toList.map u16v) := hOA
  refine zN (v := (Value.int .u16 (dk[(fi + ((2 * rt) + 1))]!.toNat : Int))) one74 (zC hNA rfl qA_65) (by have := hOA.cellAt hAA_65 0 _ (el_at (i := (fi + ((2 * rt) + 1))) (by first | omega | (simp only [Array.size_setIfInBounds, swp_sz, siftDown_size]; omega))); simpa using this) ?_
  exact obR_end rfl rfl (grown_refl _ _)
 ·
  intro aA wA cA hNA hRA hckA hOA hbsA hdpA
  have qA_0 := (hbsA 0 rfl).trans (zL hN2 rfl s2_0)
  clear hbsA hdpA
  refine zG (zC hNA rfl qA_0) ?_
  exact obR_end rfl rfl (grown_refl _ _)
 ·
  intro aA wA cA hNA hRA hckA hOA hbsA hdpA
  have qA_3 := (hbsA 3 rfl).trans (zL hN2 rfl s2_3)
  clear hbsA hdpA
  refine zG (zC hNA rfl qA_3) ?_
  exact obR_end rfl rfl (grown_refl _ _)
 ·
  intro aA wA cA hNA hRA hckA hOA hbsA hdpA
  have qA_8 := (hbsA 8 rfl).trans (zL hN2 rfl s2_8)
  clear hbsA hdpA
  refine zG (zC hNA rfl qA_8) ?_
  exact obR_end rfl rfl (grown_refl _ _)
 ·
  intro aA wA cA hNA hRA hckA hOA hbsA hdpA
  have qA_68 : Sl aA 68 (.int .i64 ((fi : Nat) : Int)) := hdpA 15 _ 68 zy rfl rfl
  have qA_69 : Sl aA 69 (.int .i64 ((rt : Nat) : Int)) := hdpA 16 _ 69 zy rfl rfl
  clear hbsA hdpA
  refine op_add (zC hNA rfl qA_68) (zC hNA rfl qA_69) (add64 zx) ?_
  exact obR_end rfl rfl (grown_refl _ _)
 ·
  intro aA wA cA hNA hRA hckA hOA hbsA hdpA
  have qA_67 : Sl aA 67 v := hdpA 14 _ 67 zy rfl rfl
  have qA_70 : Sl aA 70 (.int .i64 (((fi : Nat) : Int) + ((rt : Nat) : Int))) := hdpA 17 _ 70 zy rfl rfl
  clear hbsA hdpA
  refine op_index_own (i := (fi + rt)) slt42 (zC hNA rfl qA_67) hOA (zC hNA rfl qA_70) zx zx ?_
  intro b_ o_ _ hA_
  exact obR_end rfl ⟨b_, o_, rfl, by simpa using hA_⟩ (grown_refl _ _)
 ·
  intro aA wA cA hNA hRA hckA hOA hbsA hdpA
  obtain ⟨bA_71, oA_71, qA_71, hAA_71⟩ := hdpA 18 _ 71 zy rfl rfl
  clear hbsA hdpA
  obtain rfl : cA = 0 := Nat.le_zero.1 (hckA 0 21 rfl zy)
  have hOA : Own wA base 74 1 v n (dk.toList.map u16v) := hOA
  refine zN (v := (Value.int .u16 (dk[(fi + rt)]!.toNat : Int))) one74 (zC hNA rfl qA_71) (by have := hOA.cellAt hAA_71 0 _ (el_at (i := (fi + rt)) (by first | omega | (simp only [Array.size_setIfInBounds, swp_sz, siftDown_size]; omega))); simpa using this) ?_
  exact obR_end rfl rfl (grown_refl _ _)
 ·
  intro aA wA cA hNA hRA hckA hOA hbsA hdpA
  have qA_53 : Sl aA 53 v := hdpA 0 _ 53 zy rfl rfl
  have qA_56 : Sl aA 56 (.int .i64 (((fi : Nat) : Int) + ((rt : Nat) : Int))) := hdpA 3 _ 56 zy rfl rfl
  clear hbsA hdpA
  refine op_index_own (i := (fi + rt)) slt42 (zC hNA rfl qA_53) hOA (zC hNA rfl qA_56) zx zx ?_
  intro b_ o_ _ hA_
  exact obR_end rfl ⟨b_, o_, rfl, by simpa using hA_⟩ (grown_refl _ _)
 ·
  intro aA wA cA hNA hRA hckA hOA hbsA hdpA
  have qA_57 : Sl aA 57 v := hdpA 4 _ 57 zy rfl rfl
  have qA_60 : Sl aA 60 (.int .i64 (((fi : Nat) : Int) + ((2 * ((rt : Nat) : Int)) + 1))) := hdpA 7 _ 60 zy rfl rfl
  clear hbsA hdpA
  refine op_index_own (i := (fi + ((2 * rt) + 1))) slt42 (zC hNA rfl qA_57) hOA (zC hNA rfl qA_60) zx zx ?_
  intro b_ o_ _ hA_
  exact obR_end rfl ⟨b_, o_, rfl, by simpa using hA_⟩ (grown_refl _ _)
 ·
  intro o_ ho_; obtain rfl := zE ho_; intro aA wA hNA hRA hbsA hdpA hOA
  obtain ⟨bA_73, oA_73, qA_73, hAA_73⟩ := hdpA 20 _ 73 zy rfl rfl
  have qA_66 : Sl aA 66 (.int .u16 (dk[(fi + ((2 * rt) + 1))]!.toNat : Int)) := hdpA 13 _ 66 zy rfl rfl
  clear hbsA hdpA
  have hOA : Own wA base 74 1 v n (dk.toList.map u16v) := hOA
  refine op_store_own (vs := [(.int .u16 (dk[(fi + ((2 * rt) + 1))]!.toNat : Int))]) size74 (zC hNA rfl qA_73) (zC hNA rfl qA_66) rfl rfl rfl hOA hAA_73 (by have := hOA.1; simp at this ⊢; omega) ?_
  intro w_ hO_ E_
  exact obW_end rfl (hO_.cast rfl (set_arr (by first | omega | (simp only [Array.size_setIfInBounds, swp_sz, siftDown_size]; omega)))) E_
 ·
  intro o_ ho_; obtain rfl := zE ho_; intro aA wA hNA hRA hbsA hdpA hOA
  obtain ⟨bA_74, oA_74, qA_74, hAA_74⟩ := hdpA 22 _ 74 zy rfl rfl
  have qA_72 : Sl aA 72 (.int .u16 (dk[(fi + rt)]!.toNat : Int)) := hdpA 19 _ 72 zy rfl rfl
  clear hbsA hdpA
  have hOA : Own wA base 74 1 v n ((dk.setIfInBounds (fi + rt) dk[(fi + ((2 * rt) + 1))]!).toList.map u16v) := hOA
  refine op_store_own (vs := [(.int .u16 (dk[(fi + rt)]!.toNat : Int))]) size74 (zC hNA rfl qA_74) (zC hNA rfl qA_72) rfl rfl rfl hOA hAA_74 (by have := hOA.1; simp at this ⊢; omega) ?_
  intro w_ hO_ E_
  exact obW_end rfl (hO_.cast rfl (set_arr (by first | omega | (simp only [Array.size_setIfInBounds, swp_sz, siftDown_size]; omega)))) E_
 intro a52 w52 hN52 hd52 hbs52 hph52 hO52 E52
 have hd52 := hd52.trans hd2
 have s52_0 := (hbs52 0 rfl).trans (zL hN2 rfl s2_0)
 have s52_2 := (hbs52 2 rfl).trans (zL hN2 rfl s2_2)
 have s52_3 := (hbs52 3 rfl).trans (zL hN2 rfl s2_3)
 have s52_9 := (hbs52 9 rfl).trans (zU hN2 rfl)
 clear hbs52 hph52
 have hO52 : Own w52 base 74 1 v n (((dk.setIfInBounds (fi + rt) dk[(fi + ((2 * rt) + 1))]!).setIfInBounds (fi + ((2 * rt) + 1)) dk[(fi + rt)]!).toList.map u16v) := hO52
 have := E52.size
 have hb := grow_stepX hb E52 rfl
 refine hK51 _ _ (zH ?_)
 refine zG (zC hN52 rfl s52_9) ?_
 refine zD (zA hN52 rfl) ?_
 refine zB ?_
 refine blk_normal ?_
 -- round 16F 20F 52F
 have hch : childS hi fi rt dk = 2 * rt + 1 := childS_f (.inl zx)
 exact zg _ hN52 hd52 ⟨(2 * rt + 1), _, rfl, (zL hN52 rfl s52_0), (zL hN52 rfl s52_2), (zL hN52 rfl s52_3), (zU hN52 rfl).trans (congrArg (Value.int .i64) zx), (by first | assumption | (simp only [Array.size_setIfInBounds, swp_sz, siftDown_size]; assumption)), zx, (hs.trans ((siftDown_go zx (by rw [hch]; simpa [Nat.add_assoc] using c52)).trans (by rw [hch]; rfl))), hb, zx, hO52⟩ zx
open Go.Sort (insertionSort insOuter insInner swp siftDown heapSort heapBuild heapPop scanUp scanDown partition partLoop partitionEqual partEqLoop scanSorted partialIns bitsLen partialInsertionSort shiftDown shiftUp SortedIn reverseRange reverseLoop fixDown fixUp)
theorem heapW_ret (d : Ar) (v : Value) (n base : Nat) (a b : Nat) (w : World) (hd : d.size = n) (hn : n ≤ 4000000000000000000) (O : Own w base 74 1 v n (d.toList.map u16v)) (hab : a ≤ b) (hbn : b ≤ n) : Ret Try.prog 127 #[v, (.int .i64 ((a : Nat) : Int)), (.int .i64 ((b : Nat) : Int))] w (fun v' w' => w.grownBy w' v.ownBlock ∧ v' = .tuple #[] ∧ Own w' base 74 1 v n ((heapSort ltT d a b).toList.map u16v)) := by
 have hb := grown_refl w v.ownBlock
 refine enter (N := 56) Try.func127 rfl rfl (by simp) fun a0 hN hd hA => ?_
 have s0 : a0.tmps.getD 0 undef = v := hA 0 (by simp)
 have s1 : a0.tmps.getD 1 undef = (.int .i64 ((a : Nat) : Int)) := hA 1 (by simp)
 have s2 : a0.tmps.getD 2 undef = (.int .i64 ((b : Nat) : Int)) := hA 2 (by simp)
 clear hA
 refine zF fun K1 hK1 => ?_
 refine zH ?_
 refine zG (zC hN rfl s1) ?_
 refine zD (zA hN rfl) ?_
 refine zB ?_
 refine hK1 _ _ (zF fun K2 hK2 => ?_)
 refine zH ?_
 refine zD rfl ?_
 refine zB ?_
 refine hK2 _ _ (zF fun K3 hK3 => ?_)
 refine zH ?_
 refine zG (zC hN rfl s2) ?_
 refine zG (zC hN rfl s1) ?_
 refine op_sub (r := ((b - a : Nat) : Int)) (zA hN rfl) (zA hN rfl) (by rw [IntKind.wrap_i64]; omega) ?_
 refine zD (zA hN rfl) ?_
 refine zB ?_
 refine hK3 _ _ (zF fun K4 hK4 => ?_)
 refine zF fun K5 hK5 => ?_
 refine zH ?_
 refine zG (zA hN rfl) ?_
 refine op_sub (zA hN rfl) rfl (sub64 zx) ?_
 refine op_quo (r := (((b - a - 1) / 2 : Nat) : Int)) (zA hN rfl) rfl zz (by rw [tdiv2, IntKind.wrap_i64]; omega) ?_
 refine zD (zA hN rfl) ?_
 refine zB ?_
 refine hK5 _ _ (wp_block ?_)
 refine loop_m (fun mz_ az_ w' => ∃ (k : Nat) (dk : Ar), mz_ = (k + 1) ∧ (az_.tmps.getD 0 undef = v) ∧ (az_.tmps.getD 6 undef = (.int .i64 ((a : Nat) : Int))) ∧ (az_.tmps.getD 7 undef = (.int .i64 0)) ∧ (az_.tmps.getD 8 undef = (.int .i64 ((b - a : Nat) : Int))) ∧ (az_.tmps.getD 9 undef = (.int .i64 (((k : Nat) : Int) - 1))) ∧ (dk.size = n) ∧ (k ≤ (b - a - 1) / 2 + 1) ∧ (heapBuild ltT (b - a) a ((b - a - 1) / 2 + 1) d = heapBuild ltT (b - a) a k dk) ∧ (w.grownBy w' v.ownBlock) ∧ (w.heap.size ≤ w'.heap.size) ∧ (Own w' base 74 1 v n (dk.toList.map u16v))) _ hN hd ⟨((b - a - 1) / 2 + 1), _, rfl, (zL hN rfl s0), (zU hN rfl), (zU hN rfl), (zU hN rfl), (zU hN rfl).trans (congrArg (Value.int .i64) zx), (by first | assumption | (simp only [Array.size_setIfInBounds, swp_sz, siftDown_size]; assumption)), Nat.le_refl _, rfl, hb, (Nat.le_refl _), O⟩ ?_
 rintro _ a6 w6 hN6 hd6 ⟨k, dk, rfl, s6_0, s6_6, s6_7, s6_8, s6_9, hdk, hk, hs, hb, zl_w6, hO7⟩
 have := hb.size
 refine zF fun K8 hK8 => ?_
 refine zF fun K9 hK9 => ?_
 refine zH ?_
 refine zG (zC hN6 rfl s6_9) ?_
 refine op_geq (zA hN6 rfl) rfl (fun c19 => ?_) (fun c19 => ?_)
 ·
  refine zB ?_
  refine hK9 _ _ (wp_cond_true (zA hN6 rfl) (wp_skip (hK8 _ _ (zF fun K10 hK10 => ?_))))
  refine wp_block ?_
  refine zH ?_
  refine zG (zC hN6 rfl s6_0) ?_
  refine zG ((zC hN6 rfl s6_9).trans (congrArg (Value.int .i64) (show _ = ((k - 1 : Nat) : Int) by omega))) ?_
  refine zG (zC hN6 rfl s6_8) ?_
  refine zG (zC hN6 rfl s6_6) ?_
  refine zj ok137 (siftDownW_ret dk _ _ _ (k - 1) (b - a) a _ (by first | assumption | (simp only [Array.size_setIfInBounds, swp_sz, siftDown_size]; assumption)) zx hO7 zx zx) ⟨(zA hN6 rfl), ⟨(zA hN6 rfl), ⟨(zA hN6 rfl), ⟨(zA hN6 rfl), trivial⟩⟩⟩⟩ ?_
  rintro _ w12 ⟨E13, rfl, hO11⟩
  have := E13.size
  have hb := grow_stepX hb E13 rfl
  refine zB ?_
  refine hK10 _ _ (zH ?_)
  refine zG (zC hN6 rfl s6_9) ?_
  refine op_sub (zA hN6 rfl) rfl (sub64 zx) ?_
  refine zD (zA hN6 rfl) ?_
  refine zB ?_
  -- round 19T
  exact zg _ hN6 hd6 ⟨(k - 1), _, rfl, (zL hN6 rfl s6_0), (zL hN6 rfl s6_6), (zL hN6 rfl s6_7), (zL hN6 rfl s6_8), (zU hN6 rfl).trans (congrArg (Value.int .i64) zx), (by first | assumption | (simp only [Array.size_setIfInBounds, swp_sz, siftDown_size]; assumption)), zx, (hs.trans (heapBuild_go' zx)), hb, zx, hO11⟩ zx
 refine zB ?_
 refine hK9 _ _ (wp_cond_false (zA hN6 rfl) (wp_exit (then_exit (then_exit (blk_hit ?_)))))
 refine hK4 _ _ (zF fun K14 hK14 => ?_)
 refine zH ?_
 refine zG (zC hN6 rfl s6_8) ?_
 refine op_sub (zA hN6 rfl) rfl (sub64 zx) ?_
 refine zD (zA hN6 rfl) ?_
 refine zB ?_
 refine hK14 _ _ (wp_block ?_)
 refine loop_m (fun mz_ az_ w' => ∃ (q : Nat) (dj : Ar), mz_ = (q + 1) ∧ (az_.tmps.getD 0 undef = v) ∧ (az_.tmps.getD 6 undef = (.int .i64 ((a : Nat) : Int))) ∧ (az_.tmps.getD 7 undef = (.int .i64 0)) ∧ (az_.tmps.getD 10 undef = (.int .i64 (((q : Nat) : Int) - 1))) ∧ (dj.size = n) ∧ (q ≤ b - a) ∧ (heapPop ltT a (b - a) (heapBuild ltT (b - a) a ((b - a - 1) / 2 + 1) d) = heapPop ltT a q dj) ∧ (w.grownBy w' v.ownBlock) ∧ (w6.heap.size ≤ w'.heap.size) ∧ (Own w' base 74 1 v n (dj.toList.map u16v))) _ hN6 hd6 ⟨(b - a), _, rfl, (zL hN6 rfl s6_0), (zL hN6 rfl s6_6), (zL hN6 rfl s6_7), (zU hN6 rfl).trans (congrArg (Value.int .i64) zx), (by first | assumption | (simp only [Array.size_setIfInBounds, swp_sz, siftDown_size]; assumption)), Nat.le_refl _, (congrArg (heapPop ltT a (b - a)) (hs.trans (by rw [show k = 0 by omega]; rfl))), hb, (Nat.le_refl _), hO7⟩ ?_
 rintro _ a15 w15 hN15 hd15 ⟨q, dj, rfl, s15_0, s15_6, s15_7, s15_10, hdj, hk, hs2, hb, zl_w15, hO16⟩
 have := hb.size
 refine zF fun K17 hK17 => ?_
 refine zF fun K18 hK18 => ?_
 refine zH ?_
 refine zG (zC hN15 rfl s15_10) ?_
 refine op_geq (zA hN15 rfl) rfl (fun c30 => ?_) (fun c30 => ?_)
 ·
  refine zB ?_
  refine hK18 _ _ (wp_cond_true (zA hN15 rfl) (wp_skip (hK17 _ _ (zF fun K19 hK19 => ?_))))
  refine wp_block ?_
  refine zF fun K20 hK20 => ?_
  refine reg_mid (e := 74) (sz := 1) (base := base) (n := n) (v := v) (Φ := phiL [(fun uz _ => uz = v), (fun uz _ => uz = (.int .i64 ((a : Nat) : Int))), (fun uz _ => uz = v), (fun uz _ => uz = (.int .i64 ((a : Nat) : Int))), (fun uz _ => uz = (.int .i64 ((q - 1 : Nat) : Int))), (fun uz _ => uz = (.int .i64 (((a : Nat) : Int) + ((q - 1 : Nat) : Int)))), (fun uz _ => uz = v), (fun uz _ => uz = (.int .i64 ((a : Nat) : Int))), (fun uz _ => uz = (.int .i64 ((q - 1 : Nat) : Int))), (fun uz _ => uz = (.int .i64 (((a : Nat) : Int) + ((q - 1 : Nat) : Int)))), (fun uz _ => ∃ bz oz, uz = ptr bz oz ∧ AtV v (a + (q - 1)) bz oz), (fun uz _ => uz = (.int .u16 (dj[(a + (q - 1))]!.toNat : Int))), (fun uz _ => uz = v), (fun uz _ => uz = (.int .i64 ((a : Nat) : Int))), (fun uz _ => ∃ bz oz, uz = ptr bz oz ∧ AtV v a bz oz), (fun uz _ => uz = (.int .u16 (dj[a]!.toNat : Int))), (fun uz _ => ∃ bz oz, uz = ptr bz oz ∧ AtV v a bz oz), (fun _ _ => True), (fun uz _ => ∃ bz oz, uz = ptr bz oz ∧ AtV v (a + (q - 1)) bz oz), (fun _ _ => True)]) [17, 19] [(dj.toList.map u16v), ((dj.setIfInBounds a dj[(a + (q - 1))]!).toList.map u16v), (((dj.setIfInBounds a dj[(a + (q - 1))]!).setIfInBounds (a + (q - 1)) dj[a]!).toList.map u16v)] mixed zy zy zy zy hN15 hO16 (StL.get (StL.eq (StL.eq (StL.eq (StL.eq (StL.eq (StL.eq (StL.eq (StL.eq (StL.eq (StL.eq (StL.at (StL.eq (StL.eq (StL.eq (StL.at (StL.eq (StL.at (StL.cons (fun _ _ _ _ h => h) (StL.at (StL.cons (fun _ _ _ _ h => h) (StL.nil _)))))))))))))))))))))) (ObRs.get (ObRs.cons ?_ (ObRs.cons ?_ (ObRs.cons ?_ (ObRs.cons ?_ (ObRs.cons ?_ (ObRs.cons ?_ (ObRs.cons ?_ (ObRs.cons ?_ (ObRs.cons ?_ (ObRs.cons ?_ (ObRs.cons ?_ (ObRs.cons ?_ (ObRs.cons ?_ (ObRs.cons ?_ (ObRs.cons ?_ (ObRs.cons ?_ (ObRs.cons ?_ (ObRs.pass rfl (ObRs.cons ?_ (ObRs.pass rfl (ObRs.nil)))))))))))))))))))))) (ObWs.get (ObWs.cons ?_ (ObWs.cons ?_ (ObWs.nil)))) ?_
  ·
   intro aA wA cA hNA hRA hckA hOA hbsA hdpA
   have qA_0 := (hbsA 0 rfl).trans (zL hN15 rfl s15_0)
   clear hbsA hdpA
   refine zG (zC hNA rfl qA_0) ?_
   exact obR_end rfl rfl (grown_refl _ _)
  ·
   intro aA wA cA hNA hRA hckA hOA hbsA hdpA
   have qA_6 := (hbsA 6 rfl).trans (zL hN15 rfl s15_6)
   clear hbsA hdpA
   refine zG (zC hNA rfl qA_6) ?_
   exact obR_end rfl rfl (grown_refl _ _)
  ·
   intro aA wA cA hNA hRA hckA hOA hbsA hdpA
   have qA_0 := (hbsA 0 rfl).trans (zL hN15 rfl s15_0)
   clear hbsA hdpA
   refine zG (zC hNA rfl qA_0) ?_
   exact obR_end rfl rfl (grown_refl _ _)
  ·
   intro aA wA cA hNA hRA hckA hOA hbsA hdpA
   have qA_6 := (hbsA 6 rfl).trans (zL hN15 rfl s15_6)
   clear hbsA hdpA
   refine zG (zC hNA rfl qA_6) ?_
   exact obR_end rfl rfl (grown_refl _ _)
  ·
   intro aA wA cA hNA hRA hckA hOA hbsA hdpA
   have qA_10 := (hbsA 10 rfl).trans (zL hN15 rfl s15_10)
   clear hbsA hdpA
   refine zG ((zC hNA rfl qA_10).trans (congrArg (Value.int .i64) (show _ = ((q - 1 : Nat) : Int) by omega))) ?_
   exact obR_end rfl rfl (grown_refl _ _)
  ·
   intro aA wA cA hNA hRA hckA hOA hbsA hdpA
   have qA_36 : Sl aA 36 (.int .i64 ((a : Nat) : Int)) := hdpA 3 _ 36 zy rfl rfl
   have qA_37 : Sl aA 37 (.int .i64 ((q - 1 : Nat) : Int)) := hdpA 4 _ 37 zy rfl rfl
   clear hbsA hdpA
   refine op_add (zC hNA rfl qA_36) (zC hNA rfl qA_37) (add64 zx) ?_
   exact obR_end rfl rfl (grown_refl _ _)
  ·
   intro aA wA cA hNA hRA hckA hOA hbsA hdpA
   have qA_0 := (hbsA 0 rfl).trans (zL hN15 rfl s15_0)
   clear hbsA hdpA
   refine zG (zC hNA rfl qA_0) ?_
   exact obR_end rfl rfl (grown_refl _ _)
  ·
   intro aA wA cA hNA hRA hckA hOA hbsA hdpA
   have qA_6 := (hbsA 6 rfl).trans (zL hN15 rfl s15_6)
   clear hbsA hdpA
   refine zG (zC hNA rfl qA_6) ?_
   exact obR_end rfl rfl (grown_refl _ _)
  ·
   intro aA wA cA hNA hRA hckA hOA hbsA hdpA
   have qA_10 := (hbsA 10 rfl).trans (zL hN15 rfl s15_10)
   clear hbsA hdpA
   refine zG ((zC hNA rfl qA_10).trans (congrArg (Value.int .i64) (show _ = ((q - 1 : Nat) : Int) by omega))) ?_
   exact obR_end rfl rfl (grown_refl _ _)
  ·
   intro aA wA cA hNA hRA hckA hOA hbsA hdpA
   have qA_40 : Sl aA 40 (.int .i64 ((a : Nat) : Int)) := hdpA 7 _ 40 zy rfl rfl
   have qA_41 : Sl aA 41 (.int .i64 ((q - 1 : Nat) : Int)) := hdpA 8 _ 41 zy rfl rfl
   clear hbsA hdpA
   refine op_add (zC hNA rfl qA_40) (zC hNA rfl qA_41) (add64 zx) ?_
   exact obR_end rfl rfl (grown_refl _ _)
  ·
   intro aA wA cA hNA hRA hckA hOA hbsA hdpA
   have qA_39 : Sl aA 39 v := hdpA 6 _ 39 zy rfl rfl
   have qA_42 : Sl aA 42 (.int .i64 (((a : Nat) : Int) + ((q - 1 : Nat) : Int))) := hdpA 9 _ 42 zy rfl rfl
   clear hbsA hdpA
   refine op_index_own (i := (a + (q - 1))) slt42 (zC hNA rfl qA_39) hOA (zC hNA rfl qA_42) zx zx ?_
   intro b_ o_ _ hA_
   exact obR_end rfl ⟨b_, o_, rfl, by simpa using hA_⟩ (grown_refl _ _)
  ·
   intro aA wA cA hNA hRA hckA hOA hbsA hdpA
   obtain ⟨bA_43, oA_43, qA_43, hAA_43⟩ := hdpA 10 _ 43 zy rfl rfl
   clear hbsA hdpA
   obtain rfl : cA = 0 := Nat.le_zero.1 (hckA 0 17 rfl zy)
   have hOA : Own wA base 74 1 v n (dj.toList.map u16v) := hOA
   refine zN (v := (Value.int .u16 (dj[(a + (q - 1))]!.toNat : Int))) one74 (zC hNA rfl qA_43) (by have := hOA.cellAt hAA_43 0 _ (el_at (i := (a + (q - 1))) (by first | omega | (simp only [Array.size_setIfInBounds, swp_sz, siftDown_size]; omega))); simpa using this) ?_
   exact obR_end rfl rfl (grown_refl _ _)
  ·
   intro aA wA cA hNA hRA hckA hOA hbsA hdpA
   have qA_0 := (hbsA 0 rfl).trans (zL hN15 rfl s15_0)
   clear hbsA hdpA
   refine zG (zC hNA rfl qA_0) ?_
   exact obR_end rfl rfl (grown_refl _ _)
  ·
   intro aA wA cA hNA hRA hckA hOA hbsA hdpA
   have qA_6 := (hbsA 6 rfl).trans (zL hN15 rfl s15_6)
   clear hbsA hdpA
   refine zG (zC hNA rfl qA_6) ?_
   exact obR_end rfl rfl (grown_refl _ _)
  ·
   intro aA wA cA hNA hRA hckA hOA hbsA hdpA
   have qA_45 : Sl aA 45 v := hdpA 12 _ 45 zy rfl rfl
   have qA_46 : Sl aA 46 (.int .i64 ((a : Nat) : Int)) := hdpA 13 _ 46 zy rfl rfl
   clear hbsA hdpA
   refine op_index_own (i := a) slt42 (zC hNA rfl qA_45) hOA (zC hNA rfl qA_46) zx zx ?_
   intro b_ o_ _ hA_
   exact obR_end rfl ⟨b_, o_, rfl, by simpa using hA_⟩ (grown_refl _ _)
  ·
   intro aA wA cA hNA hRA hckA hOA hbsA hdpA
   obtain ⟨bA_47, oA_47, qA_47, hAA_47⟩ := hdpA 14 _ 47 zy rfl rfl
   clear hbsA hdpA
   obtain rfl : cA = 0 := Nat.le_zero.1 (hckA 0 17 rfl zy)
   have hOA : Own wA base 74 1 v n (dj.toList.map u16v) := hOA
   refine zN (v := (Value.int .u16 (dj[a]!.toNat : Int))) one74 (zC hNA rfl qA_47) (by have := hOA.cellAt hAA_47 0 _ (el_at (i := a) (by first | omega | (simp only [Array.size_setIfInBounds, swp_sz, siftDown_size]; omega))); simpa using this) ?_
   exact obR_end rfl rfl (grown_refl _ _)
  ·
   intro aA wA cA hNA hRA hckA hOA hbsA hdpA
   have qA_33 : Sl aA 33 v := hdpA 0 _ 33 zy rfl rfl
   have qA_34 : Sl aA 34 (.int .i64 ((a : Nat) : Int)) := hdpA 1 _ 34 zy rfl rfl
   clear hbsA hdpA
   refine op_index_own (i := a) slt42 (zC hNA rfl qA_33) hOA (zC hNA rfl qA_34) zx zx ?_
   intro b_ o_ _ hA_
   exact obR_end rfl ⟨b_, o_, rfl, by simpa using hA_⟩ (grown_refl _ _)
  ·
   intro aA wA cA hNA hRA hckA hOA hbsA hdpA
   have qA_35 : Sl aA 35 v := hdpA 2 _ 35 zy rfl rfl
   have qA_38 : Sl aA 38 (.int .i64 (((a : Nat) : Int) + ((q - 1 : Nat) : Int))) := hdpA 5 _ 38 zy rfl rfl
   clear hbsA hdpA
   refine op_index_own (i := (a + (q - 1))) slt42 (zC hNA rfl qA_35) hOA (zC hNA rfl qA_38) zx zx ?_
   intro b_ o_ _ hA_
   exact obR_end rfl ⟨b_, o_, rfl, by simpa using hA_⟩ (grown_refl _ _)
  ·
   intro o_ ho_; obtain rfl := zE ho_; intro aA wA hNA hRA hbsA hdpA hOA
   obtain ⟨bA_49, oA_49, qA_49, hAA_49⟩ := hdpA 16 _ 49 zy rfl rfl
   have qA_44 : Sl aA 44 (.int .u16 (dj[(a + (q - 1))]!.toNat : Int)) := hdpA 11 _ 44 zy rfl rfl
   clear hbsA hdpA
   have hOA : Own wA base 74 1 v n (dj.toList.map u16v) := hOA
   refine op_store_own (vs := [(.int .u16 (dj[(a + (q - 1))]!.toNat : Int))]) size74 (zC hNA rfl qA_49) (zC hNA rfl qA_44) rfl rfl rfl hOA hAA_49 (by have := hOA.1; simp at this ⊢; omega) ?_
   intro w_ hO_ E_
   exact obW_end rfl (hO_.cast rfl (set_arr (by first | omega | (simp only [Array.size_setIfInBounds, swp_sz, siftDown_size]; omega)))) E_
  ·
   intro o_ ho_; obtain rfl := zE ho_; intro aA wA hNA hRA hbsA hdpA hOA
   obtain ⟨bA_50, oA_50, qA_50, hAA_50⟩ := hdpA 18 _ 50 zy rfl rfl
   have qA_48 : Sl aA 48 (.int .u16 (dj[a]!.toNat : Int)) := hdpA 15 _ 48 zy rfl rfl
   clear hbsA hdpA
   have hOA : Own wA base 74 1 v n ((dj.setIfInBounds a dj[(a + (q - 1))]!).toList.map u16v) := hOA
   refine op_store_own (vs := [(.int .u16 (dj[a]!.toNat : Int))]) size74 (zC hNA rfl qA_50) (zC hNA rfl qA_48) rfl rfl rfl hOA hAA_50 (by have := hOA.1; simp at this ⊢; omega) ?_
   intro w_ hO_ E_
   exact obW_end rfl (hO_.cast rfl (set_arr (by first | omega | (simp only [Array.size_setIfInBounds, swp_sz, siftDown_size]; omega)))) E_
  intro a21 w21 hN21 hd21 hbs21 hph21 hO21 E21
  have hd21 := hd21.trans hd15
  have s21_0 := (hbs21 0 rfl).trans (zL hN15 rfl s15_0)
  have s21_6 := (hbs21 6 rfl).trans (zL hN15 rfl s15_6)
  have s21_7 := (hbs21 7 rfl).trans (zL hN15 rfl s15_7)
  have s21_10 := (hbs21 10 rfl).trans (zL hN15 rfl s15_10)
  clear hbs21 hph21
  have hO21 : Own w21 base 74 1 v n (((dj.setIfInBounds a dj[(a + (q - 1))]!).setIfInBounds (a + (q - 1)) dj[a]!).toList.map u16v) := hO21
  have := E21.size
  have hb := grow_stepX hb E21 rfl
  refine hK20 _ _ (zH ?_)
  refine zG (zC hN21 rfl s21_0) ?_
  refine zG (zC hN21 rfl s21_7) ?_
  refine zG ((zC hN21 rfl s21_10).trans (congrArg (Value.int .i64) (show _ = ((q - 1 : Nat) : Int) by omega))) ?_
  refine zG (zC hN21 rfl s21_6) ?_
  refine zj ok137 (siftDownW_ret ((dj.setIfInBounds a dj[(a + (q - 1))]!).setIfInBounds (a + (q - 1)) dj[a]!) _ _ _ 0 (q - 1) a _ (by first | assumption | (simp only [Array.size_setIfInBounds, swp_sz, siftDown_size]; assumption)) zx hO21 zx zx) ⟨(zA hN21 rfl), ⟨(zA hN21 rfl), ⟨(zA hN21 rfl), ⟨(zA hN21 rfl), trivial⟩⟩⟩⟩ ?_
  rintro _ w23 ⟨E24, rfl, hO22⟩
  have := E24.size
  have hb := grow_stepX hb E24 rfl
  refine zB ?_
  refine hK19 _ _ (zH ?_)
  refine zG (zC hN21 rfl s21_10) ?_
  refine op_sub (zA hN21 rfl) rfl (sub64 zx) ?_
  refine zD (zA hN21 rfl) ?_
  refine zB ?_
  -- round 19F 30T
  exact zg _ hN21 hd21 ⟨(q - 1), _, rfl, (zL hN21 rfl s21_0), (zL hN21 rfl s21_6), (zL hN21 rfl s21_7), (zU hN21 rfl).trans (congrArg (Value.int .i64) zx), (by first | assumption | (simp only [Array.size_setIfInBounds, swp_sz, siftDown_size]; assumption)), zx, (hs2.trans (heapPop_go' zx)), hb, zx, hO22⟩ zx
 refine zB ?_
 refine hK18 _ _ (wp_cond_false (zA hN15 rfl) (wp_exit (then_exit (then_exit (blk_hit ?_)))))
 refine end_ret ?_
 refine ret0 rfl hd15  ⟨_, rfl, ?_⟩
 exact ⟨hb, rfl, hO16.cast rfl (by rw [show heapSort ltT d a b = heapPop ltT a (b - a) (heapBuild ltT (b - a) a ((b - a - 1) / 2 + 1) d) from rfl, hs2, show q = 0 by omega]; rfl)⟩

end Go.Proofs.Ythflnkfghogaoaa
