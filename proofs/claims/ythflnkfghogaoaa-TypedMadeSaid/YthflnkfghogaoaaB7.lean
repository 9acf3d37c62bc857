/- Walks, written by a program: what each function of the translation hands back. -/
import Derived.Test.YthflnkfghogaoaaProg
import Derived.KernelRfl
import Derived.Test.YthflnkfghogaoaaB6
set_option linter.unusedVariables false
set_option linter.unusedSimpArgs false

namespace Go.Proofs.Ythflnkfghogaoaa
open Go.Gx Go.RowKit
attribute [local irreducible] wpList wpStill Code.wp Calls

set_option maxHeartbeats 8000000 in
theorem Data_ret {base p n Bp : Nat} {lv : Value} {bl : List UInt8} {w : World} (hpk : PickR w base p lv bl n (fun k => k = p)) (hBp : Bp ≤ p) (hbl : RdC w 0 Bp 1 lv bl.length (bl.map u8v)) : Ret Try.prog 39 #[(ptr p 0)] w (fun v' w' => Gr w w' (fun k => k = p) ∧ ∃ s : XS, v' = (.agg #[(.int .i64 s.f.kind), (.string (bs s.f.tb)), (.string (bs s.f.nm)), s.f.cv, s.f.gv, s.f.vv, s.f.iv, (.string (bs s.f.join)), s.f.ov, s.f.wv, s.f.rv, (.bool s.f.desc), s.nv]) ∧ SFr w' w.heap.size w'.heap.size s ∧ ∃ n' : Nat, PickR w' base p lv bl n' (fun k => k = p) ∧ n ≤ n' ∧ (n < bl.length → n < n')) := by
 have hi_p : p < w.heap.size := (hpk.lt p rfl).2
 have hEx9 := Expr_all
 have hb := Gr.refl w (fun k => k = p)
 refine enter (N := 97) Try.func39 rfl rfl (by simp) fun a0 hN hd hA => ?_
 have s0 : a0.tmps.getD 0 undef = (ptr p 0) := hA 0 (by simp)
 clear hA
 refine zF fun K1 hK1 => ?_
 refine zH ?_
 refine op_alloc (cs := [(.int .i64 0), (.string (bs [])), (.string (bs [])), (.slice none 0 0), (.slice none 0 0), (.slice none 0 0), (.slice none 0 0), (.string (bs [])), (.slice none 0 0), (.slice none 0 0), (.slice none 0 0), (.bool false), (.slice none 0 0)]) zero45 rfl ?_
 intro w2 b3 lo_b3 hi_b3 hB5 E4
 have dj6 : ¬ (fun k => k = p) b3 := fun hf => by have := (hpk.lt _ hf).2; omega
 have := E4.size
 have hpk := hpk.keepG (zi E4 NoB) (fun _ _ h => h)
 have hbl := hbl.keep0 E4
 have hb := hb.step0 E4
 refine zB ?_
 refine hK1 _ _ (zF fun K7 hK7 => ?_)
 refine zH ?_
 refine zj ok16 (SchemaL_ret _) trivial ?_
 rintro _ w9 ⟨E10, tv8, D8, rfl, hM8, hT8⟩
 have E10 := zQ E10
 have := E10.size
 have hpk := hpk.keepG (zi E10 NoB) (fun _ _ h => h)
 have hbl := hbl.keep0 E10
 have hB5 := hB5.keep0 E10
 have hb := hb.step0 E10
 have hR8 := hT8.1
 obtain ⟨hl28, hl38⟩ := sch_3 hM8
 refine op_alloc (cs := [(.slice none 0 0), (.slice none 0 0)]) zero39 rfl ?_
 intro w11 b12 lo_b12 hi_b12 hB14 E13
 have dj15 : ¬ (fun k => k = p) b12 := fun hf => by have := (hpk.lt _ hf).2; omega
 have := E13.size
 have hpk := hpk.keepG (zi E13 NoB) (fun _ _ h => h)
 have hbl := hbl.keep0 E13
 have hB5 := hB5.keep0 E13
 have hR8 := hR8.keep0 E13
 have hT8 := hT8.keep0 E13
 have hb := hb.step0 E13
 have hB14_old := hB14
 refine zZ size39 (zA hN rfl) (zA hN rfl) rfl (by simp only [List.all_cons, List.all_nil, Bool.true_and, Bool.and_true, hR8.one]; try rfl) hB14 rfl ?_
 intro w18 hB14 E19
 have := E19.size
 have hpk := hpk.keepG (Gr.of E19) (Dj.one dj15)
 have hbl := hbl.keep E19 sR
 have hB5 := hB5.keep E19 (sN hB5 hB14_old)
 have hR8 := hR8.keep E19 sO
 have hT8 := hT8.keep E19 sO
 have hb := hb.step1 E19 zx
 refine zB ?_
 refine hK7 _ _ ?_
 refine seq_join1 (N := 97) (fun az_ w' => ∃ (b4 r9 n9 : Nat), (az_.tmps.getD 0 undef = (ptr p 0)) ∧ (az_.tmps.getD 2 undef = (ptr b3 0)) ∧ (az_.tmps.getD 3 undef = (ptr b12 0)) ∧ (az_.tmps.getD 4 undef = (ptr b4 0)) ∧ (r9 < D8.length) ∧ (n ≤ n9 ∧ (n < bl.length → n < n9)) ∧ (b4 < w'.heap.size) ∧ (w.heap.size ≤ b4) ∧ (Gr w w' (fun k => k = p)) ∧ (w18.heap.size ≤ w'.heap.size) ∧ (RdC w' 0 Bp 1 lv bl.length (bl.map u8v)) ∧ (Bx w' b3 45 [(.int .i64 0), (.string (bs [])), (.string (bs [])), (.slice none 0 0), (.slice none 0 0), (.slice none 0 0), (.slice none 0 0), (.string (bs [])), (.slice none 0 0), (.slice none 0 0), (.slice none 0 0), (.bool false), (.slice none 0 0)]) ∧ (RdC w' w2.heap.size w9.heap.size 3 tv8 D8.length (D8.flatMap cellsT)) ∧ (TsFr w' w2.heap.size w9.heap.size tv8 D8) ∧ (Bx w' b12 39 [tv8, (.slice none 0 0)]) ∧ (Bx w' b4 55 [(.string (bs (D8.getD r9 default).t.nm)), (D8.getD r9 default).cv, (D8.getD r9 default).iv]) ∧ (PickR w' base p lv bl n9 (fun k => k = p))) (fun hJ20 => ?_) ?_
 ·
  refine zF fun K21 hK21 => ?_
  refine reg_split (hd := [_, _, _, _, _, _, _]) (tl := _) 7 mixed zy rfl rfl ?_
  refine any_tree (φ := phiV [(fun uz => uz = (ptr b12 0)), (fun uz => uz = tv8), (fun uz => uz = (ptr p 0)), (fun _ => True), (fun _ => True), (fun _ => True), (fun _ => True)]) (G := fun w' => Bx w' b12 39 [tv8, (.slice none 0 0)]) [3, 4, 5, 6] zy zy zy zy zy hN (fun w1 w2 E h => h.keep0 E) hB14 (ObRs9.cons ?_ (ObRs9.cons ?_ (ObRs9.cons ?_ (ObRs9.pass rfl (ObRs9.pass rfl (ObRs9.pass rfl (ObRs9.pass rfl (ObRs9.nil)))))))) (by simp only [putsL_defers]) ?_
  ·
   intro eA aA wA hNA hGA hbsA hdpA
   have qA_3 := (hbsA 3 rfl).trans (zU hN rfl)
   refine zM fld39_0 (zC hNA rfl qA_3) ?_
   exact obT_end rfl rfl
  ·
   intro eA aA wA hNA hGA hbsA hdpA
   have qA_11 : Sl aA 11 (ptr b12 0) := (hdpA 0 _ 11 zy rfl rfl).2 rfl
   refine zN (v := tv8) one36 (zC hNA rfl qA_11) (hGA.cell rfl) ?_
   exact obT_end rfl rfl
  ·
   intro eA aA wA hNA hGA hbsA hdpA
   have qA_0 := (hbsA 0 rfl).trans (zL hN rfl s0)
   refine zG (zC hNA rfl qA_0) ?_
   exact obT_end rfl rfl
  refine kt_step (rs := [3, 6]) zy ?_
  refine more_mem ?_ ?_
  ·
   intro w23 E23 _ a23 hN23 hbs23 hdp23 o_ ho_; obtain rfl := zE ho_
   have := E23.size
   have hpk := hpk.keepG (zi E23 NoB) (fun _ _ h => h)
   have hbl := hbl.keep0 E23
   have hR8 := hR8.keep0 E23
   have hT8 := hT8.keep0 E23
   obtain ⟨hB5, hB14⟩ := kb2 E23 hB5 hB14
   have hb := hb.step0 E23
   have q23_13 : Sl a23 13 (ptr p 0) := (hdp23 2 _ 13 zy rfl rfl).2 rfl
   refine zj ok35 (Num_ret (m := 2) hpk zx hbl zx zx) ⟨(zC hN23 rfl q23_13), ⟨rfl, trivial⟩⟩ ?_
   rintro _ w25 ⟨E26, r24, rfl, hr24, n24, hk24, hn24, hn24x⟩
   have hpk_old := hpk
   have := E26.size
   have hbl := hbl.keepG E26 (fun k hk => .inr (by have := hpk_old.lt k hk; omega))
   have hB5 := hB5.keepG E26 dj6
   have hR8 := hR8.keepG E26 sP
   have hT8 := hT8.keepG E26 sP
   have hB14 := hB14.keepG E26 dj15
   have hb := hb.stepF E26 (fun _ _ h => h)
   refine kt_end rfl hB14 ?_
   refine kt_step (rs := [4, 6]) zy ?_
   refine more_mem ?_ ?_
   ·
    intro w28 E28 _ a28 hN28 hbs28 hdp28 o_ ho_; obtain rfl := zE ho_
    have := E28.size
    have hbl := hbl.keep0 E28
    have hR8 := hR8.keep0 E28
    have hT8 := hT8.keep0 E28
    obtain ⟨hB5, hB14⟩ := kb2 E28 hB5 hB14
    have hk24 := hk24.keepG (zi E28 NoB) (fun _ _ h => h)
    have hb := hb.step0 E28
    have q28_12 : Sl a28 12 tv8 := (hdp28 1 _ 12 zy rfl rfl).2 rfl
    have q28_14 : Sl a28 14 (.int .i64 ((r24 : Nat) : Int)) := (zE ((hdp28 3 _ 14 zy rfl rfl).1 rfl)).symm
    refine zh slt36 (zC hN28 rfl q28_12) hR8 (zC hN28 rfl q28_14) zx zx ?_
    intro b29 o30 h0b29 h1b29 hc31
    have hp32 : PtC w28 w2.heap.size w9.heap.size b29 o30 [(.string (bs (D8.getD r24 default).t.nm)), (D8.getD r24 default).cv, (D8.getD r24 default).iv] := ⟨by omega, by omega, fun j u hu => hc31 j u (by have := (List.getElem?_eq_some_iff.1 hu).1; simpa using this) ((el_dt (i := r24) zx zx) j u hu)⟩
    refine kt_end rfl hB14 ?_
    refine kt_step (rs := [5, 6]) zy ?_
    refine more_mem ?_ ?_
    ·
     intro w34 E34 _ a34 hN34 hbs34 hdp34 o_ ho_; obtain rfl := zE ho_
     have := E34.size
     have hbl := hbl.keep0 E34
     have hR8 := hR8.keep0 E34
     have hT8 := hT8.keep0 E34
     obtain ⟨hB5, hB14⟩ := kb2 E34 hB5 hB14
     have hk24 := hk24.keepG (zi E34 NoB) (fun _ _ h => h)
     have hp32 := hp32.keep0 E34
     have hb := hb.step0 E34
     have q34_15 : Sl a34 15 (ptr b29 o30) := (zE ((hdp34 4 _ 15 zy rfl rfl).1 rfl)).symm
     refine zX (cs := [(.string (bs (D8.getD r24 default).t.nm)), (D8.getD r24 default).cv, (D8.getD r24 default).iv]) agg55 rfl (zC hN34 rfl q34_15) (fun j u hu => hp32.2.2 j u hu) ?_
     refine kt_end rfl hB14 ?_
     refine kt_step (rs := [6]) zy ?_
     refine one_mem ?_
     intro w36 E36 _ a36 hN36 hbs36 hdp36 o_ ho_; obtain rfl := zE ho_
     have := E36.size
     have hbl := hbl.keep0 E36
     have hR8 := hR8.keep0 E36
     have hT8 := hT8.keep0 E36
     obtain ⟨hB5, hB14⟩ := kb2 E36 hB5 hB14
     have hk24 := hk24.keepG (zi E36 NoB) (fun _ _ h => h)
     have hb := hb.step0 E36
     refine op_alloc (cs := [(.string (bs [])), (.slice none 0 0), (.slice none 0 0)]) zero55 rfl ?_
     intro w37 b38 lo_b38 hi_b38 hB40 E39
     have dj41 : ¬ (fun k => k = p) b38 := fun hf => by have := (hk24.lt _ hf).2; omega
     have := E39.size
     have hbl := hbl.keep0 E39
     have hR8 := hR8.keep0 E39
     have hT8 := hT8.keep0 E39
     obtain ⟨hB5, hB14⟩ := kb2 E39 hB5 hB14
     have hk24 := hk24.keepG (zi E39 NoB) (fun _ _ h => h)
     have hb := hb.step0 E39
     refine kt_end rfl hB14 ?_
     intro w42 E42 a42 hN42 hd42 hbs42 hph42
     have hd42 := hd42.trans ((by simp only [putsL_defers] : _ = _).trans hd)
     have := E42.size
     have hbl := hbl.keep0 E42
     have hR8 := hR8.keep0 E42
     have hT8 := hT8.keep0 E42
     obtain ⟨hB5, hB14⟩ := kb2 E42 hB5 hB14
     have hk24 := hk24.keepG (zi E42 NoB) (fun _ _ h => h)
     have hB40 := hB40.keep0 E42
     have hb := hb.step0 E42
     have s42_0 := (hbs42 0 rfl).trans (zL hN rfl s0)
     have s42_2 := (hbs42 2 rfl).trans (zU hN rfl)
     have s42_3 := (hbs42 3 rfl).trans (zU hN rfl)
     have s42_4 : Sl a42 4 (ptr b38 0) := (zE ((hph42 6 _ 4 rfl rfl).1 rfl)).symm
     have s42_16 : Sl a42 16 (.agg #[(.string (bs (D8.getD r24 default).t.nm)), (D8.getD r24 default).cv, (D8.getD r24 default).iv]) := (zE ((hph42 5 _ 16 rfl rfl).1 rfl)).symm
     refine split_end ?_
     refine from_seq (tl := [_]) zz zy rfl ?_
     have hB40_old := hB40
     refine zZ size55 (zC hN42 rfl s42_4) (zC hN42 rfl s42_16) rfl (by simp only [List.all_cons, List.all_nil, Bool.true_and, Bool.and_true, (hT8.2 (D8.getD r24 default) (getD_mem zx)).1.one, (hT8.2 (D8.getD r24 default) (getD_mem zx)).2.one]; try rfl) hB40 rfl ?_
     intro w45 hB40 E46
     have := E46.size
     have hbl := hbl.keep E46 sR
     have hB5 := hB5.keep E46 (sN hB5 hB40_old)
     have hR8 := hR8.keep E46 sO
     have hT8 := hT8.keep E46 sO
     have hB14 := hB14.keep E46 (sN hB14 hB40_old)
     have hk24 := hk24.keepG (Gr.of E46) (Dj.one dj41)
     have hb := hb.step1 E46 zx
     refine zB ?_
     refine hK21 _ _ ?_
     exact hJ20 _ _ _ hN42 hd42 ⟨b38, r24, n24, (zL hN42 rfl s42_0), (zL hN42 rfl s42_2), (zL hN42 rfl s42_3), (zL hN42 rfl s42_4), zx, zx, hB40.lt, zx, hb, zx, hbl, hB5, hR8, hT8, hB14, hB40, hk24⟩
    refine one_mem ?_
    intro w47 E47 _ a47 hN47 hbs47 hdp47 o_ ho_; obtain rfl := zE ho_
    have := E47.size
    have hbl := hbl.keep0 E47
    have hR8 := hR8.keep0 E47
    have hT8 := hT8.keep0 E47
    obtain ⟨hB5, hB14⟩ := kb2 E47 hB5 hB14
    have hk24 := hk24.keepG (zi E47 NoB) (fun _ _ h => h)
    have hp32 := hp32.keep0 E47
    have hb := hb.step0 E47
    refine op_alloc (cs := [(.string (bs [])), (.slice none 0 0), (.slice none 0 0)]) zero55 rfl ?_
    intro w48 b49 lo_b49 hi_b49 hB51 E50
    have dj52 : ¬ (fun k => k = p) b49 := fun hf => by have := (hk24.lt _ hf).2; omega
    have := E50.size
    have hbl := hbl.keep0 E50
    have hR8 := hR8.keep0 E50
    have hT8 := hT8.keep0 E50
    obtain ⟨hB5, hB14⟩ := kb2 E50 hB5 hB14
    have hk24 := hk24.keepG (zi E50 NoB) (fun _ _ h => h)
    have hp32 := hp32.keep0 E50
    have hb := hb.step0 E50
    refine kt_end rfl hB14 ?_
    refine kt_step (rs := [5]) zy ?_
    refine one_mem ?_
    intro w54 E54 _ a54 hN54 hbs54 hdp54 o_ ho_; obtain rfl := zE ho_
    have := E54.size
    have hbl := hbl.keep0 E54
    have hR8 := hR8.keep0 E54
    have hT8 := hT8.keep0 E54
    obtain ⟨hB5, hB14⟩ := kb2 E54 hB5 hB14
    have hk24 := hk24.keepG (zi E54 NoB) (fun _ _ h => h)
    have hp32 := hp32.keep0 E54
    have hB51 := hB51.keep0 E54
    have hb := hb.step0 E54
    have q54_15 : Sl a54 15 (ptr b29 o30) := (zE ((hdp54 4 _ 15 zy rfl rfl).1 rfl)).symm
    refine zX (cs := [(.string (bs (D8.getD r24 default).t.nm)), (D8.getD r24 default).cv, (D8.getD r24 default).iv]) agg55 rfl (zC hN54 rfl q54_15) (fun j u hu => hp32.2.2 j u hu) ?_
    refine kt_end rfl hB14 ?_
    intro w55 E55 a55 hN55 hd55 hbs55 hph55
    have hd55 := hd55.trans ((by simp only [putsL_defers] : _ = _).trans hd)
    have := E55.size
    have hbl := hbl.keep0 E55
    have hR8 := hR8.keep0 E55
    have hT8 := hT8.keep0 E55
    obtain ⟨hB5, hB14⟩ := kb2 E55 hB5 hB14
    have hk24 := hk24.keepG (zi E55 NoB) (fun _ _ h => h)
    have hB51 := hB51.keep0 E55
    have hb := hb.step0 E55
    have s55_0 := (hbs55 0 rfl).trans (zL hN rfl s0)
    have s55_2 := (hbs55 2 rfl).trans (zU hN rfl)
    have s55_3 := (hbs55 3 rfl).trans (zU hN rfl)
    have s55_4 : Sl a55 4 (ptr b49 0) := (zE ((hph55 6 _ 4 rfl rfl).1 rfl)).symm
    have s55_16 : Sl a55 16 (.agg #[(.string (bs (D8.getD r24 default).t.nm)), (D8.getD r24 default).cv, (D8.getD r24 default).iv]) := (zE ((hph55 5 _ 16 rfl rfl).1 rfl)).symm
    refine split_end ?_
    refine from_seq (tl := [_]) zz zy rfl ?_
    have hB51_old := hB51
    refine zZ size55 (zC hN55 rfl s55_4) (zC hN55 rfl s55_16) rfl (by simp only [List.all_cons, List.all_nil, Bool.true_and, Bool.and_true, (hT8.2 (D8.getD r24 default) (getD_mem zx)).1.one, (hT8.2 (D8.getD r24 default) (getD_mem zx)).2.one]; try rfl) hB51 rfl ?_
    intro w58 hB51 E59
    have := E59.size
    have hbl := hbl.keep E59 sR
    have hB5 := hB5.keep E59 (sN hB5 hB51_old)
    have hR8 := hR8.keep E59 sO
    have hT8 := hT8.keep E59 sO
    have hB14 := hB14.keep E59 (sN hB14 hB51_old)
    have hk24 := hk24.keepG (Gr.of E59) (Dj.one dj52)
    have hb := hb.step1 E59 zx
    refine zB ?_
    refine hK21 _ _ ?_
    exact hJ20 _ _ _ hN55 hd55 ⟨b49, r24, n24, (zL hN55 rfl s55_0), (zL hN55 rfl s55_2), (zL hN55 rfl s55_3), (zL hN55 rfl s55_4), zx, zx, hB51.lt, zx, hb, zx, hbl, hB5, hR8, hT8, hB14, hB51, hk24⟩
   refine one_mem ?_
   intro w60 E60 _ a60 hN60 hbs60 hdp60 o_ ho_; obtain rfl := zE ho_
   have := E60.size
   have hbl := hbl.keep0 E60
   have hR8 := hR8.keep0 E60
   have hT8 := hT8.keep0 E60
   obtain ⟨hB5, hB14⟩ := kb2 E60 hB5 hB14
   have hk24 := hk24.keepG (zi E60 NoB) (fun _ _ h => h)
   have hb := hb.step0 E60
   refine op_alloc (cs := [(.string (bs [])), (.slice none 0 0), (.slice none 0 0)]) zero55 rfl ?_
   intro w61 b62 lo_b62 hi_b62 hB64 E63
   have dj65 : ¬ (fun k => k = p) b62 := fun hf => by have := (hk24.lt _ hf).2; omega
   have := E63.size
   have hbl := hbl.keep0 E63
   have hR8 := hR8.keep0 E63
   have hT8 := hT8.keep0 E63
   obtain ⟨hB5, hB14⟩ := kb2 E63 hB5 hB14
   have hk24 := hk24.keepG (zi E63 NoB) (fun _ _ h => h)
   have hb := hb.step0 E63
   refine kt_end rfl hB14 ?_
   refine kt_step (rs := [4]) zy ?_
   refine one_mem ?_
   intro w67 E67 _ a67 hN67 hbs67 hdp67 o_ ho_; obtain rfl := zE ho_
   have := E67.size
   have hbl := hbl.keep0 E67
   have hR8 := hR8.keep0 E67
   have hT8 := hT8.keep0 E67
   obtain ⟨hB5, hB14⟩ := kb2 E67 hB5 hB14
   have hk24 := hk24.keepG (zi E67 NoB) (fun _ _ h => h)
   have hB64 := hB64.keep0 E67
   have hb := hb.step0 E67
   have q67_12 : Sl a67 12 tv8 := (hdp67 1 _ 12 zy rfl rfl).2 rfl
   have q67_14 : Sl a67 14 (.int .i64 ((r24 : Nat) : Int)) := (zE ((hdp67 3 _ 14 zy rfl rfl).1 rfl)).symm
   refine zh slt36 (zC hN67 rfl q67_12) hR8 (zC hN67 rfl q67_14) zx zx ?_
   intro b68 o69 h0b68 h1b68 hc70
   have hp71 : PtC w67 w2.heap.size w9.heap.size b68 o69 [(.string (bs (D8.getD r24 default).t.nm)), (D8.getD r24 default).cv, (D8.getD r24 default).iv] := ⟨by omega, by omega, fun j u hu => hc70 j u (by have := (List.getElem?_eq_some_iff.1 hu).1; simpa using this) ((el_dt (i := r24) zx zx) j u hu)⟩
   refine kt_end rfl hB14 ?_
   refine kt_step (rs := [5]) zy ?_
   refine one_mem ?_
   intro w73 E73 _ a73 hN73 hbs73 hdp73 o_ ho_; obtain rfl := zE ho_
   have := E73.size
   have hbl := hbl.keep0 E73
   have hR8 := hR8.keep0 E73
   have hT8 := hT8.keep0 E73
   obtain ⟨hB5, hB14⟩ := kb2 E73 hB5 hB14
   have hk24 := hk24.keepG (zi E73 NoB) (fun _ _ h => h)
   have hB64 := hB64.keep0 E73
   have hp71 := hp71.keep0 E73
   have hb := hb.step0 E73
   have q73_15 : Sl a73 15 (ptr b68 o69) := (zE ((hdp73 4 _ 15 zy rfl rfl).1 rfl)).symm
   refine zX (cs := [(.string (bs (D8.getD r24 default).t.nm)), (D8.getD r24 default).cv, (D8.getD r24 default).iv]) agg55 rfl (zC hN73 rfl q73_15) (fun j u hu => hp71.2.2 j u hu) ?_
   refine kt_end rfl hB14 ?_
   intro w74 E74 a74 hN74 hd74 hbs74 hph74
   have hd74 := hd74.trans ((by simp only [putsL_defers] : _ = _).trans hd)
   have := E74.size
   have hbl := hbl.keep0 E74
   have hR8 := hR8.keep0 E74
   have hT8 := hT8.keep0 E74
   obtain ⟨hB5, hB14⟩ := kb2 E74 hB5 hB14
   have hk24 := hk24.keepG (zi E74 NoB) (fun _ _ h => h)
   have hB64 := hB64.keep0 E74
   have hb := hb.step0 E74
   have s74_0 := (hbs74 0 rfl).trans (zL hN rfl s0)
   have s74_2 := (hbs74 2 rfl).trans (zU hN rfl)
   have s74_3 := (hbs74 3 rfl).trans (zU hN rfl)
   have s74_4 : Sl a74 4 (ptr b62 0) := (zE ((hph74 6 _ 4 rfl rfl).1 rfl)).symm
   have s74_16 : Sl a74 16 (.agg #[(.string (bs (D8.getD r24 default).t.nm)), (D8.getD r24 default).cv, (D8.getD r24 default).iv]) := (zE ((hph74 5 _ 16 rfl rfl).1 rfl)).symm
   refine split_end ?_
   refine from_seq (tl := [_]) zz zy rfl ?_
   have hB64_old := hB64
   refine zZ size55 (zC hN74 rfl s74_4) (zC hN74 rfl s74_16) rfl (by simp only [List.all_cons, List.all_nil, Bool.true_and, Bool.and_true, (hT8.2 (D8.getD r24 default) (getD_mem zx)).1.one, (hT8.2 (D8.getD r24 default) (getD_mem zx)).2.one]; try rfl) hB64 rfl ?_
   intro w77 hB64 E78
   have := E78.size
   have hbl := hbl.keep E78 sR
   have hB5 := hB5.keep E78 (sN hB5 hB64_old)
   have hR8 := hR8.keep E78 sO
   have hT8 := hT8.keep E78 sO
   have hB14 := hB14.keep E78 (sN hB14 hB64_old)
   have hk24 := hk24.keepG (Gr.of E78) (Dj.one dj65)
   have hb := hb.step1 E78 zx
   refine zB ?_
   refine hK21 _ _ ?_
   exact hJ20 _ _ _ hN74 hd74 ⟨b62, r24, n24, (zL hN74 rfl s74_0), (zL hN74 rfl s74_2), (zL hN74 rfl s74_3), (zL hN74 rfl s74_4), zx, zx, hB64.lt, zx, hb, zx, hbl, hB5, hR8, hT8, hB14, hB64, hk24⟩
  refine one_mem ?_
  intro w79 E79 _ a79 hN79 hbs79 hdp79 o_ ho_; obtain rfl := zE ho_
  have := E79.size
  have hpk := hpk.keepG (zi E79 NoB) (fun _ _ h => h)
  have hbl := hbl.keep0 E79
  have hR8 := hR8.keep0 E79
  have hT8 := hT8.keep0 E79
  obtain ⟨hB5, hB14⟩ := kb2 E79 hB5 hB14
  have hb := hb.step0 E79
  refine op_alloc (cs := [(.string (bs [])), (.slice none 0 0), (.slice none 0 0)]) zero55 rfl ?_
  intro w80 b81 lo_b81 hi_b81 hB83 E82
  have dj84 : ¬ (fun k => k = p) b81 := fun hf => by have := (hpk.lt _ hf).2; omega
  have := E82.size
  have hpk := hpk.keepG (zi E82 NoB) (fun _ _ h => h)
  have hbl := hbl.keep0 E82
  have hR8 := hR8.keep0 E82
  have hT8 := hT8.keep0 E82
  obtain ⟨hB5, hB14⟩ := kb2 E82 hB5 hB14
  have hb := hb.step0 E82
  refine kt_end rfl hB14 ?_
  refine kt_step (rs := [3]) zy ?_
  refine one_mem ?_
  intro w86 E86 _ a86 hN86 hbs86 hdp86 o_ ho_; obtain rfl := zE ho_
  have := E86.size
  have hpk := hpk.keepG (zi E86 NoB) (fun _ _ h => h)
  have hbl := hbl.keep0 E86
  have hR8 := hR8.keep0 E86
  have hT8 := hT8.keep0 E86
  obtain ⟨hB5, hB14, hB83⟩ := kb3 E86 hB5 hB14 hB83
  have hb := hb.step0 E86
  have q86_13 : Sl a86 13 (ptr p 0) := (hdp86 2 _ 13 zy rfl rfl).2 rfl
  refine zj ok35 (Num_ret (m := 2) hpk zx hbl zx zx) ⟨(zC hN86 rfl q86_13), ⟨rfl, trivial⟩⟩ ?_
  rintro _ w88 ⟨E89, r87, rfl, hr87, n87, hk87, hn87, hn87x⟩
  have hpk_old := hpk
  have := E89.size
  have hbl := hbl.keepG E89 (fun k hk => .inr (by have := hpk_old.lt k hk; omega))
  have hB5 := hB5.keepG E89 dj6
  have hR8 := hR8.keepG E89 sP
  have hT8 := hT8.keepG E89 sP
  have hB14 := hB14.keepG E89 dj15
  have hB83 := hB83.keepG E89 dj84
  have hb := hb.stepF E89 (fun _ _ h => h)
  refine kt_end rfl hB14 ?_
  refine kt_step (rs := [4]) zy ?_
  refine one_mem ?_
  intro w91 E91 _ a91 hN91 hbs91 hdp91 o_ ho_; obtain rfl := zE ho_
  have := E91.size
  have hbl := hbl.keep0 E91
  have hR8 := hR8.keep0 E91
  have hT8 := hT8.keep0 E91
  obtain ⟨hB5, hB14, hB83⟩ := kb3 E91 hB5 hB14 hB83
  have hk87 := hk87.keepG (zi E91 NoB) (fun _ _ h => h)
  have hb := hb.step0 E91
  have q91_12 : Sl a91 12 tv8 := (hdp91 1 _ 12 zy rfl rfl).2 rfl
  have q91_14 : Sl a91 14 (.int .i64 ((r87 : Nat) : Int)) := (zE ((hdp91 3 _ 14 zy rfl rfl).1 rfl)).symm
  refine zh slt36 (zC hN91 rfl q91_12) hR8 (zC hN91 rfl q91_14) zx zx ?_
  intro b92 o93 h0b92 h1b92 hc94
  have hp95 : PtC w91 w2.heap.size w9.heap.size b92 o93 [(.string (bs (D8.getD r87 default).t.nm)), (D8.getD r87 default).cv, (D8.getD r87 default).iv] := ⟨by omega, by omega, fun j u hu => hc94 j u (by have := (List.getElem?_eq_some_iff.1 hu).1; simpa using this) ((el_dt (i := r87) zx zx) j u hu)⟩
  refine kt_end rfl hB14 ?_
  refine kt_step (rs := [5]) zy ?_
  refine one_mem ?_
  intro w97 E97 _ a97 hN97 hbs97 hdp97 o_ ho_; obtain rfl := zE ho_
  have := E97.size
  have hbl := hbl.keep0 E97
  have hR8 := hR8.keep0 E97
  have hT8 := hT8.keep0 E97
  obtain ⟨hB5, hB14, hB83⟩ := kb3 E97 hB5 hB14 hB83
  have hk87 := hk87.keepG (zi E97 NoB) (fun _ _ h => h)
  have hp95 := hp95.keep0 E97
  have hb := hb.step0 E97
  have q97_15 : Sl a97 15 (ptr b92 o93) := (zE ((hdp97 4 _ 15 zy rfl rfl).1 rfl)).symm
  refine zX (cs := [(.string (bs (D8.getD r87 default).t.nm)), (D8.getD r87 default).cv, (D8.getD r87 default).iv]) agg55 rfl (zC hN97 rfl q97_15) (fun j u hu => hp95.2.2 j u hu) ?_
  refine kt_end rfl hB14 ?_
  intro w98 E98 a98 hN98 hd98 hbs98 hph98
  have hd98 := hd98.trans ((by simp only [putsL_defers] : _ = _).trans hd)
  have := E98.size
  have hbl := hbl.keep0 E98
  have hR8 := hR8.keep0 E98
  have hT8 := hT8.keep0 E98
  obtain ⟨hB5, hB14, hB83⟩ := kb3 E98 hB5 hB14 hB83
  have hk87 := hk87.keepG (zi E98 NoB) (fun _ _ h => h)
  have hb := hb.step0 E98
  have s98_0 := (hbs98 0 rfl).trans (zL hN rfl s0)
  have s98_2 := (hbs98 2 rfl).trans (zU hN rfl)
  have s98_3 := (hbs98 3 rfl).trans (zU hN rfl)
  have s98_4 : Sl a98 4 (ptr b81 0) := (zE ((hph98 6 _ 4 rfl rfl).1 rfl)).symm
  have s98_16 : Sl a98 16 (.agg #[(.string (bs (D8.getD r87 default).t.nm)), (D8.getD r87 default).cv, (D8.getD r87 default).iv]) := (zE ((hph98 5 _ 16 rfl rfl).1 rfl)).symm
  refine split_end ?_
  refine from_seq (tl := [_]) zz zy rfl ?_
  have hB83_old := hB83
  refine zZ size55 (zC hN98 rfl s98_4) (zC hN98 rfl s98_16) rfl (by simp only [List.all_cons, List.all_nil, Bool.true_and, Bool.and_true, (hT8.2 (D8.getD r87 default) (getD_mem zx)).1.one, (hT8.2 (D8.getD r87 default) (getD_mem zx)).2.one]; try rfl) hB83 rfl ?_
  intro w101 hB83 E102
  have := E102.size
  have hbl := hbl.keep E102 sR
  have hB5 := hB5.keep E102 (sN hB5 hB83_old)
  have hR8 := hR8.keep E102 sO
  have hT8 := hT8.keep E102 sO
  have hB14 := hB14.keep E102 (sN hB14 hB83_old)
  have hk87 := hk87.keepG (Gr.of E102) (Dj.one dj84)
  have hb := hb.step1 E102 zx
  refine zB ?_
  refine hK21 _ _ ?_
  exact hJ20 _ _ _ hN98 hd98 ⟨b81, r87, n87, (zL hN98 rfl s98_0), (zL hN98 rfl s98_2), (zL hN98 rfl s98_3), (zL hN98 rfl s98_4), zx, zx, hB83.lt, zx, hb, zx, hbl, hB5, hR8, hT8, hB14, hB83, hk87⟩
 rintro a20 w20 hN20 hd20 ⟨b4, r9, n9, s20_0, s20_2, s20_3, s20_4, hr9, hn9, hi_b4, lo_b4, hb, zl_w20, hbl, hB5, hR8, hT8, hB14, hx4, hpk⟩
 have := hb.size
 refine zF fun K103 hK103 => ?_
 refine zH ?_
 have htc9 := (hT8.2 (D8.getD r9 default) (getD_mem zx)).1
 have hlc9 : (D8.getD r9 default).t.cols.length = 3 := hl38 _ (getD_mem zx)
 have hlc8 : (colsOf (D8.getD r9 default).t.nm (D8.getD r9 default).t.cols).length = 3 := by rw [cols_len, hlc9]
 refine zY agg55 rfl (zC hN20 rfl s20_4) hx4 ?_
 refine zj ok21 (Cols_ret (nm := ((D8.getD r9 default).t.nm)) zx (htc9.mono (Nat.zero_le _) zx)) ⟨(zA hN20 rfl), trivial⟩ ?_
 rintro _ w105 ⟨E106, av104, bv104, rfl, hc104, hk104⟩
 have E106 := zQ E106
 have := E106.size
 have hbl := hbl.keep0 E106
 have hR8 := hR8.keep0 E106
 have hT8 := hT8.keep0 E106
 obtain ⟨hB5, hB14, hx4⟩ := kb3 E106 hB5 hB14 hx4
 have hpk := hpk.keepG (zi E106 NoB) (fun _ _ h => h)
 have htc9 := htc9.keep0 E106
 have hb := hb.step0 E106
 refine zG (zA hN20 rfl) ?_
 refine zW (zA hN20 rfl) rfl ?_
 refine zW (zA hN20 rfl) rfl ?_
 refine zD (zA hN20 rfl) ?_
 refine zD (zA hN20 rfl) ?_
 refine zB ?_
 refine hK103 _ _ (zF fun K107 hK107 => ?_)
 refine zF fun K108 hK108 => ?_
 refine zH ?_
 refine zG (zC hN20 rfl s20_0) ?_
 refine zj ok35 (Num_ret (m := 7) hpk zx hbl zx zx) ⟨(zA hN20 rfl), ⟨rfl, trivial⟩⟩ ?_
 rintro _ w110 ⟨E111, r109, rfl, hr109, n109, hk109, hn109, hn109x⟩
 have hpk_old := hpk
 have := E111.size
 have hbl := hbl.keepG E111 (fun k hk => .inr (by have := hpk_old.lt k hk; omega))
 have hB5 := hB5.keepG E111 dj6
 have hR8 := hR8.keepG E111 sP
 have hT8 := hT8.keepG E111 sP
 have hB14 := hB14.keepG E111 dj15
 have hx4 := hx4.keepG E111 (hpk_old.notBx hx4 zz)
 have htc9 := htc9.keepG E111 sP
 have hc104 := hc104.keepG E111 sP
 have hk104 := hk104.keepG E111 sP
 have hb := hb.stepF E111 (fun _ _ h => h)
 refine zB ?_
 refine hK108 _ _ (wp_block ?_)
 refine seq_join1 (N := 97) (fun az_ w' => ∃ (b24 : Bool), (az_.tmps.getD 0 undef = (ptr p 0)) ∧ (az_.tmps.getD 2 undef = (ptr b3 0)) ∧ (az_.tmps.getD 3 undef = (ptr b12 0)) ∧ (az_.tmps.getD 4 undef = (ptr b4 0)) ∧ (az_.tmps.getD 5 undef = av104) ∧ (az_.tmps.getD 6 undef = bv104) ∧ (az_.tmps.getD 23 undef = (.int .i64 ((r109 : Nat) : Int))) ∧ (az_.tmps.getD 24 undef = (.bool b24)) ∧ (Gr w w' (fun k => k = p)) ∧ (w110.heap.size ≤ w'.heap.size) ∧ (RdC w' 0 Bp 1 lv bl.length (bl.map u8v)) ∧ (Bx w' b3 45 [(.int .i64 0), (.string (bs [])), (.string (bs [])), (.slice none 0 0), (.slice none 0 0), (.slice none 0 0), (.slice none 0 0), (.string (bs [])), (.slice none 0 0), (.slice none 0 0), (.slice none 0 0), (.bool false), (.slice none 0 0)]) ∧ (RdC w' w2.heap.size w9.heap.size 3 tv8 D8.length (D8.flatMap cellsT)) ∧ (TsFr w' w2.heap.size w9.heap.size tv8 D8) ∧ (Bx w' b12 39 [tv8, (.slice none 0 0)]) ∧ (Bx w' b4 55 [(.string (bs (D8.getD r9 default).t.nm)), (D8.getD r9 default).cv, (D8.getD r9 default).iv]) ∧ (RdC w' w2.heap.size w9.heap.size 3 (D8.getD r9 default).cv ((D8.getD r9 default).t.cols).length (((D8.getD r9 default).t.cols).flatMap cellsC)) ∧ (RdC w' w20.heap.size w105.heap.size 3 av104 (colsOf ((D8.getD r9 default).t.nm) ((D8.getD r9 default).t.cols)).length ((colsOf ((D8.getD r9 default).t.nm) ((D8.getD r9 default).t.cols)).flatMap cellsI)) ∧ (RdC w' w20.heap.size w105.heap.size 1 bv104 (kindsOf ((D8.getD r9 default).t.cols)).length ((kindsOf ((D8.getD r9 default).t.cols)).map (Value.int .i64))) ∧ (PickR w' base p lv bl n109 (fun k => k = p))) (fun hJ112 => ?_) ?_
 ·
  refine zF fun K113 hK113 => ?_
  refine zF fun K114 hK114 => ?_
  refine zH ?_
  refine op_eql (zA hN20 rfl) rfl (fun c25 => ?_) (fun c25 => ?_)
  ·
   refine zD (zA hN20 rfl) ?_
   refine zB ?_
   refine hK114 _ _ (wp_cond_true (zA hN20 rfl) (wp_skip (hK113 _ _ ?_)))
   exact hJ112 _ _ _ hN20 hd20 ⟨true, (zL hN20 rfl s20_0), (zL hN20 rfl s20_2), (zL hN20 rfl s20_3), (zL hN20 rfl s20_4), (zU hN20 rfl), (zU hN20 rfl), (zU hN20 rfl), (zU hN20 rfl), hb, zx, hbl, hB5, hR8, hT8, hB14, hx4, htc9, hc104, hk104, hk109⟩
  refine zD (zA hN20 rfl) ?_
  refine zB ?_
  refine hK114 _ _ (wp_cond_false (zA hN20 rfl) (zF fun K115 hK115 => ?_))
  refine zH ?_
  refine op_eql (zA hN20 rfl) rfl (fun c26 => ?_) (fun c26 => ?_)
  ·
   refine zD (zA hN20 rfl) ?_
   refine zB ?_
   refine hK115 _ _ (wp_cond_true (zA hN20 rfl) (wp_skip (hK113 _ _ ?_)))
   exact hJ112 _ _ _ hN20 hd20 ⟨true, (zL hN20 rfl s20_0), (zL hN20 rfl s20_2), (zL hN20 rfl s20_3), (zL hN20 rfl s20_4), (zU hN20 rfl), (zU hN20 rfl), (zU hN20 rfl), (zU hN20 rfl), hb, zx, hbl, hB5, hR8, hT8, hB14, hx4, htc9, hc104, hk104, hk109⟩
  refine zD (zA hN20 rfl) ?_
  refine zB ?_
  refine hK115 _ _ (wp_cond_false (zA hN20 rfl) (zH ?_))
  refine op_eql (zA hN20 rfl) rfl (fun c27 => ?_) (fun c27 => ?_)
  ·
   refine zD (zA hN20 rfl) ?_
   refine zB ?_
   refine hK113 _ _ ?_
   exact hJ112 _ _ _ hN20 hd20 ⟨true, (zL hN20 rfl s20_0), (zL hN20 rfl s20_2), (zL hN20 rfl s20_3), (zL hN20 rfl s20_4), (zU hN20 rfl), (zU hN20 rfl), (zU hN20 rfl), (zU hN20 rfl), hb, zx, hbl, hB5, hR8, hT8, hB14, hx4, htc9, hc104, hk104, hk109⟩
  refine zD (zA hN20 rfl) ?_
  refine zB ?_
  refine hK113 _ _ ?_
  exact hJ112 _ _ _ hN20 hd20 ⟨false, (zL hN20 rfl s20_0), (zL hN20 rfl s20_2), (zL hN20 rfl s20_3), (zL hN20 rfl s20_4), (zU hN20 rfl), (zU hN20 rfl), (zU hN20 rfl), (zU hN20 rfl), hb, zx, hbl, hB5, hR8, hT8, hB14, hx4, htc9, hc104, hk104, hk109⟩
 rintro a112 w112 hN112 hd112 ⟨b24, s112_0, s112_2, s112_3, s112_4, s112_5, s112_6, s112_23, s112_24, hb, zl_w112, hbl, hB5, hR8, hT8, hB14, hx4, htc9, hc104, hk104, hk109⟩
 have := hb.size
 refine wp_cond_split (zC hN112 rfl s112_24) (fun c24 => ?_) (fun c24 => ?_)
 ·
  refine zF fun K116 hK116 => ?_
  refine zH ?_
  refine zM fld55_0 (zC hN112 rfl s112_4) ?_
  refine zN (v := (Value.string (bs (D8.getD r9 default).t.nm))) one9 (zA hN112 rfl) (hx4.cell rfl) ?_
  refine zf (pv := [(0, (.int .i64 5)), (1, (.string (bs (D8.getD r9 default).t.nm)))]) (v := (Value.agg #[(.int .i64 5), (.string (bs (D8.getD r9 default).t.nm)), (.string (bs [])), (.slice none 0 0), (.slice none 0 0), (.slice none 0 0), (.slice none 0 0), (.string (bs [])), (.slice none 0 0), (.slice none 0 0), (.slice none 0 0), (.bool false), (.slice none 0 0)])) ⟨rfl, rfl, ⟨rfl, (zA hN112 rfl), trivial⟩⟩ zy ?_
  refine op_alloc (cs := [(.int .i64 0), (.string (bs [])), (.string (bs [])), (.slice none 0 0), (.slice none 0 0), (.slice none 0 0), (.slice none 0 0), (.string (bs [])), (.slice none 0 0), (.slice none 0 0), (.slice none 0 0), (.bool false), (.slice none 0 0)]) zero45 rfl ?_
  intro w117 b118 lo_b118 hi_b118 hB120 E119
  have dj121 : ¬ (fun k => k = p) b118 := fun hf => by have := (hk109.lt _ hf).2; omega
  have := E119.size
  have hbl := hbl.keep0 E119
  have hR8 := hR8.keep0 E119
  have hT8 := hT8.keep0 E119
  have htc9 := htc9.keep0 E119
  have hc104 := hc104.keep0 E119
  have hk104 := hk104.keep0 E119
  obtain ⟨hB5, hB14, hx4⟩ := kb3 E119 hB5 hB14 hx4
  have hk109 := hk109.keepG (zi E119 NoB) (fun _ _ h => h)
  have hb := hb.step0 E119
  have hB120_old := hB120
  refine zZ size45 (zA hN112 rfl) (zA hN112 rfl) rfl rfl hB120 rfl ?_
  intro w124 hB120 E125
  have := E125.size
  have hbl := hbl.keep E125 sR
  have hB5 := hB5.keep E125 sB
  have hR8 := hR8.keep E125 sO
  have hT8 := hT8.keep E125 sO
  have hB14 := hB14.keep E125 (sN hB14 hB120_old)
  have hx4 := hx4.keep E125 (sN hx4 hB120_old)
  have htc9 := htc9.keep E125 sO
  have hc104 := hc104.keep E125 sO
  have hk104 := hk104.keep E125 sO
  have hk109 := hk109.keepG (Gr.of E125) (Dj.one dj121)
  have hb := hb.step1 E125 zx
  refine zB ?_
  refine hK116 _ _ (zF fun K126 hK126 => ?_)
  refine zF fun K127 hK127 => ?_
  refine zH ?_
  refine zD rfl ?_
  refine zB ?_
  refine hK127 _ _ (wp_block ?_)
  refine loop_m (fun mz_ az_ w' => ∃ (i n2 : Nat) (lv2 : Value) (V : List XE), mz_ = (D8.getD r9 default).t.cols.length - i ∧ (az_.tmps.getD 0 undef = (ptr p 0)) ∧ (az_.tmps.getD 2 undef = (ptr b3 0)) ∧ (az_.tmps.getD 3 undef = (ptr b12 0)) ∧ (az_.tmps.getD 4 undef = (ptr b4 0)) ∧ (az_.tmps.getD 7 undef = (ptr b118 0)) ∧ (az_.tmps.getD 8 undef = (.int .i64 ((i : Nat) : Int))) ∧ (i ≤ (D8.getD r9 default).t.cols.length) ∧ (V.length = i) ∧ (∀ a ∈ V, a.av = .slice none 0 0 ∧ a.args = []) ∧ (n ≤ n2 ∧ (n < bl.length → n < n2)) ∧ (Gr w w' (fun k => k = p)) ∧ (w124.heap.size ≤ w'.heap.size) ∧ (RdC w' 0 Bp 1 lv bl.length (bl.map u8v)) ∧ (Bx w' b3 45 [(.int .i64 0), (.string (bs [])), (.string (bs [])), (.slice none 0 0), (.slice none 0 0), (.slice none 0 0), (.slice none 0 0), (.string (bs [])), (.slice none 0 0), (.slice none 0 0), (.slice none 0 0), (.bool false), (.slice none 0 0)]) ∧ (RdC w' w2.heap.size w9.heap.size 3 tv8 D8.length (D8.flatMap cellsT)) ∧ (TsFr w' w2.heap.size w9.heap.size tv8 D8) ∧ (Bx w' b12 39 [tv8, (.slice none 0 0)]) ∧ (Bx w' b4 55 [(.string (bs (D8.getD r9 default).t.nm)), (D8.getD r9 default).cv, (D8.getD r9 default).iv]) ∧ (RdC w' w2.heap.size w9.heap.size 3 (D8.getD r9 default).cv ((D8.getD r9 default).t.cols).length (((D8.getD r9 default).t.cols).flatMap cellsC)) ∧ (RdC w' w20.heap.size w105.heap.size 3 av104 (colsOf ((D8.getD r9 default).t.nm) ((D8.getD r9 default).t.cols)).length ((colsOf ((D8.getD r9 default).t.nm) ((D8.getD r9 default).t.cols)).flatMap cellsI)) ∧ (RdC w' w20.heap.size w105.heap.size 1 bv104 (kindsOf ((D8.getD r9 default).t.cols)).length ((kindsOf ((D8.getD r9 default).t.cols)).map (Value.int .i64))) ∧ (Bx w' b118 45 [(.int .i64 5), (.string (bs (D8.getD r9 default).t.nm)), (.string (bs [])), (.slice none 0 0), (.slice none 0 0), lv2, (.slice none 0 0), (.string (bs [])), (.slice none 0 0), (.slice none 0 0), (.slice none 0 0), (.bool false), (.slice none 0 0)]) ∧ (PickR w' base p lv bl n2 (fun k => k = p)) ∧ (Own w' w124.heap.size 28 7 lv2 V.length (V.flatMap cellsX))) _ hN112 hd112 ⟨0, _, (.slice none 0 0), [], rfl, (zL hN112 rfl s112_0), (zL hN112 rfl s112_2), (zL hN112 rfl s112_3), (zL hN112 rfl s112_4), (zU hN112 rfl), (zU hN112 rfl), (Nat.zero_le _), rfl, (fun _ h => (by cases h)), zx, hb, (Nat.le_refl _), hbl, hB5, hR8, hT8, hB14, hx4, htc9, hc104, hk104, hB120, hk109, (Own.nil _ _ _ _)⟩ ?_
  rintro _ a128 w128 hN128 hd128 ⟨i, n2, lv2, V, rfl, s128_0, s128_2, s128_3, s128_4, s128_7, s128_8, hi, hvl, hV, hn2, hb, zl_w128, hbl, hB5, hR8, hT8, hB14, hx4, htc9, hc104, hk104, hxl, hpk, hO129⟩
  have := hb.size
  refine zF fun K130 hK130 => ?_
  refine zF fun K131 hK131 => ?_
  refine zH ?_
  refine zG (zC hN128 rfl s128_8) ?_
  refine zM fld55_1 (zC hN128 rfl s128_4) ?_
  refine zN (v := (D8.getD r9 default).cv) one41 (zA hN128 rfl) (hx4.cell rfl) ?_
  refine op_len_rd Try.underlying41 (zA hN128 rfl) htc9 ?_
  refine op_lss (zA hN128 rfl) (zA hN128 rfl) (fun c35 => ?_) (fun c35 => ?_)
  ·
   refine zB ?_
   refine hK131 _ _ (wp_cond_true (zA hN128 rfl) (wp_skip (hK130 _ _ (zF fun K132 hK132 => ?_))))
   refine wp_block ?_
   obtain ⟨b133, o134, hAt135⟩ := htc9.atV (i := i) zz zx
   refine reg_split (hd := [_, _, _, _, _, _, _, _, _, _, _, _, _]) (tl := _) 13 mixed zy rfl rfl ?_
   refine any_tree (φ := phiV [(fun uz => uz = (ptr b118 5)), (fun uz => uz = lv2), (fun uz => uz = (ptr p 0)), (fun uz => uz = (ptr b4 1)), (fun uz => uz = (D8.getD r9 default).cv), (fun uz => uz = (.int .i64 ((i : Nat) : Int))), (fun uz => uz = (ptr b133 o134)), (fun uz => uz = (ptr b133 (o134 + 1))), (fun uz => uz = (.int .i64 ((D8.getD r9 default).t.cols.getD i default).kind)), (fun _ => True), (fun _ => True), (fun _ => True), (fun _ => True)]) (G := fun w' => RdC w' w2.heap.size w9.heap.size 3 (D8.getD r9 default).cv ((D8.getD r9 default).t.cols).length (((D8.getD r9 default).t.cols).flatMap cellsC) ∧ Bx w' b118 45 [(.int .i64 5), (.string (bs (D8.getD r9 default).t.nm)), (.string (bs [])), (.slice none 0 0), (.slice none 0 0), lv2, (.slice none 0 0), (.string (bs [])), (.slice none 0 0), (.slice none 0 0), (.slice none 0 0), (.bool false), (.slice none 0 0)] ∧ Bx w' b4 55 [(.string (bs (D8.getD r9 default).t.nm)), (D8.getD r9 default).cv, (D8.getD r9 default).iv]) [9, 10, 11, 12] zy zy zy zy zy hN128 (fun w1 w2 E h => by obtain ⟨h0, h1, h2⟩ := h; exact ⟨h0.keep0 E, h1.keep0 E, h2.keep0 E⟩) ⟨htc9, hxl, hx4⟩ (ObRs9.cons ?_ (ObRs9.cons ?_ (ObRs9.cons ?_ (ObRs9.cons ?_ (ObRs9.cons ?_ (ObRs9.cons ?_ (ObRs9.cons ?_ (ObRs9.cons ?_ (ObRs9.cons ?_ (ObRs9.pass rfl (ObRs9.pass rfl (ObRs9.pass rfl (ObRs9.pass rfl (ObRs9.nil)))))))))))))) (by simp only [putsL_defers]) ?_
   ·
    intro eA aA wA hNA hGA hbsA hdpA
    have qA_7 := (hbsA 7 rfl).trans (zL hN128 rfl s128_7)
    refine zM fld45_5 (zC hNA rfl qA_7) ?_
    exact obT_end rfl rfl
   ·
    intro eA aA wA hNA hGA hbsA hdpA
    have qA_38 : Sl aA 38 (ptr b118 5) := (hdpA 0 _ 38 zy rfl rfl).2 rfl
    obtain ⟨htc9, hxl, hx4⟩ := hGA
    refine zN (v := lv2) one26 (zC hNA rfl qA_38) (hxl.cell rfl) ?_
    exact obT_end rfl rfl
   ·
    intro eA aA wA hNA hGA hbsA hdpA
    have qA_0 := (hbsA 0 rfl).trans (zL hN128 rfl s128_0)
    refine zG (zC hNA rfl qA_0) ?_
    exact obT_end rfl rfl
   ·
    intro eA aA wA hNA hGA hbsA hdpA
    have qA_4 := (hbsA 4 rfl).trans (zL hN128 rfl s128_4)
    refine zM fld55_1 (zC hNA rfl qA_4) ?_
    exact obT_end rfl rfl
   ·
    intro eA aA wA hNA hGA hbsA hdpA
    have qA_41 : Sl aA 41 (ptr b4 1) := (hdpA 3 _ 41 zy rfl rfl).2 rfl
    obtain ⟨htc9, hxl, hx4⟩ := hGA
    refine zN (v := (D8.getD r9 default).cv) one41 (zC hNA rfl qA_41) (hx4.cell rfl) ?_
    exact obT_end rfl rfl
   ·
    intro eA aA wA hNA hGA hbsA hdpA
    have qA_8 := (hbsA 8 rfl).trans (zL hN128 rfl s128_8)
    refine zG (zC hNA rfl qA_8) ?_
    exact obT_end rfl rfl
   ·
    intro eA aA wA hNA hGA hbsA hdpA
    have qA_42 : Sl aA 42 (D8.getD r9 default).cv := (hdpA 4 _ 42 zy rfl rfl).2 rfl
    have qA_43 : Sl aA 43 (.int .i64 ((i : Nat) : Int)) := (hdpA 5 _ 43 zy rfl rfl).2 rfl
    obtain ⟨htc9, hxl, hx4⟩ := hGA
    refine op_index_atR (i := i) slt41 (zC hNA rfl qA_42) htc9 zz (zC hNA rfl qA_43) zx zx hAt135 ?_
    exact obT_end rfl rfl
   ·
    intro eA aA wA hNA hGA hbsA hdpA
    have qA_44 : Sl aA 44 (ptr b133 o134) := (hdpA 6 _ 44 zy rfl rfl).2 rfl
    refine zM fld68_1 (zC hNA rfl qA_44) ?_
    exact obT_end rfl rfl
   ·
    intro eA aA wA hNA hGA hbsA hdpA
    have qA_45 : Sl aA 45 (ptr b133 (o134 + 1)) := (hdpA 7 _ 45 zy rfl rfl).2 rfl
    obtain ⟨htc9, hxl, hx4⟩ := hGA
    refine zN (v := (Value.int .i64 ((D8.getD r9 default).t.cols.getD i default).kind)) one3 (zC hNA rfl qA_45) (htc9.cellAt hAt135 1 _ ((el_pc (i := i) rfl zx) 1 _ rfl)) ?_
    exact obT_end rfl rfl
   refine kt_step (rs := [9]) zy ?_
   refine one_mem ?_
   intro w137 E137 _ a137 hN137 hbs137 hdp137 o_ ho_; obtain rfl := zE ho_
   have := E137.size
   have hbl := hbl.keep0 E137
   have hR8 := hR8.keep0 E137
   have hT8 := hT8.keep0 E137
   have htc9 := htc9.keep0 E137
   have hc104 := hc104.keep0 E137
   have hk104 := hk104.keep0 E137
   obtain ⟨hB5, hB14, hx4, hxl⟩ := kb4 E137 hB5 hB14 hx4 hxl
   have hpk := hpk.keepG (zi E137 NoB) (fun _ _ h => h)
   have hO129 := hO129.keep0 E137
   have hb := hb.step0 E137
   have q137_40 : Sl a137 40 (ptr p 0) := (hdp137 2 _ 40 zy rfl rfl).2 rfl
   have q137_46 : Sl a137 46 (.int .i64 ((D8.getD r9 default).t.cols.getD i default).kind) := (hdp137 8 _ 46 zy rfl rfl).2 rfl
   refine zj ok56 (Value_ret (kd := ((D8.getD r9 default).t.cols.getD i default).kind) hpk zx hbl) ⟨(zC hN137 rfl q137_40), ⟨(zC hN137 rfl q137_46), trivial⟩⟩ ?_
   rintro _ w139 ⟨E140, vi138, vs138, rfl, n138, hk138, hn138⟩
   have hpk_old := hpk
   have := E140.size
   have hbl := hbl.keepG E140 (fun k hk => .inr (by have := hpk_old.lt k hk; omega))
   have hB5 := hB5.keepG E140 dj6
   have hR8 := hR8.keepG E140 sP
   have hT8 := hT8.keepG E140 sP
   have hB14 := hB14.keepG E140 dj15
   have hx4 := hx4.keepG E140 (hpk_old.notBx hx4 zz)
   have htc9 := htc9.keepG E140 sP
   have hc104 := hc104.keepG E140 sP
   have hk104 := hk104.keepG E140 sP
   have hxl := hxl.keepG E140 dj121
   have hO129 := hO129.keepG E140 (hpk_old.notOwn hO129 zz)
   have hb := hb.stepF E140 (fun _ _ h => h)
   refine kt_end rfl ⟨htc9, hxl, hx4⟩ ?_
   refine kt_step (rs := [10]) zy ?_
   refine one_mem ?_
   intro w142 E142 _ a142 hN142 hbs142 hdp142 o_ ho_; obtain rfl := zE ho_
   have := E142.size
   have hbl := hbl.keep0 E142
   have hR8 := hR8.keep0 E142
   have hT8 := hT8.keep0 E142
   have htc9 := htc9.keep0 E142
   have hc104 := hc104.keep0 E142
   have hk104 := hk104.keep0 E142
   have hO129 := hO129.keep0 E142
   obtain ⟨hB5, hB14, hx4, hxl⟩ := kb4 E142 hB5 hB14 hx4 hxl
   have hk138 := hk138.keepG (zi E142 NoB) (fun _ _ h => h)
   have hb := hb.step0 E142
   have q142_47 : Sl a142 47 (.agg #[(.int .i64 (if ((D8.getD r9 default).t.cols.getD i default).kind = 2 then (2 : Int) else 1)), (.int .i64 vi138), (.string (bs vs138))]) := (zE ((hdp142 9 _ 47 zy rfl rfl).1 rfl)).symm
   refine zj ok55 (lit_ret (if ((D8.getD r9 default).t.cols.getD i default).kind = 2 then (2 : Int) else 1) vi138 vs138 _) ⟨(zC hN142 rfl q142_47), trivial⟩ ?_
   rintro _ w143 ⟨E144, rfl⟩
   have E144 := zQ E144
   have := E144.size
   have hbl := hbl.keep0 E144
   have hR8 := hR8.keep0 E144
   have hT8 := hT8.keep0 E144
   have htc9 := htc9.keep0 E144
   have hc104 := hc104.keep0 E144
   have hk104 := hk104.keep0 E144
   have hO129 := hO129.keep0 E144
   obtain ⟨hB5, hB14, hx4, hxl⟩ := kb4 E144 hB5 hB14 hx4 hxl
   have hk138 := hk138.keepG (zi E144 NoB) (fun _ _ h => h)
   have hb := hb.step0 E144
   refine kt_end rfl ⟨htc9, hxl, hx4⟩ ?_
   refine kt_step (rs := [11]) zy ?_
   refine one_mem ?_
   intro w146 E146 _ a146 hN146 hbs146 hdp146 o_ ho_; obtain rfl := zE ho_
   have := E146.size
   have hbl := hbl.keep0 E146
   have hR8 := hR8.keep0 E146
   have hT8 := hT8.keep0 E146
   have htc9 := htc9.keep0 E146
   have hc104 := hc104.keep0 E146
   have hk104 := hk104.keep0 E146
   have hO129 := hO129.keep0 E146
   obtain ⟨hB5, hB14, hx4, hxl⟩ := kb4 E146 hB5 hB14 hx4 hxl
   have hk138 := hk138.keepG (zi E146 NoB) (fun _ _ h => h)
   have hb := hb.step0 E146
   have q146_48 : Sl a146 48 (.agg #[(.int .i64 1), (.int .i64 (if ((D8.getD r9 default).t.cols.getD i default).kind = 2 then (2 : Int) else 1)), (.int .i64 vi138), (.string (bs vs138)), (.string (bs [])), (.string (bs [])), (.slice none 0 0)]) := (zE ((hdp146 10 _ 48 zy rfl rfl).1 rfl)).symm
   refine op_bslice (e := 28) (pv := [(0, (.agg #[(.int .i64 1), (.int .i64 (if ((D8.getD r9 default).t.cols.getD i default).kind = 2 then (2 : Int) else 1)), (.int .i64 vi138), (.string (bs vs138)), (.string (bs [])), (.string (bs [])), (.slice none 0 0)]))]) (cs := [(.int .i64 1), (.int .i64 (if ((D8.getD r9 default).t.cols.getD i default).kind = 2 then (2 : Int) else 1)), (.int .i64 vi138), (.string (bs vs138)), (.string (bs [])), (.string (bs [])), (.slice none 0 0)]) ⟨rfl, (zC hN146 rfl q146_48), trivial⟩ zy ?_
   intro w147 b148 lo_b148 hi_b148 hB150 E149
   have dj151 : ¬ (fun k => k = p) b148 := fun hf => by have := (hk138.lt _ hf).2; omega
   have := E149.size
   have hbl := hbl.keep0 E149
   have hR8 := hR8.keep0 E149
   have hT8 := hT8.keep0 E149
   have htc9 := htc9.keep0 E149
   have hc104 := hc104.keep0 E149
   have hk104 := hk104.keep0 E149
   have hO129 := hO129.keep0 E149
   obtain ⟨hB5, hB14, hx4, hxl⟩ := kb4 E149 hB5 hB14 hx4 hxl
   have hk138 := hk138.keepG (zi E149 NoB) (fun _ _ h => h)
   have hb := hb.step0 E149
   refine kt_end rfl ⟨htc9, hxl, hx4⟩ ?_
   refine kt_step (rs := [12]) zy ?_
   refine one_mem ?_
   intro w153 E153 _ a153 hN153 hbs153 hdp153 o_ ho_; obtain rfl := zE ho_
   have := E153.size
   have hbl := hbl.keep0 E153
   have hR8 := hR8.keep0 E153
   have hT8 := hT8.keep0 E153
   have htc9 := htc9.keep0 E153
   have hc104 := hc104.keep0 E153
   have hk104 := hk104.keep0 E153
   have hO129 := hO129.keep0 E153
   obtain ⟨hB5, hB14, hx4, hxl⟩ := kb4 E153 hB5 hB14 hx4 hxl
   have hk138 := hk138.keepG (zi E153 NoB) (fun _ _ h => h)
   have hB150 := hB150.keep0 E153
   have hb := hb.step0 E153
   have q153_39 : Sl a153 39 lv2 := (hdp153 1 _ 39 zy rfl rfl).2 rfl
   have q153_49 : Sl a153 49 (.slice (some ⟨b148, 0, none⟩) 1 1) := (zE ((hdp153 11 _ 49 zy rfl rfl).1 rfl)).symm
   have hP159 := hO129
   refine op_append slt26 (zC hN153 rfl q153_39) hP159 (zC hN153 rfl q153_49) (Src.ofRd Try.underlying26 zz (RdC.ofBx (sz := 7) (n := 1) hB150 rfl zz) (by simp [Value.oneCell', u8v])) (by unfold maxLen; omega) zx (by first | exact Nat.le_trans (by assumption) hb.size | (have := hb.size; omega)) ?_
   intro v154 w155 hO157 E156 hm158
   have := E156.size
   have hbl := hbl.keepO hP159 E156 zx
   have hB5 := hB5.keepO hP159 E156 zz
   have hR8 := hR8.keepO hP159 E156 zx
   have hT8 := hT8.keepO hP159 E156 zx
   have hB14 := hB14.keepO hP159 E156 zz
   have hx4 := hx4.keepO hP159 E156 zz
   have htc9 := htc9.keepO hP159 E156 zx
   have hc104 := hc104.keepO hP159 E156 zx
   have hk104 := hk104.keepO hP159 E156 zx
   have hxl := hxl.keepO hP159 E156 zz
   have hk138 := hk138.keepG (Gr.of E156) (hk138.notOwn hP159 zz).symm
   have hb := hb.stepO hP159 E156 zx
   have hO157 : Own w155 w124.heap.size 28 7 v154 (V.length + 1) (((V ++ [(XE.mk 1 (if ((D8.getD r9 default).t.cols.getD i default).kind = 2 then (2 : Int) else 1) vi138 vs138 [] [] (.slice none 0 0) [])])).flatMap cellsX) := by simpa [u8v, u16v, sv, cellsI, cellsX, XE.op, XE.vk, XE.vi, XE.vt, XE.tb, XE.nm, XE.av] using hO157
   refine kt_end rfl ⟨htc9, hxl, hx4⟩ ?_
   intro w161 E161 a161 hN161 hd161 hbs161 hph161
   have hd161 := hd161.trans ((by simp only [putsL_defers] : _ = _).trans hd128)
   have := E161.size
   have hbl := hbl.keep0 E161
   have hR8 := hR8.keep0 E161
   have hT8 := hT8.keep0 E161
   have htc9 := htc9.keep0 E161
   have hc104 := hc104.keep0 E161
   have hk104 := hk104.keep0 E161
   obtain ⟨hB5, hB14, hx4, hxl⟩ := kb4 E161 hB5 hB14 hx4 hxl
   have hk138 := hk138.keepG (zi E161 NoB) (fun _ _ h => h)
   have hO157 := hO157.keep0 E161
   have hb := hb.step0 E161
   have s161_0 := (hbs161 0 rfl).trans (zL hN128 rfl s128_0)
   have s161_2 := (hbs161 2 rfl).trans (zL hN128 rfl s128_2)
   have s161_3 := (hbs161 3 rfl).trans (zL hN128 rfl s128_3)
   have s161_4 := (hbs161 4 rfl).trans (zL hN128 rfl s128_4)
   have s161_7 := (hbs161 7 rfl).trans (zL hN128 rfl s128_7)
   have s161_8 := (hbs161 8 rfl).trans (zL hN128 rfl s128_8)
   have s161_50 : Sl a161 50 v154 := (zE ((hph161 12 _ 50 rfl rfl).1 rfl)).symm
   refine split_end ?_
   refine from_seq (tl := [_, _]) zz zy rfl ?_
   refine zM fld45_5 (zC hN161 rfl s161_7) ?_
   have hxl_old := hxl
   refine za (vs := [v154]) (cs' := [(.int .i64 5), (.string (bs (D8.getD r9 default).t.nm)), (.string (bs [])), (.slice none 0 0), (.slice none 0 0), v154, (.slice none 0 0), (.string (bs [])), (.slice none 0 0), (.slice none 0 0), (.slice none 0 0), (.bool false), (.slice none 0 0)]) size26 (zA hN161 rfl) (zC hN161 rfl s161_50) hO157.cl rfl (by simp only [List.all_cons, List.all_nil, Bool.true_and, Bool.and_true, hO157.one]; try rfl) hxl (zI rfl) rfl ?_
   intro w164 hxl E165
   have := E165.size
   have hbl := hbl.keep E165 sR
   have hB5 := hB5.keep E165 sB
   have hR8 := hR8.keep E165 sO
   have hT8 := hT8.keep E165 sO
   have hB14 := hB14.keep E165 (sN hB14 hxl_old)
   have hx4 := hx4.keep E165 (sN hx4 hxl_old)
   have htc9 := htc9.keep E165 sO
   have hc104 := hc104.keep E165 sO
   have hk104 := hk104.keep E165 sO
   have hk138 := hk138.keepG (Gr.of E165) (Dj.one dj121)
   have hO157 := hO157.keepX hxl_old E165 zz
   have hb := hb.step1 E165 zx
   refine zB ?_
   refine hK132 _ _ (zH ?_)
   refine zG (zC hN161 rfl s161_8) ?_
   refine op_add (zA hN161 rfl) rfl (add64 zx) ?_
   refine zD (zA hN161 rfl) ?_
   refine zB ?_
   -- round 24T 35T
   exact zg _ hN161 hd161 ⟨(i + 1), n138, v154, (V ++ [(XE.mk 1 (if ((D8.getD r9 default).t.cols.getD i default).kind = 2 then (2 : Int) else 1) vi138 vs138 [] [] (.slice none 0 0) [])]), rfl, (zL hN161 rfl s161_0), (zL hN161 rfl s161_2), (zL hN161 rfl s161_3), (zL hN161 rfl s161_4), (zL hN161 rfl s161_7), (zU hN161 rfl).trans (congrArg (Value.int .i64) zx), zx, (by simp; omega), (fun a ha => (List.mem_append.1 ha).elim (hV a) fun h => by rw [List.mem_singleton] at h; subst h; exact ⟨rfl, rfl⟩), zx, hb, zx, hbl, hB5, hR8, hT8, hB14, hx4, htc9, hc104, hk104, hxl, hk138, (hO157.cast (by simp) rfl)⟩ zx
  refine zB ?_
  refine hK131 _ _ (wp_cond_false (zA hN128 rfl) (wp_exit (then_exit (then_exit (blk_hit ?_)))))
  refine hK126 _ _ (zF fun K166 hK166 => ?_)
  refine zH ?_
  refine zY agg45 rfl (zC hN128 rfl s128_7) hxl ?_
  have hB5_old := hB5
  refine zZ size45 (zC hN128 rfl s128_2) (zA hN128 rfl) rfl (by simp only [List.all_cons, List.all_nil, Bool.true_and, Bool.and_true, hO129.one]; try rfl) hB5 rfl ?_
  intro w169 hB5 E170
  have := E170.size
  have hc104 := hc104.keep E170 sO
  have hpk := hpk.keepG (Gr.of E170) (Dj.one dj6)
  have hO129 := hO129.keepX hB5_old E170 zz
  have hb := hb.step1 E170 zx
  refine zB ?_
  refine hK166 _ _ (wp_ret (zb (zO ( ?_))))
  refine retC rfl hd128 (zC hN128 rfl s128_2) agg45 rfl hB5 ⟨_, rfl, ?_⟩
  exact ⟨hb, XS.mk (StF.mk 5 ((D8.getD r9 default).t.nm) [] (.slice none 0 0) [] (.slice none 0 0) [] lv2 V (.slice none 0 0) [] [] (.slice none 0 0) [] (.slice none 0 0) [] (.slice none 0 0) [] false) (.slice none 0 0) [], rfl, SFr.flat ⟨(rdN _ _ _ _), (rdN _ _ _ _), ⟨hO129.rdw.mono zx zx, fun a ha => .leaf (hV a ha).1 (hV a ha).2⟩, (rdN _ _ _ _), (XsFr.nil _ _ _), (XsFr.nil _ _ _), (XsFr.nil _ _ _)⟩ rfl rfl, n2, hpk, by omega, fun h9 => by omega⟩
 refine zF fun K171 hK171 => ?_
 refine zH ?_
 refine op_eql (zC hN112 rfl s112_23) rfl (fun c54 => ?_) (fun c54 => ?_)
 ·
  refine zD (zA hN112 rfl) ?_
  refine zB ?_
  refine hK171 _ _ (wp_cond_true (zA hN112 rfl) ?_)
  refine seq_join1 (N := 97) (fun az_ w' => ∃ (b9 : Nat) (bl9 : Nat) (e9 : XE) (L9 B9 n9 : Nat), (az_.tmps.getD 0 undef = (ptr p 0)) ∧ (az_.tmps.getD 2 undef = (ptr b3 0)) ∧ (az_.tmps.getD 3 undef = (ptr b12 0)) ∧ (az_.tmps.getD 4 undef = (ptr b4 0)) ∧ (az_.tmps.getD 5 undef = av104) ∧ (az_.tmps.getD 6 undef = bv104) ∧ (az_.tmps.getD 9 undef = (ptr b9 0)) ∧ (n ≤ n9 ∧ (n < bl.length → n < n9)) ∧ (b3 < L9 ∧ p < L9 ∧ w.heap.size ≤ L9 ∧ B9 ≤ w'.heap.size ∧ (b9 < L9 ∨ B9 ≤ b9)) ∧ (w112.heap.size ≤ bl9) ∧ (bl9 < w'.heap.size) ∧ (w112.heap.size ≤ b9) ∧ (b9 < w'.heap.size) ∧ (Gr w w' (fun k => k = p)) ∧ (w112.heap.size ≤ w'.heap.size) ∧ (RdC w' 0 Bp 1 lv bl.length (bl.map u8v)) ∧ (Bx w' b3 45 [(.int .i64 0), (.string (bs [])), (.string (bs [])), (.slice none 0 0), (.slice none 0 0), (.slice none 0 0), (.slice none 0 0), (.string (bs [])), (.slice none 0 0), (.slice none 0 0), (.slice none 0 0), (.bool false), (.slice none 0 0)]) ∧ (RdC w' w2.heap.size w9.heap.size 3 tv8 D8.length (D8.flatMap cellsT)) ∧ (TsFr w' w2.heap.size w9.heap.size tv8 D8) ∧ (Bx w' b12 39 [tv8, (.slice none 0 0)]) ∧ (Bx w' b4 55 [(.string (bs (D8.getD r9 default).t.nm)), (D8.getD r9 default).cv, (D8.getD r9 default).iv]) ∧ (RdC w' w2.heap.size w9.heap.size 3 (D8.getD r9 default).cv ((D8.getD r9 default).t.cols).length (((D8.getD r9 default).t.cols).flatMap cellsC)) ∧ (RdC w' w20.heap.size w105.heap.size 3 av104 (colsOf ((D8.getD r9 default).t.nm) ((D8.getD r9 default).t.cols)).length ((colsOf ((D8.getD r9 default).t.nm) ((D8.getD r9 default).t.cols)).flatMap cellsI)) ∧ (RdC w' w20.heap.size w105.heap.size 1 bv104 (kindsOf ((D8.getD r9 default).t.cols)).length ((kindsOf ((D8.getD r9 default).t.cols)).map (Value.int .i64))) ∧ (Bx w' b9 45 [(.int .i64 7), (.string (bs (D8.getD r9 default).t.nm)), (.string (bs [110])), (.slice none 0 0), (.slice none 0 0), (.slice (some ⟨bl9, 0, none⟩) 1 1), (.slice none 0 0), (.string (bs [])), (.slice none 0 0), (.slice none 0 0), (.slice none 0 0), (.bool false), (.slice none 0 0)]) ∧ (Bx w' bl9 28 [(.int .i64 e9.op), (.int .i64 e9.vk), (.int .i64 e9.vi), (.string (bs e9.vt)), (.string (bs e9.tb)), (.string (bs e9.nm)), e9.av]) ∧ (XFr w' L9 B9 e9) ∧ (PickR w' base p lv bl n9 (fun k => k = p))) (fun hJ172 => ?_) ?_
  ·
   refine zF fun K173 hK173 => ?_
   refine reg_split (hd := [_, _, _, _, _, _, _, _, _]) (tl := _) 9 mixed zy rfl rfl ?_
   refine any_tree (φ := phiV [(fun uz => uz = (ptr b4 0)), (fun uz => uz = (.string (bs (D8.getD r9 default).t.nm))), (fun uz => uz = (ptr p 0)), (fun uz => uz = av104), (fun uz => uz = bv104), (fun _ => True), (fun _ => True), (fun _ => True), (fun _ => True)]) (G := fun w' => Bx w' b4 55 [(.string (bs (D8.getD r9 default).t.nm)), (D8.getD r9 default).cv, (D8.getD r9 default).iv]) [5, 6, 7, 8] zy zy zy zy zy hN112 (fun w1 w2 E h => h.keep0 E) hx4 (ObRs9.cons ?_ (ObRs9.cons ?_ (ObRs9.cons ?_ (ObRs9.cons ?_ (ObRs9.cons ?_ (ObRs9.pass rfl (ObRs9.pass rfl (ObRs9.pass rfl (ObRs9.pass rfl (ObRs9.nil)))))))))) (by simp only [putsL_defers]) ?_
   ·
    intro eA aA wA hNA hGA hbsA hdpA
    have qA_4 := (hbsA 4 rfl).trans (zL hN112 rfl s112_4)
    refine zM fld55_0 (zC hNA rfl qA_4) ?_
    exact obT_end rfl rfl
   ·
    intro eA aA wA hNA hGA hbsA hdpA
    have qA_55 : Sl aA 55 (ptr b4 0) := (hdpA 0 _ 55 zy rfl rfl).2 rfl
    refine zN (v := (Value.string (bs (D8.getD r9 default).t.nm))) one9 (zC hNA rfl qA_55) (hGA.cell rfl) ?_
    exact obT_end rfl rfl
   ·
    intro eA aA wA hNA hGA hbsA hdpA
    have qA_0 := (hbsA 0 rfl).trans (zL hN112 rfl s112_0)
    refine zG (zC hNA rfl qA_0) ?_
    exact obT_end rfl rfl
   ·
    intro eA aA wA hNA hGA hbsA hdpA
    have qA_5 := (hbsA 5 rfl).trans (zL hN112 rfl s112_5)
    refine zG (zC hNA rfl qA_5) ?_
    exact obT_end rfl rfl
   ·
    intro eA aA wA hNA hGA hbsA hdpA
    have qA_6 := (hbsA 6 rfl).trans (zL hN112 rfl s112_6)
    refine zG (zC hNA rfl qA_6) ?_
    exact obT_end rfl rfl
   refine kt_step (rs := [5, 8]) zy ?_
   refine more_mem ?_ ?_
   ·
    intro w175 E175 _ a175 hN175 hbs175 hdp175 o_ ho_; obtain rfl := zE ho_
    have := E175.size
    have hbl := hbl.keep0 E175
    have hR8 := hR8.keep0 E175
    have hT8 := hT8.keep0 E175
    have htc9 := htc9.keep0 E175
    have hc104 := hc104.keep0 E175
    have hk104 := hk104.keep0 E175
    obtain ⟨hB5, hB14, hx4⟩ := kb3 E175 hB5 hB14 hx4
    have hk109 := hk109.keepG (zi E175 NoB) (fun _ _ h => h)
    have hb := hb.step0 E175
    have q175_57 : Sl a175 57 (ptr p 0) := (hdp175 2 _ 57 zy rfl rfl).2 rfl
    have q175_58 : Sl a175 58 av104 := (hdp175 3 _ 58 zy rfl rfl).2 rfl
    have q175_59 : Sl a175 59 bv104 := (hdp175 4 _ 59 zy rfl rfl).2 rfl
    refine ze (vs := [(ptr p 0), av104, bv104, (.int .i64 1), (.int .i64 1)]) ok22 ⟨(zC hN175 rfl q175_57), ⟨(zC hN175 rfl q175_58), ⟨(zC hN175 rfl q175_59), ⟨rfl, ⟨rfl, trivial⟩⟩⟩⟩⟩ (hEx9 _ (kd := 1) (deep := 1) rfl hk109 zx hbl (C := (colsOf ((D8.getD r9 default).t.nm) ((D8.getD r9 default).t.cols))) (K := (kindsOf ((D8.getD r9 default).t.cols))) hc104 hk104 zx zx zx zx zx zx zx) ?_
    rintro _ w177 ⟨E178, e176, rfl, he176, hg176, n176, hk176, hn176⟩
    have hk109_old := hk109
    have := E178.size
    have hbl := hbl.keepG E178 (fun k hk => .inr (by have := hk109_old.lt k hk; omega))
    have hB5 := hB5.keepG E178 dj6
    have hR8 := hR8.keepG E178 sP
    have hT8 := hT8.keepG E178 sP
    have hB14 := hB14.keepG E178 dj15
    have hx4 := hx4.keepG E178 (hk109_old.notBx hx4 zz)
    have htc9 := htc9.keepG E178 sP
    have hc104 := hc104.keepG E178 sP
    have hk104 := hk104.keepG E178 sP
    have hb := hb.stepF E178 (fun _ _ h => h)
    refine kt_end rfl hx4 ?_
    refine kt_step (rs := [6, 8]) zy ?_
    refine more_mem ?_ ?_
    ·
     intro w180 E180 _ a180 hN180 hbs180 hdp180 o_ ho_; obtain rfl := zE ho_
     have := E180.size
     have hbl := hbl.keep0 E180
     have hR8 := hR8.keep0 E180
     have hT8 := hT8.keep0 E180
     have htc9 := htc9.keep0 E180
     have hc104 := hc104.keep0 E180
     have hk104 := hk104.keep0 E180
     obtain ⟨hB5, hB14, hx4⟩ := kb3 E180 hB5 hB14 hx4
     have hk176 := hk176.keepG (zi E180 NoB) (fun _ _ h => h)
     have he176 := he176.keep0 E180
     have hb := hb.step0 E180
     have q180_60 : Sl a180 60 (.agg #[(.int .i64 e176.op), (.int .i64 e176.vk), (.int .i64 e176.vi), (.string (bs e176.vt)), (.string (bs e176.tb)), (.string (bs e176.nm)), e176.av]) := (zE ((hdp180 5 _ 60 zy rfl rfl).1 rfl)).symm
     refine op_bslice (e := 28) (pv := [(0, (.agg #[(.int .i64 e176.op), (.int .i64 e176.vk), (.int .i64 e176.vi), (.string (bs e176.vt)), (.string (bs e176.tb)), (.string (bs e176.nm)), e176.av]))]) (cs := [(.int .i64 e176.op), (.int .i64 e176.vk), (.int .i64 e176.vi), (.string (bs e176.vt)), (.string (bs e176.tb)), (.string (bs e176.nm)), e176.av]) ⟨rfl, (zC hN180 rfl q180_60), trivial⟩ zy ?_
     intro w181 b182 lo_b182 hi_b182 hB184 E183
     have dj185 : ¬ (fun k => k = p) b182 := fun hf => by have := (hk176.lt _ hf).2; omega
     have := E183.size
     have hbl := hbl.keep0 E183
     have hR8 := hR8.keep0 E183
     have hT8 := hT8.keep0 E183
     have htc9 := htc9.keep0 E183
     have hc104 := hc104.keep0 E183
     have hk104 := hk104.keep0 E183
     obtain ⟨hB5, hB14, hx4⟩ := kb3 E183 hB5 hB14 hx4
     have hk176 := hk176.keepG (zi E183 NoB) (fun _ _ h => h)
     have he176 := he176.keep0 E183
     have hb := hb.step0 E183
     refine kt_end rfl hx4 ?_
     refine kt_step (rs := [7, 8]) zy ?_
     refine more_mem ?_ ?_
     ·
      intro w187 E187 _ a187 hN187 hbs187 hdp187 o_ ho_; obtain rfl := zE ho_
      have := E187.size
      have hbl := hbl.keep0 E187
      have hR8 := hR8.keep0 E187
      have hT8 := hT8.keep0 E187
      have htc9 := htc9.keep0 E187
      have hc104 := hc104.keep0 E187
      have hk104 := hk104.keep0 E187
      obtain ⟨hB5, hB14, hx4⟩ := kb3 E187 hB5 hB14 hx4
      have hk176 := hk176.keepG (zi E187 NoB) (fun _ _ h => h)
      have he176 := he176.keep0 E187
      have hB184 := hB184.keep0 E187
      have hb := hb.step0 E187
      have q187_56 : Sl a187 56 (.string (bs (D8.getD r9 default).t.nm)) := (hdp187 1 _ 56 zy rfl rfl).2 rfl
      have q187_61 : Sl a187 61 (.slice (some ⟨b182, 0, none⟩) 1 1) := (zE ((hdp187 6 _ 61 zy rfl rfl).1 rfl)).symm
      refine zf (pv := [(0, (.int .i64 7)), (1, (.string (bs (D8.getD r9 default).t.nm))), (2, (.string (bs [110]))), (5, (.slice (some ⟨b182, 0, none⟩) 1 1))]) (v := (Value.agg #[(.int .i64 7), (.string (bs (D8.getD r9 default).t.nm)), (.string (bs [110])), (.slice none 0 0), (.slice none 0 0), (.slice (some ⟨b182, 0, none⟩) 1 1), (.slice none 0 0), (.string (bs [])), (.slice none 0 0), (.slice none 0 0), (.slice none 0 0), (.bool false), (.slice none 0 0)])) ⟨rfl, rfl, ⟨rfl, (zC hN187 rfl q187_56), ⟨rfl, rfl, ⟨rfl, (zC hN187 rfl q187_61), trivial⟩⟩⟩⟩ zy ?_
      refine kt_end rfl hx4 ?_
      refine kt_step (rs := [8]) zy ?_
      refine one_mem ?_
      intro w189 E189 _ a189 hN189 hbs189 hdp189 o_ ho_; obtain rfl := zE ho_
      have := E189.size
      have hbl := hbl.keep0 E189
      have hR8 := hR8.keep0 E189
      have hT8 := hT8.keep0 E189
      have htc9 := htc9.keep0 E189
      have hc104 := hc104.keep0 E189
      have hk104 := hk104.keep0 E189
      obtain ⟨hB5, hB14, hx4⟩ := kb3 E189 hB5 hB14 hx4
      have hk176 := hk176.keepG (zi E189 NoB) (fun _ _ h => h)
      have he176 := he176.keep0 E189
      have hB184 := hB184.keep0 E189
      have hb := hb.step0 E189
      refine op_alloc (cs := [(.int .i64 0), (.string (bs [])), (.string (bs [])), (.slice none 0 0), (.slice none 0 0), (.slice none 0 0), (.slice none 0 0), (.string (bs [])), (.slice none 0 0), (.slice none 0 0), (.slice none 0 0), (.bool false), (.slice none 0 0)]) zero45 rfl ?_
      intro w190 b191 lo_b191 hi_b191 hB193 E192
      have dj194 : ¬ (fun k => k = p) b191 := fun hf => by have := (hk176.lt _ hf).2; omega
      have := E192.size
      have hbl := hbl.keep0 E192
      have hR8 := hR8.keep0 E192
      have hT8 := hT8.keep0 E192
      have htc9 := htc9.keep0 E192
      have hc104 := hc104.keep0 E192
      have hk104 := hk104.keep0 E192
      obtain ⟨hB5, hB14, hx4⟩ := kb3 E192 hB5 hB14 hx4
      have hk176 := hk176.keepG (zi E192 NoB) (fun _ _ h => h)
      have he176 := he176.keep0 E192
      have hB184 := hB184.keep0 E192
      have hb := hb.step0 E192
      refine kt_end rfl hx4 ?_
      intro w195 E195 a195 hN195 hd195 hbs195 hph195
      have hd195 := hd195.trans ((by simp only [putsL_defers] : _ = _).trans hd112)
      have := E195.size
      have hbl := hbl.keep0 E195
      have hR8 := hR8.keep0 E195
      have hT8 := hT8.keep0 E195
      have htc9 := htc9.keep0 E195
      have hc104 := hc104.keep0 E195
      have hk104 := hk104.keep0 E195
      obtain ⟨hB5, hB14, hx4⟩ := kb3 E195 hB5 hB14 hx4
      have hk176 := hk176.keepG (zi E195 NoB) (fun _ _ h => h)
      have he176 := he176.keep0 E195
      obtain ⟨hB184, hB193⟩ := kb2 E195 hB184 hB193
      have hb := hb.step0 E195
      have s195_0 := (hbs195 0 rfl).trans (zL hN112 rfl s112_0)
      have s195_2 := (hbs195 2 rfl).trans (zL hN112 rfl s112_2)
      have s195_3 := (hbs195 3 rfl).trans (zL hN112 rfl s112_3)
      have s195_4 := (hbs195 4 rfl).trans (zL hN112 rfl s112_4)
      have s195_5 := (hbs195 5 rfl).trans (zL hN112 rfl s112_5)
      have s195_6 := (hbs195 6 rfl).trans (zL hN112 rfl s112_6)
      have s195_9 : Sl a195 9 (ptr b191 0) := (zE ((hph195 8 _ 9 rfl rfl).1 rfl)).symm
      have s195_62 : Sl a195 62 (.agg #[(.int .i64 7), (.string (bs (D8.getD r9 default).t.nm)), (.string (bs [110])), (.slice none 0 0), (.slice none 0 0), (.slice (some ⟨b182, 0, none⟩) 1 1), (.slice none 0 0), (.string (bs [])), (.slice none 0 0), (.slice none 0 0), (.slice none 0 0), (.bool false), (.slice none 0 0)]) := (zE ((hph195 7 _ 62 rfl rfl).1 rfl)).symm
      refine split_end ?_
      refine from_seq (tl := [_]) zz zy rfl ?_
      have hB193_old := hB193
      refine zZ size45 (zC hN195 rfl s195_9) (zC hN195 rfl s195_62) rfl rfl hB193 rfl ?_
      intro w198 hB193 E199
      have := E199.size
      have hbl := hbl.keep E199 sR
      have hB5 := hB5.keep E199 sB
      have hR8 := hR8.keep E199 sO
      have hT8 := hT8.keep E199 sO
      have hB14 := hB14.keep E199 (sN hB14 hB193_old)
      have hx4 := hx4.keep E199 (sN hx4 hB193_old)
      have htc9 := htc9.keep E199 sO
      have hc104 := hc104.keep E199 sO
      have hk104 := hk104.keep E199 sO
      have hk176 := hk176.keepG (Gr.of E199) (Dj.one dj194)
      have he176 := he176.keep E199 sO
      have hB184 := hB184.keep E199 (sN hB184 hB193_old)
      have hb := hb.step1 E199 zx
      refine zB ?_
      refine hK173 _ _ ?_
      exact hJ172 _ _ _ hN195 hd195 ⟨b191, b182, e176, w175.heap.size, w177.heap.size, n176, (zL hN195 rfl s195_0), (zL hN195 rfl s195_2), (zL hN195 rfl s195_3), (zL hN195 rfl s195_4), (zL hN195 rfl s195_5), (zL hN195 rfl s195_6), (zL hN195 rfl s195_9), zx, (by have h9 := hB193.lt; omega), zx, hB184.lt, zx, hB193.lt, hb, zx, hbl, hB5, hR8, hT8, hB14, hx4, htc9, hc104, hk104, hB193, hB184, he176, hk176⟩
     refine one_mem ?_
     intro w200 E200 _ a200 hN200 hbs200 hdp200 o_ ho_; obtain rfl := zE ho_
     have := E200.size
     have hbl := hbl.keep0 E200
     have hR8 := hR8.keep0 E200
     have hT8 := hT8.keep0 E200
     have htc9 := htc9.keep0 E200
     have hc104 := hc104.keep0 E200
     have hk104 := hk104.keep0 E200
     obtain ⟨hB5, hB14, hx4⟩ := kb3 E200 hB5 hB14 hx4
     have hk176 := hk176.keepG (zi E200 NoB) (fun _ _ h => h)
     have he176 := he176.keep0 E200
     have hB184 := hB184.keep0 E200
     have hb := hb.step0 E200
     refine op_alloc (cs := [(.int .i64 0), (.string (bs [])), (.string (bs [])), (.slice none 0 0), (.slice none 0 0), (.slice none 0 0), (.slice none 0 0), (.string (bs [])), (.slice none 0 0), (.slice none 0 0), (.slice none 0 0), (.bool false), (.slice none 0 0)]) zero45 rfl ?_
     intro w201 b202 lo_b202 hi_b202 hB204 E203
     have dj205 : ¬ (fun k => k = p) b202 := fun hf => by have := (hk176.lt _ hf).2; omega
     have := E203.size
     have hbl := hbl.keep0 E203
     have hR8 := hR8.keep0 E203
     have hT8 := hT8.keep0 E203
     have htc9 := htc9.keep0 E203
     have hc104 := hc104.keep0 E203
     have hk104 := hk104.keep0 E203
     obtain ⟨hB5, hB14, hx4⟩ := kb3 E203 hB5 hB14 hx4
     have hk176 := hk176.keepG (zi E203 NoB) (fun _ _ h => h)
     have he176 := he176.keep0 E203
     have hB184 := hB184.keep0 E203
     have hb := hb.step0 E203
     refine kt_end rfl hx4 ?_
     refine kt_step (rs := [7]) zy ?_
     refine one_mem ?_
     intro w207 E207 _ a207 hN207 hbs207 hdp207 o_ ho_; obtain rfl := zE ho_
     have := E207.size
     have hbl := hbl.keep0 E207
     have hR8 := hR8.keep0 E207
     have hT8 := hT8.keep0 E207
     have htc9 := htc9.keep0 E207
     have hc104 := hc104.keep0 E207
     have hk104 := hk104.keep0 E207
     obtain ⟨hB5, hB14, hx4⟩ := kb3 E207 hB5 hB14 hx4
     have hk176 := hk176.keepG (zi E207 NoB) (fun _ _ h => h)
     have he176 := he176.keep0 E207
     obtain ⟨hB184, hB204⟩ := kb2 E207 hB184 hB204
     have hb := hb.step0 E207
     have q207_56 : Sl a207 56 (.string (bs (D8.getD r9 default).t.nm)) := (hdp207 1 _ 56 zy rfl rfl).2 rfl
     have q207_61 : Sl a207 61 (.slice (some ⟨b182, 0, none⟩) 1 1) := (zE ((hdp207 6 _ 61 zy rfl rfl).1 rfl)).symm
     refine zf (pv := [(0, (.int .i64 7)), (1, (.string (bs (D8.getD r9 default).t.nm))), (2, (.string (bs [110]))), (5, (.slice (some ⟨b182, 0, none⟩) 1 1))]) (v := (Value.agg #[(.int .i64 7), (.string (bs (D8.getD r9 default).t.nm)), (.string (bs [110])), (.slice none 0 0), (.slice none 0 0), (.slice (some ⟨b182, 0, none⟩) 1 1), (.slice none 0 0), (.string (bs [])), (.slice none 0 0), (.slice none 0 0), (.slice none 0 0), (.bool false), (.slice none 0 0)])) ⟨rfl, rfl, ⟨rfl, (zC hN207 rfl q207_56), ⟨rfl, rfl, ⟨rfl, (zC hN207 rfl q207_61), trivial⟩⟩⟩⟩ zy ?_
     refine kt_end rfl hx4 ?_
     intro w208 E208 a208 hN208 hd208 hbs208 hph208
     have hd208 := hd208.trans ((by simp only [putsL_defers] : _ = _).trans hd112)
     have := E208.size
     have hbl := hbl.keep0 E208
     have hR8 := hR8.keep0 E208
     have hT8 := hT8.keep0 E208
     have htc9 := htc9.keep0 E208
     have hc104 := hc104.keep0 E208
     have hk104 := hk104.keep0 E208
     obtain ⟨hB5, hB14, hx4⟩ := kb3 E208 hB5 hB14 hx4
     have hk176 := hk176.keepG (zi E208 NoB) (fun _ _ h => h)
     have he176 := he176.keep0 E208
     obtain ⟨hB184, hB204⟩ := kb2 E208 hB184 hB204
     have hb := hb.step0 E208
     have s208_0 := (hbs208 0 rfl).trans (zL hN112 rfl s112_0)
     have s208_2 := (hbs208 2 rfl).trans (zL hN112 rfl s112_2)
     have s208_3 := (hbs208 3 rfl).trans (zL hN112 rfl s112_3)
     have s208_4 := (hbs208 4 rfl).trans (zL hN112 rfl s112_4)
     have s208_5 := (hbs208 5 rfl).trans (zL hN112 rfl s112_5)
     have s208_6 := (hbs208 6 rfl).trans (zL hN112 rfl s112_6)
     have s208_9 : Sl a208 9 (ptr b202 0) := (zE ((hph208 8 _ 9 rfl rfl).1 rfl)).symm
     have s208_62 : Sl a208 62 (.agg #[(.int .i64 7), (.string (bs (D8.getD r9 default).t.nm)), (.string (bs [110])), (.slice none 0 0), (.slice none 0 0), (.slice (some ⟨b182, 0, none⟩) 1 1), (.slice none 0 0), (.string (bs [])), (.slice none 0 0), (.slice none 0 0), (.slice none 0 0), (.bool false), (.slice none 0 0)]) := (zE ((hph208 7 _ 62 rfl rfl).1 rfl)).symm
     refine split_end ?_
     refine from_seq (tl := [_]) zz zy rfl ?_
     have hB204_old := hB204
     refine zZ size45 (zC hN208 rfl s208_9) (zC hN208 rfl s208_62) rfl rfl hB204 rfl ?_
     intro w211 hB204 E212
     have := E212.size
     have hbl := hbl.keep E212 sR
     have hB5 := hB5.keep E212 sB
     have hR8 := hR8.keep E212 sO
     have hT8 := hT8.keep E212 sO
     have hB14 := hB14.keep E212 (sN hB14 hB204_old)
     have hx4 := hx4.keep E212 (sN hx4 hB204_old)
     have htc9 := htc9.keep E212 sO
     have hc104 := hc104.keep E212 sO
     have hk104 := hk104.keep E212 sO
     have hk176 := hk176.keepG (Gr.of E212) (Dj.one dj205)
     have he176 := he176.keep E212 sO
     have hB184 := hB184.keep E212 (sN hB184 hB204_old)
     have hb := hb.step1 E212 zx
     refine zB ?_
     refine hK173 _ _ ?_
     exact hJ172 _ _ _ hN208 hd208 ⟨b202, b182, e176, w175.heap.size, w177.heap.size, n176, (zL hN208 rfl s208_0), (zL hN208 rfl s208_2), (zL hN208 rfl s208_3), (zL hN208 rfl s208_4), (zL hN208 rfl s208_5), (zL hN208 rfl s208_6), (zL hN208 rfl s208_9), zx, (by have h9 := hB204.lt; omega), zx, hB184.lt, zx, hB204.lt, hb, zx, hbl, hB5, hR8, hT8, hB14, hx4, htc9, hc104, hk104, hB204, hB184, he176, hk176⟩
    refine one_mem ?_
    intro w213 E213 _ a213 hN213 hbs213 hdp213 o_ ho_; obtain rfl := zE ho_
    have := E213.size
    have hbl := hbl.keep0 E213
    have hR8 := hR8.keep0 E213
    have hT8 := hT8.keep0 E213
    have htc9 := htc9.keep0 E213
    have hc104 := hc104.keep0 E213
    have hk104 := hk104.keep0 E213
    obtain ⟨hB5, hB14, hx4⟩ := kb3 E213 hB5 hB14 hx4
    have hk176 := hk176.keepG (zi E213 NoB) (fun _ _ h => h)
    have he176 := he176.keep0 E213
    have hb := hb.step0 E213
    refine op_alloc (cs := [(.int .i64 0), (.string (bs [])), (.string (bs [])), (.slice none 0 0), (.slice none 0 0), (.slice none 0 0), (.slice none 0 0), (.string (bs [])), (.slice none 0 0), (.slice none 0 0), (.slice none 0 0), (.bool false), (.slice none 0 0)]) zero45 rfl ?_
    intro w214 b215 lo_b215 hi_b215 hB217 E216
    have dj218 : ¬ (fun k => k = p) b215 := fun hf => by have := (hk176.lt _ hf).2; omega
    have := E216.size
    have hbl := hbl.keep0 E216
    have hR8 := hR8.keep0 E216
    have hT8 := hT8.keep0 E216
    have htc9 := htc9.keep0 E216
    have hc104 := hc104.keep0 E216
    have hk104 := hk104.keep0 E216
    obtain ⟨hB5, hB14, hx4⟩ := kb3 E216 hB5 hB14 hx4
    have hk176 := hk176.keepG (zi E216 NoB) (fun _ _ h => h)
    have he176 := he176.keep0 E216
    have hb := hb.step0 E216
    refine kt_end rfl hx4 ?_
    refine kt_step (rs := [6]) zy ?_
    refine one_mem ?_
    intro w220 E220 _ a220 hN220 hbs220 hdp220 o_ ho_; obtain rfl := zE ho_
    have := E220.size
    have hbl := hbl.keep0 E220
    have hR8 := hR8.keep0 E220
    have hT8 := hT8.keep0 E220
    have htc9 := htc9.keep0 E220
    have hc104 := hc104.keep0 E220
    have hk104 := hk104.keep0 E220
    obtain ⟨hB5, hB14, hx4⟩ := kb3 E220 hB5 hB14 hx4
    have hk176 := hk176.keepG (zi E220 NoB) (fun _ _ h => h)
    have he176 := he176.keep0 E220
    have hB217 := hB217.keep0 E220
    have hb := hb.step0 E220
    have q220_60 : Sl a220 60 (.agg #[(.int .i64 e176.op), (.int .i64 e176.vk), (.int .i64 e176.vi), (.string (bs e176.vt)), (.string (bs e176.tb)), (.string (bs e176.nm)), e176.av]) := (zE ((hdp220 5 _ 60 zy rfl rfl).1 rfl)).symm
    refine op_bslice (e := 28) (pv := [(0, (.agg #[(.int .i64 e176.op), (.int .i64 e176.vk), (.int .i64 e176.vi), (.string (bs e176.vt)), (.string (bs e176.tb)), (.string (bs e176.nm)), e176.av]))]) (cs := [(.int .i64 e176.op), (.int .i64 e176.vk), (.int .i64 e176.vi), (.string (bs e176.vt)), (.string (bs e176.tb)), (.string (bs e176.nm)), e176.av]) ⟨rfl, (zC hN220 rfl q220_60), trivial⟩ zy ?_
    intro w221 b222 lo_b222 hi_b222 hB224 E223
    have dj225 : ¬ (fun k => k = p) b222 := fun hf => by have := (hk176.lt _ hf).2; omega
    have := E223.size
    have hbl := hbl.keep0 E223
    have hR8 := hR8.keep0 E223
    have hT8 := hT8.keep0 E223
    have htc9 := htc9.keep0 E223
    have hc104 := hc104.keep0 E223
    have hk104 := hk104.keep0 E223
    obtain ⟨hB5, hB14, hx4⟩ := kb3 E223 hB5 hB14 hx4
    have hk176 := hk176.keepG (zi E223 NoB) (fun _ _ h => h)
    have he176 := he176.keep0 E223
    have hB217 := hB217.keep0 E223
    have hb := hb.step0 E223
    refine kt_end rfl hx4 ?_
    refine kt_step (rs := [7]) zy ?_
    refine one_mem ?_
    intro w227 E227 _ a227 hN227 hbs227 hdp227 o_ ho_; obtain rfl := zE ho_
    have := E227.size
    have hbl := hbl.keep0 E227
    have hR8 := hR8.keep0 E227
    have hT8 := hT8.keep0 E227
    have htc9 := htc9.keep0 E227
    have hc104 := hc104.keep0 E227
    have hk104 := hk104.keep0 E227
    obtain ⟨hB5, hB14, hx4⟩ := kb3 E227 hB5 hB14 hx4
    have hk176 := hk176.keepG (zi E227 NoB) (fun _ _ h => h)
    have he176 := he176.keep0 E227
    obtain ⟨hB217, hB224⟩ := kb2 E227 hB217 hB224
    have hb := hb.step0 E227
    have q227_56 : Sl a227 56 (.string (bs (D8.getD r9 default).t.nm)) := (hdp227 1 _ 56 zy rfl rfl).2 rfl
    have q227_61 : Sl a227 61 (.slice (some ⟨b222, 0, none⟩) 1 1) := (zE ((hdp227 6 _ 61 zy rfl rfl).1 rfl)).symm
    refine zf (pv := [(0, (.int .i64 7)), (1, (.string (bs (D8.getD r9 default).t.nm))), (2, (.string (bs [110]))), (5, (.slice (some ⟨b222, 0, none⟩) 1 1))]) (v := (Value.agg #[(.int .i64 7), (.string (bs (D8.getD r9 default).t.nm)), (.string (bs [110])), (.slice none 0 0), (.slice none 0 0), (.slice (some ⟨b222, 0, none⟩) 1 1), (.slice none 0 0), (.string (bs [])), (.slice none 0 0), (.slice none 0 0), (.slice none 0 0), (.bool false), (.slice none 0 0)])) ⟨rfl, rfl, ⟨rfl, (zC hN227 rfl q227_56), ⟨rfl, rfl, ⟨rfl, (zC hN227 rfl q227_61), trivial⟩⟩⟩⟩ zy ?_
    refine kt_end rfl hx4 ?_
    intro w228 E228 a228 hN228 hd228 hbs228 hph228
    have hd228 := hd228.trans ((by simp only [putsL_defers] : _ = _).trans hd112)
    have := E228.size
    have hbl := hbl.keep0 E228
    have hR8 := hR8.keep0 E228
    have hT8 := hT8.keep0 E228
    have htc9 := htc9.keep0 E228
    have hc104 := hc104.keep0 E228
    have hk104 := hk104.keep0 E228
    obtain ⟨hB5, hB14, hx4⟩ := kb3 E228 hB5 hB14 hx4
    have hk176 := hk176.keepG (zi E228 NoB) (fun _ _ h => h)
    have he176 := he176.keep0 E228
    obtain ⟨hB217, hB224⟩ := kb2 E228 hB217 hB224
    have hb := hb.step0 E228
    have s228_0 := (hbs228 0 rfl).trans (zL hN112 rfl s112_0)
    have s228_2 := (hbs228 2 rfl).trans (zL hN112 rfl s112_2)
    have s228_3 := (hbs228 3 rfl).trans (zL hN112 rfl s112_3)
    have s228_4 := (hbs228 4 rfl).trans (zL hN112 rfl s112_4)
    have s228_5 := (hbs228 5 rfl).trans (zL hN112 rfl s112_5)
    have s228_6 := (hbs228 6 rfl).trans (zL hN112 rfl s112_6)
    have s228_9 : Sl a228 9 (ptr b215 0) := (zE ((hph228 8 _ 9 rfl rfl).1 rfl)).symm
    have s228_62 : Sl a228 62 (.agg #[(.int .i64 7), (.string (bs (D8.getD r9 default).t.nm)), (.string (bs [110])), (.slice none 0 0), (.slice none 0 0), (.slice (some ⟨b222, 0, none⟩) 1 1), (.slice none 0 0), (.string (bs [])), (.slice none 0 0), (.slice none 0 0), (.slice none 0 0), (.bool false), (.slice none 0 0)]) := (zE ((hph228 7 _ 62 rfl rfl).1 rfl)).symm
    refine split_end ?_
    refine from_seq (tl := [_]) zz zy rfl ?_
    have hB217_old := hB217
    refine zZ size45 (zC hN228 rfl s228_9) (zC hN228 rfl s228_62) rfl rfl hB217 rfl ?_
    intro w231 hB217 E232
    have := E232.size
    have hbl := hbl.keep E232 sR
    have hB5 := hB5.keep E232 sB
    have hR8 := hR8.keep E232 sO
    have hT8 := hT8.keep E232 sO
    have hB14 := hB14.keep E232 (sN hB14 hB217_old)
    have hx4 := hx4.keep E232 (sN hx4 hB217_old)
    have htc9 := htc9.keep E232 sO
    have hc104 := hc104.keep E232 sO
    have hk104 := hk104.keep E232 sO
    have hk176 := hk176.keepG (Gr.of E232) (Dj.one dj218)
    have he176 := he176.keep E232 sO
    have hB224 := hB224.keep E232 (sN hB224 hB217_old)
    have hb := hb.step1 E232 zx
    refine zB ?_
    refine hK173 _ _ ?_
    exact hJ172 _ _ _ hN228 hd228 ⟨b215, b222, e176, w175.heap.size, w177.heap.size, n176, (zL hN228 rfl s228_0), (zL hN228 rfl s228_2), (zL hN228 rfl s228_3), (zL hN228 rfl s228_4), (zL hN228 rfl s228_5), (zL hN228 rfl s228_6), (zL hN228 rfl s228_9), zx, (by have h9 := hB217.lt; omega), zx, hB224.lt, zx, hB217.lt, hb, zx, hbl, hB5, hR8, hT8, hB14, hx4, htc9, hc104, hk104, hB217, hB224, he176, hk176⟩
   refine one_mem ?_
   intro w233 E233 _ a233 hN233 hbs233 hdp233 o_ ho_; obtain rfl := zE ho_
   have := E233.size
   have hbl := hbl.keep0 E233
   have hR8 := hR8.keep0 E233
   have hT8 := hT8.keep0 E233
   have htc9 := htc9.keep0 E233
   have hc104 := hc104.keep0 E233
   have hk104 := hk104.keep0 E233
   obtain ⟨hB5, hB14, hx4⟩ := kb3 E233 hB5 hB14 hx4
   have hk109 := hk109.keepG (zi E233 NoB) (fun _ _ h => h)
   have hb := hb.step0 E233
   refine op_alloc (cs := [(.int .i64 0), (.string (bs [])), (.string (bs [])), (.slice none 0 0), (.slice none 0 0), (.slice none 0 0), (.slice none 0 0), (.string (bs [])), (.slice none 0 0), (.slice none 0 0), (.slice none 0 0), (.bool false), (.slice none 0 0)]) zero45 rfl ?_
   intro w234 b235 lo_b235 hi_b235 hB237 E236
   have dj238 : ¬ (fun k => k = p) b235 := fun hf => by have := (hk109.lt _ hf).2; omega
   have := E236.size
   have hbl := hbl.keep0 E236
   have hR8 := hR8.keep0 E236
   have hT8 := hT8.keep0 E236
   have htc9 := htc9.keep0 E236
   have hc104 := hc104.keep0 E236
   have hk104 := hk104.keep0 E236
   obtain ⟨hB5, hB14, hx4⟩ := kb3 E236 hB5 hB14 hx4
   have hk109 := hk109.keepG (zi E236 NoB) (fun _ _ h => h)
   have hb := hb.step0 E236
   refine kt_end rfl hx4 ?_
   refine kt_step (rs := [5]) zy ?_
   refine one_mem ?_
   intro w240 E240 _ a240 hN240 hbs240 hdp240 o_ ho_; obtain rfl := zE ho_
   have := E240.size
   have hbl := hbl.keep0 E240
   have hR8 := hR8.keep0 E240
   have hT8 := hT8.keep0 E240
   have htc9 := htc9.keep0 E240
   have hc104 := hc104.keep0 E240
   have hk104 := hk104.keep0 E240
   obtain ⟨hB5, hB14, hx4⟩ := kb3 E240 hB5 hB14 hx4
   have hk109 := hk109.keepG (zi E240 NoB) (fun _ _ h => h)
   have hB237 := hB237.keep0 E240
   have hb := hb.step0 E240
   have q240_57 : Sl a240 57 (ptr p 0) := (hdp240 2 _ 57 zy rfl rfl).2 rfl
   have q240_58 : Sl a240 58 av104 := (hdp240 3 _ 58 zy rfl rfl).2 rfl
   have q240_59 : Sl a240 59 bv104 := (hdp240 4 _ 59 zy rfl rfl).2 rfl
   refine ze (vs := [(ptr p 0), av104, bv104, (.int .i64 1), (.int .i64 1)]) ok22 ⟨(zC hN240 rfl q240_57), ⟨(zC hN240 rfl q240_58), ⟨(zC hN240 rfl q240_59), ⟨rfl, ⟨rfl, trivial⟩⟩⟩⟩⟩ (hEx9 _ (kd := 1) (deep := 1) rfl hk109 zx hbl (C := (colsOf ((D8.getD r9 default).t.nm) ((D8.getD r9 default).t.cols))) (K := (kindsOf ((D8.getD r9 default).t.cols))) hc104 hk104 zx zx zx zx zx zx zx) ?_
   rintro _ w242 ⟨E243, e241, rfl, he241, hg241, n241, hk241, hn241⟩
   have hk109_old := hk109
   have := E243.size
   have hbl := hbl.keepG E243 (fun k hk => .inr (by have := hk109_old.lt k hk; omega))
   have hB5 := hB5.keepG E243 dj6
   have hR8 := hR8.keepG E243 sP
   have hT8 := hT8.keepG E243 sP
   have hB14 := hB14.keepG E243 dj15
   have hx4 := hx4.keepG E243 (hk109_old.notBx hx4 zz)
   have htc9 := htc9.keepG E243 sP
   have hc104 := hc104.keepG E243 sP
   have hk104 := hk104.keepG E243 sP
   have hB237 := hB237.keepG E243 dj238
   have hb := hb.stepF E243 (fun _ _ h => h)
   refine kt_end rfl hx4 ?_
   refine kt_step (rs := [6]) zy ?_
   refine one_mem ?_
   intro w245 E245 _ a245 hN245 hbs245 hdp245 o_ ho_; obtain rfl := zE ho_
   have := E245.size
   have hbl := hbl.keep0 E245
   have hR8 := hR8.keep0 E245
   have hT8 := hT8.keep0 E245
   have htc9 := htc9.keep0 E245
   have hc104 := hc104.keep0 E245
   have hk104 := hk104.keep0 E245
   obtain ⟨hB5, hB14, hx4, hB237⟩ := kb4 E245 hB5 hB14 hx4 hB237
   have hk241 := hk241.keepG (zi E245 NoB) (fun _ _ h => h)
   have he241 := he241.keep0 E245
   have hb := hb.step0 E245
   have q245_60 : Sl a245 60 (.agg #[(.int .i64 e241.op), (.int .i64 e241.vk), (.int .i64 e241.vi), (.string (bs e241.vt)), (.string (bs e241.tb)), (.string (bs e241.nm)), e241.av]) := (zE ((hdp245 5 _ 60 zy rfl rfl).1 rfl)).symm
   refine op_bslice (e := 28) (pv := [(0, (.agg #[(.int .i64 e241.op), (.int .i64 e241.vk), (.int .i64 e241.vi), (.string (bs e241.vt)), (.string (bs e241.tb)), (.string (bs e241.nm)), e241.av]))]) (cs := [(.int .i64 e241.op), (.int .i64 e241.vk), (.int .i64 e241.vi), (.string (bs e241.vt)), (.string (bs e241.tb)), (.string (bs e241.nm)), e241.av]) ⟨rfl, (zC hN245 rfl q245_60), trivial⟩ zy ?_
   intro w246 b247 lo_b247 hi_b247 hB249 E248
   have dj250 : ¬ (fun k => k = p) b247 := fun hf => by have := (hk241.lt _ hf).2; omega
   have := E248.size
   have hbl := hbl.keep0 E248
   have hR8 := hR8.keep0 E248
   have hT8 := hT8.keep0 E248
   have htc9 := htc9.keep0 E248
   have hc104 := hc104.keep0 E248
   have hk104 := hk104.keep0 E248
   obtain ⟨hB5, hB14, hx4, hB237⟩ := kb4 E248 hB5 hB14 hx4 hB237
   have hk241 := hk241.keepG (zi E248 NoB) (fun _ _ h => h)
   have he241 := he241.keep0 E248
   have hb := hb.step0 E248
   refine kt_end rfl hx4 ?_
   refine kt_step (rs := [7]) zy ?_
   refine one_mem ?_
   intro w252 E252 _ a252 hN252 hbs252 hdp252 o_ ho_; obtain rfl := zE ho_
   have := E252.size
   have hbl := hbl.keep0 E252
   have hR8 := hR8.keep0 E252
   have hT8 := hT8.keep0 E252
   have htc9 := htc9.keep0 E252
   have hc104 := hc104.keep0 E252
   have hk104 := hk104.keep0 E252
   obtain ⟨hB5, hB14, hx4, hB237⟩ := kb4 E252 hB5 hB14 hx4 hB237
   have hk241 := hk241.keepG (zi E252 NoB) (fun _ _ h => h)
   have he241 := he241.keep0 E252
   have hB249 := hB249.keep0 E252
   have hb := hb.step0 E252
   have q252_56 : Sl a252 56 (.string (bs (D8.getD r9 default).t.nm)) := (hdp252 1 _ 56 zy rfl rfl).2 rfl
   have q252_61 : Sl a252 61 (.slice (some ⟨b247, 0, none⟩) 1 1) := (zE ((hdp252 6 _ 61 zy rfl rfl).1 rfl)).symm
   refine zf (pv := [(0, (.int .i64 7)), (1, (.string (bs (D8.getD r9 default).t.nm))), (2, (.string (bs [110]))), (5, (.slice (some ⟨b247, 0, none⟩) 1 1))]) (v := (Value.agg #[(.int .i64 7), (.string (bs (D8.getD r9 default).t.nm)), (.string (bs [110])), (.slice none 0 0), (.slice none 0 0), (.slice (some ⟨b247, 0, none⟩) 1 1), (.slice none 0 0), (.string (bs [])), (.slice none 0 0), (.slice none 0 0), (.slice none 0 0), (.bool false), (.slice none 0 0)])) ⟨rfl, rfl, ⟨rfl, (zC hN252 rfl q252_56), ⟨rfl, rfl, ⟨rfl, (zC hN252 rfl q252_61), trivial⟩⟩⟩⟩ zy ?_
   refine kt_end rfl hx4 ?_
   intro w253 E253 a253 hN253 hd253 hbs253 hph253
   have hd253 := hd253.trans ((by simp only [putsL_defers] : _ = _).trans hd112)
   have := E253.size
   have hbl := hbl.keep0 E253
   have hR8 := hR8.keep0 E253
   have hT8 := hT8.keep0 E253
   have htc9 := htc9.keep0 E253
   have hc104 := hc104.keep0 E253
   have hk104 := hk104.keep0 E253
   obtain ⟨hB5, hB14, hx4, hB237⟩ := kb4 E253 hB5 hB14 hx4 hB237
   have hk241 := hk241.keepG (zi E253 NoB) (fun _ _ h => h)
   have he241 := he241.keep0 E253
   have hB249 := hB249.keep0 E253
   have hb := hb.step0 E253
   have s253_0 := (hbs253 0 rfl).trans (zL hN112 rfl s112_0)
   have s253_2 := (hbs253 2 rfl).trans (zL hN112 rfl s112_2)
   have s253_3 := (hbs253 3 rfl).trans (zL hN112 rfl s112_3)
   have s253_4 := (hbs253 4 rfl).trans (zL hN112 rfl s112_4)
   have s253_5 := (hbs253 5 rfl).trans (zL hN112 rfl s112_5)
   have s253_6 := (hbs253 6 rfl).trans (zL hN112 rfl s112_6)
   have s253_9 : Sl a253 9 (ptr b235 0) := (zE ((hph253 8 _ 9 rfl rfl).1 rfl)).symm
   have s253_62 : Sl a253 62 (.agg #[(.int .i64 7), (.string (bs (D8.getD r9 default).t.nm)), (.string (bs [110])), (.slice none 0 0), (.slice none 0 0), (.slice (some ⟨b247, 0, none⟩) 1 1), (.slice none 0 0), (.string (bs [])), (.slice none 0 0), (.slice none 0 0), (.slice none 0 0), (.bool false), (.slice none 0 0)]) := (zE ((hph253 7 _ 62 rfl rfl).1 rfl)).symm
   refine split_end ?_
   refine from_seq (tl := [_]) zz zy rfl ?_
   have hB237_old := hB237
   refine zZ size45 (zC hN253 rfl s253_9) (zC hN253 rfl s253_62) rfl rfl hB237 rfl ?_
   intro w256 hB237 E257
   have := E257.size
   have hbl := hbl.keep E257 sR
   have hB5 := hB5.keep E257 sB
   have hR8 := hR8.keep E257 sO
   have hT8 := hT8.keep E257 sO
   have hB14 := hB14.keep E257 (sN hB14 hB237_old)
   have hx4 := hx4.keep E257 (sN hx4 hB237_old)
   have htc9 := htc9.keep E257 sO
   have hc104 := hc104.keep E257 sO
   have hk104 := hk104.keep E257 sO
   have hk241 := hk241.keepG (Gr.of E257) (Dj.one dj238)
   have he241 := he241.keep E257 sO
   have hB249 := hB249.keep E257 (sN hB249 hB237_old)
   have hb := hb.step1 E257 zx
   refine zB ?_
   refine hK173 _ _ ?_
   exact hJ172 _ _ _ hN253 hd253 ⟨b235, b247, e241, w240.heap.size, w242.heap.size, n241, (zL hN253 rfl s253_0), (zL hN253 rfl s253_2), (zL hN253 rfl s253_3), (zL hN253 rfl s253_4), (zL hN253 rfl s253_5), (zL hN253 rfl s253_6), (zL hN253 rfl s253_9), zx, (by have h9 := hB237.lt; omega), zx, hB249.lt, zx, hB237.lt, hb, zx, hbl, hB5, hR8, hT8, hB14, hx4, htc9, hc104, hk104, hB237, hB249, he241, hk241⟩
  rintro a172 w172 hN172 hd172 ⟨b9, bl9, e9, L9, B9, n9, s172_0, s172_2, s172_3, s172_4, s172_5, s172_6, s172_9, hn9, hL9, lo_bl9, hi_bl9, lo_b9, hi_b9, hb, zl_w172, hbl, hB5, hR8, hT8, hB14, hx4, htc9, hc104, hk104, hb9, hbl9, hxf9, hpk⟩
  have := hb.size
  refine seq_join1 (N := 97) (fun az_ w' => ∃ (nm9 : List UInt8) (bl8 : Nat) (e8 : XE) (L8 B8 n8 : Nat), (az_.tmps.getD 0 undef = (ptr p 0)) ∧ (az_.tmps.getD 2 undef = (ptr b3 0)) ∧ (az_.tmps.getD 3 undef = (ptr b12 0)) ∧ (az_.tmps.getD 4 undef = (ptr b4 0)) ∧ (az_.tmps.getD 5 undef = av104) ∧ (az_.tmps.getD 6 undef = bv104) ∧ (az_.tmps.getD 9 undef = (ptr b9 0)) ∧ (n ≤ n8 ∧ (n < bl.length → n < n8)) ∧ (b3 < L8 ∧ p < L8 ∧ w.heap.size ≤ L8 ∧ B8 ≤ w'.heap.size ∧ (b9 < L8 ∨ B8 ≤ b9)) ∧ (w112.heap.size ≤ bl8) ∧ (bl8 < w'.heap.size) ∧ (b9 < w'.heap.size) ∧ (Gr w w' (fun k => k = p)) ∧ (w172.heap.size ≤ w'.heap.size) ∧ (RdC w' 0 Bp 1 lv bl.length (bl.map u8v)) ∧ (Bx w' b3 45 [(.int .i64 0), (.string (bs [])), (.string (bs [])), (.slice none 0 0), (.slice none 0 0), (.slice none 0 0), (.slice none 0 0), (.string (bs [])), (.slice none 0 0), (.slice none 0 0), (.slice none 0 0), (.bool false), (.slice none 0 0)]) ∧ (RdC w' w2.heap.size w9.heap.size 3 tv8 D8.length (D8.flatMap cellsT)) ∧ (TsFr w' w2.heap.size w9.heap.size tv8 D8) ∧ (Bx w' b12 39 [tv8, (.slice none 0 0)]) ∧ (Bx w' b4 55 [(.string (bs (D8.getD r9 default).t.nm)), (D8.getD r9 default).cv, (D8.getD r9 default).iv]) ∧ (RdC w' w2.heap.size w9.heap.size 3 (D8.getD r9 default).cv ((D8.getD r9 default).t.cols).length (((D8.getD r9 default).t.cols).flatMap cellsC)) ∧ (RdC w' w20.heap.size w105.heap.size 3 av104 (colsOf ((D8.getD r9 default).t.nm) ((D8.getD r9 default).t.cols)).length ((colsOf ((D8.getD r9 default).t.nm) ((D8.getD r9 default).t.cols)).flatMap cellsI)) ∧ (RdC w' w20.heap.size w105.heap.size 1 bv104 (kindsOf ((D8.getD r9 default).t.cols)).length ((kindsOf ((D8.getD r9 default).t.cols)).map (Value.int .i64))) ∧ (Bx w' b9 45 [(.int .i64 7), (.string (bs (D8.getD r9 default).t.nm)), (.string (bs nm9)), (.slice none 0 0), (.slice none 0 0), (.slice (some ⟨bl8, 0, none⟩) 1 1), (.slice none 0 0), (.string (bs [])), (.slice none 0 0), (.slice none 0 0), (.slice none 0 0), (.bool false), (.slice none 0 0)]) ∧ (Bx w' bl8 28 [(.int .i64 e8.op), (.int .i64 e8.vk), (.int .i64 e8.vi), (.string (bs e8.vt)), (.string (bs e8.tb)), (.string (bs e8.nm)), e8.av]) ∧ (XFr w' L8 B8 e8) ∧ (PickR w' base p lv bl n8 (fun k => k = p))) (fun hJ258 => ?_) ?_
  ·
   refine zF fun K259 hK259 => ?_
   refine zF fun K260 hK260 => ?_
   refine zH ?_
   refine zM fld55_0 (zC hN172 rfl s172_4) ?_
   refine zN (v := (Value.string (bs (D8.getD r9 default).t.nm))) one9 (zA hN172 rfl) (hx4.cell rfl) ?_
   refine op_seql (zA hN172 rfl) rfl (fun c65 => ?_) (fun c65 => ?_)
   ·
    refine zG (zA hN172 rfl) ?_
    refine zS (j := 3) (dj := 66) (b := true) rfl rfl rfl (zA hN172 rfl) ?_
    refine zG (zC hN172 rfl s172_0) ?_
    refine zS (j := 3) (dj := 66) (b := true) rfl rfl rfl (zA hN172 rfl) ?_
    refine zj ok35 (Num_ret (m := 3) hpk zx hbl zx zx) ⟨(zA hN172 rfl), ⟨rfl, trivial⟩⟩ ?_
    rintro _ w262 ⟨E263, r261, rfl, hr261, n261, hk261, hn261, hn261x⟩
    have hpk_old := hpk
    have := E263.size
    have hbl := hbl.keepG E263 (fun k hk => .inr (by have := hpk_old.lt k hk; omega))
    have hB5 := hB5.keepG E263 dj6
    have hR8 := hR8.keepG E263 sP
    have hT8 := hT8.keepG E263 sP
    have hB14 := hB14.keepG E263 dj15
    have hx4 := hx4.keepG E263 (hpk_old.notBx hx4 zz)
    have htc9 := htc9.keepG E263 sP
    have hc104 := hc104.keepG E263 sP
    have hk104 := hk104.keepG E263 sP
    have hb9 := hb9.keepG E263 (hpk_old.notBx hb9 zz)
    have hbl9 := hbl9.keepG E263 (hpk_old.notBx hbl9 zz)
    have hxf9 := hxf9.keepG E263 sP
    have hb := hb.stepF E263 (fun _ _ h => h)
    refine zS (j := 3) (dj := 66) (b := true) rfl rfl rfl (zA hN172 rfl) ?_
    refine op_eql (zA hN172 rfl) rfl (fun c69 => ?_) (fun c69 => ?_)
    ·
     refine zc (zA hN172 rfl) (zA hN172 rfl) ?_
     refine zB ?_
     refine hK260 _ _ (wp_cond_true (zA hN172 rfl) (zH ?_))
     refine zG (zC hN172 rfl s172_0) ?_
     refine zG (zC hN172 rfl s172_5) ?_
     refine zG (zC hN172 rfl s172_6) ?_
     refine ze (vs := [(ptr p 0), av104, bv104, (.int .i64 2), (.int .i64 1)]) ok22 ⟨(zA hN172 rfl), ⟨(zA hN172 rfl), ⟨(zA hN172 rfl), ⟨rfl, ⟨rfl, trivial⟩⟩⟩⟩⟩ (hEx9 _ (kd := 2) (deep := 1) rfl hk261 zx hbl (C := (colsOf ((D8.getD r9 default).t.nm) ((D8.getD r9 default).t.cols))) (K := (kindsOf ((D8.getD r9 default).t.cols))) hc104 hk104 zx zx zx zx zx zx zx) ?_
     rintro _ w265 ⟨E266, e264, rfl, he264, hg264, n264, hk264, hn264⟩
     have hk261_old := hk261
     have := E266.size
     have hbl := hbl.keepG E266 (fun k hk => .inr (by have := hk261_old.lt k hk; omega))
     have hB5 := hB5.keepG E266 dj6
     have hR8 := hR8.keepG E266 sP
     have hT8 := hT8.keepG E266 sP
     have hB14 := hB14.keepG E266 dj15
     have hx4 := hx4.keepG E266 (hk261_old.notBx hx4 zz)
     have htc9 := htc9.keepG E266 sP
     have hc104 := hc104.keepG E266 sP
     have hk104 := hk104.keepG E266 sP
     have hb9 := hb9.keepG E266 (hk261_old.notBx hb9 zz)
     have hb := hb.stepF E266 (fun _ _ h => h)
     refine op_bslice (e := 28) (pv := [(0, (.agg #[(.int .i64 e264.op), (.int .i64 e264.vk), (.int .i64 e264.vi), (.string (bs e264.vt)), (.string (bs e264.tb)), (.string (bs e264.nm)), e264.av]))]) (cs := [(.int .i64 e264.op), (.int .i64 e264.vk), (.int .i64 e264.vi), (.string (bs e264.vt)), (.string (bs e264.tb)), (.string (bs e264.nm)), e264.av]) ⟨rfl, (zA hN172 rfl), trivial⟩ zy ?_
     intro w267 b268 lo_b268 hi_b268 hB270 E269
     have dj271 : ¬ (fun k => k = p) b268 := fun hf => by have := (hk264.lt _ hf).2; omega
     have := E269.size
     have hbl := hbl.keep0 E269
     have hR8 := hR8.keep0 E269
     have hT8 := hT8.keep0 E269
     have htc9 := htc9.keep0 E269
     have hc104 := hc104.keep0 E269
     have hk104 := hk104.keep0 E269
     have hb9 := hb9.keep0 E269
     obtain ⟨hB5, hB14, hx4⟩ := kb3 E269 hB5 hB14 hx4
     have hk264 := hk264.keepG (zi E269 NoB) (fun _ _ h => h)
     have he264 := he264.keep0 E269
     have hb := hb.step0 E269
     refine zM fld45_2 (zC hN172 rfl s172_9) ?_
     have hb9_old := hb9
     refine za (vs := [(.string (bs [118]))]) (cs' := [(.int .i64 7), (.string (bs (D8.getD r9 default).t.nm)), (.string (bs [118])), (.slice none 0 0), (.slice none 0 0), (.slice (some ⟨bl9, 0, none⟩) 1 1), (.slice none 0 0), (.string (bs [])), (.slice none 0 0), (.slice none 0 0), (.slice none 0 0), (.bool false), (.slice none 0 0)]) size9 (zA hN172 rfl) rfl rfl rfl rfl hb9 (zI rfl) rfl ?_
     intro w274 hb9 E275
     have := E275.size
     have hbl := hbl.keep E275 sR
     have hB5 := hB5.keep E275 sB
     have hR8 := hR8.keep E275 sO
     have hT8 := hT8.keep E275 sO
     have hB14 := hB14.keep E275 (sN hB14 hb9_old)
     have hx4 := hx4.keep E275 (sN hx4 hb9_old)
     have htc9 := htc9.keep E275 sO
     have hc104 := hc104.keep E275 sO
     have hk104 := hk104.keep E275 sO
     have hk264 := hk264.keepG (Gr.of E275) (Dj.one (hk264.notBx hb9_old zz))
     have he264 := he264.keep E275 sO
     have hB270 := hB270.keep E275 (sN hB270 hb9_old)
     have hb := hb.step1 E275 zx
     refine zM fld45_5 (zC hN172 rfl s172_9) ?_
     have hb9_old := hb9
     refine za (vs := [(.slice (some ⟨b268, 0, none⟩) 1 1)]) (cs' := [(.int .i64 7), (.string (bs (D8.getD r9 default).t.nm)), (.string (bs [118])), (.slice none 0 0), (.slice none 0 0), (.slice (some ⟨b268, 0, none⟩) 1 1), (.slice none 0 0), (.string (bs [])), (.slice none 0 0), (.slice none 0 0), (.slice none 0 0), (.bool false), (.slice none 0 0)]) size26 (zA hN172 rfl) (zA hN172 rfl) rfl rfl rfl hb9 (zI rfl) rfl ?_
     intro w278 hb9 E279
     have := E279.size
     have hbl := hbl.keep E279 sR
     have hB5 := hB5.keep E279 sB
     have hR8 := hR8.keep E279 sO
     have hT8 := hT8.keep E279 sO
     have hB14 := hB14.keep E279 (sN hB14 hb9_old)
     have hx4 := hx4.keep E279 (sN hx4 hb9_old)
     have htc9 := htc9.keep E279 sO
     have hc104 := hc104.keep E279 sO
     have hk104 := hk104.keep E279 sO
     have hk264 := hk264.keepG (Gr.of E279) (Dj.one (hk264.notBx hb9_old zz))
     have he264 := he264.keep E279 sO
     have hB270 := hB270.keep E279 (sN hB270 hb9_old)
     have hb := hb.step1 E279 zx
     refine zB ?_
     refine hK259 _ _ ?_
     exact hJ258 _ _ _ hN172 hd172 ⟨[118], b268, e264, w262.heap.size, w265.heap.size, n264, (zL hN172 rfl s172_0), (zL hN172 rfl s172_2), (zL hN172 rfl s172_3), (zL hN172 rfl s172_4), (zL hN172 rfl s172_5), (zL hN172 rfl s172_6), (zL hN172 rfl s172_9), zx, (by have h9 := hb9.lt; omega), zx, hB270.lt, hb9.lt, hb, zx, hbl, hB5, hR8, hT8, hB14, hx4, htc9, hc104, hk104, hb9, hB270, he264, hk264⟩
    refine zc (zA hN172 rfl) (zA hN172 rfl) ?_
    refine zB ?_
    refine hK260 _ _ (wp_cond_false (zA hN172 rfl) (wp_skip (hK259 _ _ ?_)))
    exact hJ258 _ _ _ hN172 hd172 ⟨[110], bl9, e9, L9, B9, n261, (zL hN172 rfl s172_0), (zL hN172 rfl s172_2), (zL hN172 rfl s172_3), (zL hN172 rfl s172_4), (zL hN172 rfl s172_5), (zL hN172 rfl s172_6), (zL hN172 rfl s172_9), zx, (by have h9 := hb9.lt; omega), zx, hbl9.lt, hb9.lt, hb, zx, hbl, hB5, hR8, hT8, hB14, hx4, htc9, hc104, hk104, hb9, hbl9, hxf9, hk261⟩
   refine zG (zA hN172 rfl) ?_
   refine zR (j := 3) (dj := 66) (b := true) rfl rfl rfl (zA hN172 rfl) rfl rfl ?_
   refine zR (j := 3) (dj := 66) (b := true) rfl rfl rfl (zA hN172 rfl) rfl rfl ?_
   refine zR (j := 3) (dj := 66) (b := true) rfl rfl rfl (zA hN172 rfl) rfl rfl ?_
   refine zd (zA hN172 rfl) rfl ?_
   refine zB ?_
   refine hK260 _ _ (wp_cond_false (zA hN172 rfl) (wp_skip (hK259 _ _ ?_)))
   exact hJ258 _ _ _ hN172 hd172 ⟨[110], bl9, e9, L9, B9, n9, (zL hN172 rfl s172_0), (zL hN172 rfl s172_2), (zL hN172 rfl s172_3), (zL hN172 rfl s172_4), (zL hN172 rfl s172_5), (zL hN172 rfl s172_6), (zL hN172 rfl s172_9), zx, (by have h9 := hb9.lt; omega), zx, hbl9.lt, hb9.lt, hb, zx, hbl, hB5, hR8, hT8, hB14, hx4, htc9, hc104, hk104, hb9, hbl9, hxf9, hpk⟩
  rintro a258 w258 hN258 hd258 ⟨nm9, bl8, e8, L8, B8, n8, s258_0, s258_2, s258_3, s258_4, s258_5, s258_6, s258_9, hn8, hL8, lo_bl8, hi_bl8, hi_b9x, hb, zl_w258, hbl, hB5, hR8, hT8, hB14, hx4, htc9, hc104, hk104, hb8, hbl8, hxf8, hpk⟩
  have := hb.size
  refine zF fun K280 hK280 => ?_
  refine zH ?_
  refine zG (zC hN258 rfl s258_0) ?_
  refine zG (zC hN258 rfl s258_5) ?_
  refine zG (zC hN258 rfl s258_6) ?_
  refine zj ok67 (pwhere_ret hpk zx hbl (C := (colsOf ((D8.getD r9 default).t.nm) ((D8.getD r9 default).t.cols))) (K := (kindsOf ((D8.getD r9 default).t.cols))) hc104 hk104 zx zx zx) ⟨(zA hN258 rfl), ⟨(zA hN258 rfl), ⟨(zA hN258 rfl), trivial⟩⟩⟩ ?_
  rintro wv281 w282 ⟨E283, wh281, hw281, n281, hk281, hn281⟩
  have hpk_old := hpk
  have := E283.size
  have hB5 := hB5.keepG E283 dj6
  have hc104 := hc104.keepG E283 sP
  have hb8 := hb8.keepG E283 (hpk_old.notBx hb8 zz)
  have hbl8 := hbl8.keepG E283 (hpk_old.notBx hbl8 zz)
  have hxf8 := hxf8.keepG E283 sP
  have hb := hb.stepF E283 (fun _ _ h => h)
  refine zM fld45_9 (zC hN258 rfl s258_9) ?_
  have hb8_old := hb8
  refine za (vs := [wv281]) (cs' := [(.int .i64 7), (.string (bs (D8.getD r9 default).t.nm)), (.string (bs nm9)), (.slice none 0 0), (.slice none 0 0), (.slice (some ⟨bl8, 0, none⟩) 1 1), (.slice none 0 0), (.string (bs [])), (.slice none 0 0), wv281, (.slice none 0 0), (.bool false), (.slice none 0 0)]) size26 (zA hN258 rfl) (zA hN258 rfl) hw281.1.cl rfl (by simp only [List.all_cons, List.all_nil, Bool.true_and, Bool.and_true, hw281.1.one]; try rfl) hb8 (zI rfl) rfl ?_
  intro w286 hb8 E287
  have := E287.size
  have hB5 := hB5.keep E287 sB
  have hc104 := hc104.keep E287 sO
  have hbl8 := hbl8.keep E287 (sN hbl8 hb8_old)
  have hxf8 := hxf8.keep E287 sO
  have hk281 := hk281.keepG (Gr.of E287) (Dj.one (hk281.notBx hb8_old zz))
  have hw281 := hw281.keep E287 sO
  have hb := hb.step1 E287 zx
  refine zB ?_
  refine hK280 _ _ (zF fun K288 hK288 => ?_)
  refine zH ?_
  refine zY agg45 rfl (zC hN258 rfl s258_9) hb8 ?_
  have hB5_old := hB5
  refine zZ size45 (zC hN258 rfl s258_2) (zA hN258 rfl) rfl (by simp only [List.all_cons, List.all_nil, Bool.true_and, Bool.and_true, hw281.1.one]; try rfl) hB5 rfl ?_
  intro w291 hB5 E292
  have := E292.size
  have hc104 := hc104.keep E292 sO
  have hbl8 := hbl8.keep E292 (sN hbl8 hB5_old)
  have hxf8 := hxf8.keep E292 sO
  have hk281 := hk281.keepG (Gr.of E292) (Dj.one dj6)
  have hw281 := hw281.keep E292 sO
  have hb := hb.step1 E292 zx
  refine zB ?_
  refine hK288 _ _ (wp_ret (zb (zO ( ?_))))
  refine retC rfl hd258 (zC hN258 rfl s258_2) agg45 rfl hB5 ⟨_, rfl, ?_⟩
  exact ⟨hb, XS.mk (StF.mk 7 ((D8.getD r9 default).t.nm) nm9 (.slice none 0 0) [] (.slice none 0 0) [] (.slice (some ⟨bl8, 0, none⟩) 1 1) ([e8]) (.slice none 0 0) [] [] (.slice none 0 0) [] wv281 wh281 (.slice none 0 0) [] false) (.slice none 0 0) [], rfl, SFr.flat ⟨(rdN _ _ _ _), (rdN _ _ _ _), (XsFr.lit1 (x := e8) hbl8 zx hbl8.lt (hxf8.mono zx zx)), (rdN _ _ _ _), (XsFr.nil _ _ _), (hw281.mono zx zx), (XsFr.nil _ _ _)⟩ rfl rfl, n281, hk281, by omega, fun h9 => by omega⟩
 refine zD (zA hN112 rfl) ?_
 refine zB ?_
 refine hK171 _ _ (wp_cond_false (zA hN112 rfl) (zF fun K293 hK293 => ?_))
 refine zH ?_
 refine op_eql (zC hN112 rfl s112_23) rfl (fun c85 => ?_) (fun c85 => ?_)
 ·
  refine zD (zA hN112 rfl) ?_
  refine zB ?_
  refine hK293 _ _ (wp_cond_true (zA hN112 rfl) (zF fun K294 hK294 => ?_))
  refine reg_split (hd := [_, _, _, _, _, _, _]) (tl := _) 7 mixed zy rfl rfl ?_
  refine any_tree (φ := phiV [(fun uz => uz = (ptr b4 0)), (fun uz => uz = (.string (bs (D8.getD r9 default).t.nm))), (fun uz => uz = (ptr p 0)), (fun uz => uz = av104), (fun uz => uz = bv104), (fun _ => True), (fun _ => True)]) (G := fun w' => Bx w' b4 55 [(.string (bs (D8.getD r9 default).t.nm)), (D8.getD r9 default).cv, (D8.getD r9 default).iv]) [5, 6] zy zy zy zy zy hN112 (fun w1 w2 E h => h.keep0 E) hx4 (ObRs9.cons ?_ (ObRs9.cons ?_ (ObRs9.cons ?_ (ObRs9.cons ?_ (ObRs9.cons ?_ (ObRs9.pass rfl (ObRs9.pass rfl (ObRs9.nil)))))))) (by simp only [putsL_defers]) ?_
  ·
   intro eA aA wA hNA hGA hbsA hdpA
   have qA_4 := (hbsA 4 rfl).trans (zL hN112 rfl s112_4)
   refine zM fld55_0 (zC hNA rfl qA_4) ?_
   exact obT_end rfl rfl
  ·
   intro eA aA wA hNA hGA hbsA hdpA
   have qA_86 : Sl aA 86 (ptr b4 0) := (hdpA 0 _ 86 zy rfl rfl).2 rfl
   refine zN (v := (Value.string (bs (D8.getD r9 default).t.nm))) one9 (zC hNA rfl qA_86) (hGA.cell rfl) ?_
   exact obT_end rfl rfl
  ·
   intro eA aA wA hNA hGA hbsA hdpA
   have qA_0 := (hbsA 0 rfl).trans (zL hN112 rfl s112_0)
   refine zG (zC hNA rfl qA_0) ?_
   exact obT_end rfl rfl
  ·
   intro eA aA wA hNA hGA hbsA hdpA
   have qA_5 := (hbsA 5 rfl).trans (zL hN112 rfl s112_5)
   refine zG (zC hNA rfl qA_5) ?_
   exact obT_end rfl rfl
  ·
   intro eA aA wA hNA hGA hbsA hdpA
   have qA_6 := (hbsA 6 rfl).trans (zL hN112 rfl s112_6)
   refine zG (zC hNA rfl qA_6) ?_
   exact obT_end rfl rfl
  refine kt_step (rs := [5]) zy ?_
  refine one_mem ?_
  intro w296 E296 _ a296 hN296 hbs296 hdp296 o_ ho_; obtain rfl := zE ho_
  have := E296.size
  have hbl := hbl.keep0 E296
  have hc104 := hc104.keep0 E296
  have hk104 := hk104.keep0 E296
  obtain ⟨hB5, hx4⟩ := kb2 E296 hB5 hx4
  have hk109 := hk109.keepG (zi E296 NoB) (fun _ _ h => h)
  have hb := hb.step0 E296
  have q296_88 : Sl a296 88 (ptr p 0) := (hdp296 2 _ 88 zy rfl rfl).2 rfl
  have q296_89 : Sl a296 89 av104 := (hdp296 3 _ 89 zy rfl rfl).2 rfl
  have q296_90 : Sl a296 90 bv104 := (hdp296 4 _ 90 zy rfl rfl).2 rfl
  refine zj ok67 (pwhere_ret hk109 zx hbl (C := (colsOf ((D8.getD r9 default).t.nm) ((D8.getD r9 default).t.cols))) (K := (kindsOf ((D8.getD r9 default).t.cols))) hc104 hk104 zx zx zx) ⟨(zC hN296 rfl q296_88), ⟨(zC hN296 rfl q296_89), ⟨(zC hN296 rfl q296_90), trivial⟩⟩⟩ ?_
  rintro wv297 w298 ⟨E299, wh297, hw297, n297, hk297, hn297⟩
  have hk109_old := hk109
  have := E299.size
  have hB5 := hB5.keepG E299 dj6
  have hx4 := hx4.keepG E299 (hk109_old.notBx hx4 zz)
  have hc104 := hc104.keepG E299 sP
  have hb := hb.stepF E299 (fun _ _ h => h)
  refine kt_end rfl hx4 ?_
  refine kt_step (rs := [6]) zy ?_
  refine one_mem ?_
  intro w301 E301 _ a301 hN301 hbs301 hdp301 o_ ho_; obtain rfl := zE ho_
  have := E301.size
  have hc104 := hc104.keep0 E301
  obtain ⟨hB5, hx4⟩ := kb2 E301 hB5 hx4
  have hk297 := hk297.keepG (zi E301 NoB) (fun _ _ h => h)
  have hw297 := hw297.keep0 E301
  have hb := hb.step0 E301
  have q301_87 : Sl a301 87 (.string (bs (D8.getD r9 default).t.nm)) := (hdp301 1 _ 87 zy rfl rfl).2 rfl
  have q301_91 : Sl a301 91 wv297 := (zE ((hdp301 5 _ 91 zy rfl rfl).1 rfl)).symm
  refine zf (pv := [(0, (.int .i64 8)), (1, (.string (bs (D8.getD r9 default).t.nm))), (9, wv297)]) (v := (Value.agg #[(.int .i64 8), (.string (bs (D8.getD r9 default).t.nm)), (.string (bs [])), (.slice none 0 0), (.slice none 0 0), (.slice none 0 0), (.slice none 0 0), (.string (bs [])), (.slice none 0 0), wv297, (.slice none 0 0), (.bool false), (.slice none 0 0)])) ⟨rfl, rfl, ⟨rfl, (zC hN301 rfl q301_87), ⟨rfl, (zC hN301 rfl q301_91), trivial⟩⟩⟩ (by obtain ⟨_, _, _, rfl⟩ := hw297.1.sl; kernel_rfl) ?_
  refine kt_end rfl hx4 ?_
  intro w302 E302 a302 hN302 hd302 hbs302 hph302
  have hd302 := hd302.trans ((by simp only [putsL_defers] : _ = _).trans hd112)
  have := E302.size
  have hB5 := hB5.keep0 E302
  have hc104 := hc104.keep0 E302
  have hk297 := hk297.keepG (zi E302 NoB) (fun _ _ h => h)
  have hw297 := hw297.keep0 E302
  have hb := hb.step0 E302
  have s302_2 := (hbs302 2 rfl).trans (zL hN112 rfl s112_2)
  have s302_92 : Sl a302 92 (.agg #[(.int .i64 8), (.string (bs (D8.getD r9 default).t.nm)), (.string (bs [])), (.slice none 0 0), (.slice none 0 0), (.slice none 0 0), (.slice none 0 0), (.string (bs [])), (.slice none 0 0), wv297, (.slice none 0 0), (.bool false), (.slice none 0 0)]) := (zE ((hph302 6 _ 92 rfl rfl).1 rfl)).symm
  refine split_end ?_
  refine from_seq (tl := [_]) zz zy rfl ?_
  refine zZ size45 (zC hN302 rfl s302_2) (zC hN302 rfl s302_92) rfl (by simp only [List.all_cons, List.all_nil, Bool.true_and, Bool.and_true, hw297.1.one]; try rfl) hB5 rfl ?_
  intro w305 hB5 E306
  have := E306.size
  have hc104 := hc104.keep E306 sO
  have hk297 := hk297.keepG (Gr.of E306) (Dj.one dj6)
  have hw297 := hw297.keep E306 sO
  have hb := hb.step1 E306 zx
  refine zB ?_
  refine hK294 _ _ (wp_ret (zb (zO ( ?_))))
  refine retC rfl hd302 (zC hN302 rfl s302_2) agg45 rfl hB5 ⟨_, rfl, ?_⟩
  exact ⟨hb, XS.mk (StF.mk 8 ((D8.getD r9 default).t.nm) [] (.slice none 0 0) [] (.slice none 0 0) [] (.slice none 0 0) [] (.slice none 0 0) [] [] (.slice none 0 0) [] wv297 wh297 (.slice none 0 0) [] false) (.slice none 0 0) [], rfl, SFr.flat ⟨(rdN _ _ _ _), (rdN _ _ _ _), (XsFr.nil _ _ _), (rdN _ _ _ _), (XsFr.nil _ _ _), (hw297.mono zx zx), (XsFr.nil _ _ _)⟩ rfl rfl, n297, hk297, by omega, fun h9 => by omega⟩
 refine zD (zA hN112 rfl) ?_
 refine zB ?_
 refine hK293 _ _ (wp_cond_false (zA hN112 rfl) (wp_skip (hK107 _ _ (zF fun K307 hK307 => ?_))))
 refine zH ?_
 refine zG (zC hN112 rfl s112_0) ?_
 refine zY agg39 rfl (zC hN112 rfl s112_3) hB14 ?_
 refine zY agg55 rfl (zC hN112 rfl s112_4) hx4 ?_
 refine zj ok38 (selected_ret (r := r9) hk109 zx hbl hT8 hM8 zx zx zx) ⟨(zA hN112 rfl), ⟨(zA hN112 rfl), ⟨(zA hN112 rfl), trivial⟩⟩⟩ ?_
 rintro _ w309 ⟨E310, sq308, rfl, hs308, n308, hk308, hn308⟩
 have := E310.size
 have hB5 := hB5.keepG E310 dj6
 have hc104 := hc104.keepG E310 sP
 have hb := hb.stepF E310 (fun _ _ h => h)
 refine zZ size45 (zC hN112 rfl s112_2) (zA hN112 rfl) rfl (by simp only [List.all_cons, List.all_nil, Bool.true_and, Bool.and_true, hs308.ff.1.one, hs308.ff.2.1.one, hs308.ff.2.2.1.1.one, hs308.ff.2.2.2.1.one, hs308.ff.2.2.2.2.1.1.one, hs308.ff.2.2.2.2.2.1.1.one, hs308.ff.2.2.2.2.2.2.1.one, hs308.nvr.one]; try rfl) hB5 rfl ?_
 intro w313 hB5 E314
 have := E314.size
 have hc104 := hc104.keep E314 sO
 have hk308 := hk308.keepG (Gr.of E314) (Dj.one dj6)
 have hs308 := hs308.keep E314 sO
 have hb := hb.step1 E314 zx
 refine zB ?_
 refine hK307 _ _ (wp_ret ?_)
 refine retC rfl hd112 (zC hN112 rfl s112_2) agg45 rfl hB5 ⟨_, rfl, ?_⟩
 exact ⟨hb, sq308, rfl, hs308.mono zx zx, n308, hk308, by omega, fun h9 => by omega⟩

end Go.Proofs.Ythflnkfghogaoaa

namespace Go.Gx
open Go.RowKit
section
variable {P : Program} {ol : List Oper} {Q : Exit → Act → World → Prop} {a0 : Act} {N : Nat} {F : Nat → Prop} {Pk : World → Prop}
def StR (F : Nat → Prop) : List (Value → World → Prop) → Prop
  | [] => True
  | φ :: L => (∀ u w1 w2, Gr w1 w2 F → φ u w1 → φ u w2) ∧ StR F L
theorem StR.get : ∀ {L : List (Value → World → Prop)}, StR F L → ∀ j u w1 w2, Gr w1 w2 F → phiL L j u w1 → phiL L j u w2
  | [], _, j, _, _, _, _, _ => by simp [phiL]
  | φ :: L, h, 0, u, w1, w2, E, hp => h.1 u w1 w2 E hp
  | φ :: L, h, j + 1, u, w1, w2, E, hp => StR.get h.2 j u w1 w2 E (by simpa [phiL] using hp)
theorem StR.nil : StR F [] := trivial
theorem StR.cons {φ : Value → World → Prop} {L : List (Value → World → Prop)} (h : ∀ u w1 w2, Gr w1 w2 F → φ u w1 → φ u w2) (h' : StR F L) : StR F (φ :: L) := ⟨h, h'⟩
def ObW9 (P : Program) (ol : List Oper) (Φ : Nat → Value → World → Prop) (Pk : World → Prop) (F : Nat → Prop) (a0 : Act) (N : Nat) (w0 : World) (i : Nat) (o : Oper) : Prop :=
  ∀ (a : Act) (w : World), a.tmps.size = N → Gr w0 w F → Pk w → (∀ t, safeB ol i t = true → a.tmps.getD t undef = a0.tmps.getD t undef) → (∀ j oj d, depB ol i j = true → ol[j]? = some oj → oj.dst = some d → Φ j (a.tmps.getD d undef) w) →
    wpList P ol.toArray (fun e a' w' => e = .normal ∧ (∃ d v, o.dst = some d ∧ a' = putsL a [(d, v)] ∧ Φ i v w') ∧ w.grownBy w' none) [o] (putsL a []) w
def ObT9 (P : Program) (ol : List Oper) (Φ : Nat → Value → World → Prop) (Pk : World → Prop) (F : Nat → Prop) (a0 : Act) (N : Nat) (w0 : World) (i : Nat) (o : Oper) : Prop :=
  ∀ (a : Act) (w : World), a.tmps.size = N → Gr w0 w F → Pk w → (∀ t, safeB ol i t = true → a.tmps.getD t undef = a0.tmps.getD t undef) → (∀ j oj d, depB ol i j = true → ol[j]? = some oj → oj.dst = some d → Φ j (a.tmps.getD d undef) w) →
    wpList P ol.toArray (fun e a' w' => e = .normal ∧ ((o.dst = none ∧ a' = a) ∨ ∃ d v, o.dst = some d ∧ a' = putsL a [(d, v)] ∧ Φ i v w') ∧ Pk w' ∧ Gr w w' F) [o] (putsL a []) w
def ObWs9 (P : Program) (ol : List Oper) (Φ : Nat → Value → World → Prop) (Pk : World → Prop) (F : Nat → Prop) (a0 : Act) (N : Nat) (w0 : World) (ops : List Nat) : Nat → List Oper → Prop
  | _, [] => True
  | i, o :: r => ((ops.contains i = false → ObW9 P ol Φ Pk F a0 N w0 i o) ∧ (ops.contains i = true → ObT9 P ol Φ Pk F a0 N w0 i o)) ∧ ObWs9 P ol Φ Pk F a0 N w0 ops (i + 1) r
section
variable {Φ : Nat → Value → World → Prop} {w0 : World} {ops : List Nat}
theorem ObWs9.nil {i : Nat} : ObWs9 P ol Φ Pk F a0 N w0 ops i [] := trivial
theorem ObWs9.cons {i : Nat} {o : Oper} {r : List Oper} (hh : ops.contains i = false) (h : ObW9 P ol Φ Pk F a0 N w0 i o) (h' : ObWs9 P ol Φ Pk F a0 N w0 ops (i + 1) r) : ObWs9 P ol Φ Pk F a0 N w0 ops i (o :: r) := ⟨⟨fun _ => h, fun g => absurd (hh.symm.trans g) (by decide)⟩, h'⟩
theorem ObWs9.turn {i : Nat} {o : Oper} {r : List Oper} (hh : ops.contains i = true) (h : ObT9 P ol Φ Pk F a0 N w0 i o) (h' : ObWs9 P ol Φ Pk F a0 N w0 ops (i + 1) r) : ObWs9 P ol Φ Pk F a0 N w0 ops i (o :: r) := ⟨⟨fun g => absurd (hh.symm.trans g) (by decide), fun _ => h⟩, h'⟩
theorem ObWs9.get : ∀ {l : List Oper} {i : Nat}, ObWs9 P ol Φ Pk F a0 N w0 ops i l → ∀ j o, l[j]? = some o → (ops.contains (i + j) = false → ObW9 P ol Φ Pk F a0 N w0 (i + j) o) ∧ (ops.contains (i + j) = true → ObT9 P ol Φ Pk F a0 N w0 (i + j) o)
  | [], _, _, j, o, h => by simp at h
  | o :: l, i, h, 0, o', hj => by simp at hj; subst hj; exact h.1
  | o :: l, i, h, j + 1, o', hj => by have := ObWs9.get h.2 j o' (by simpa using hj); rw [Nat.add_assoc, Nat.add_comm 1 j] at this; exact this
end
theorem any_rel (ops : List Nat) {L : List (Value → World → Prop)} (hlex : lexB' ol = true) (hdn : dstNB ol N = true) (hdst : dstsB ol = true) (hch : (⟨ops, fun _ => N⟩ : Chain).okB ol = true)
    {l : List (Nat × Value)} {w : World} (hN : a0.tmps.size = N) (hPk : ∀ w1 w2, w1.grownBy w2 none → Pk w1 → Pk w2) (p0 : Pk w) (hL : StR F L)
    (ob : ObWs9 P ol (phiL L) Pk F (putsL a0 l) N w ops 0 ol)
    (fin : ∀ a' w', a'.tmps.size = N → a'.defers = a0.defers → (∀ t, (ol.all fun o => o.dst != some t) = true → a'.tmps.getD t undef = (putsL a0 l).tmps.getD t undef) →
      (∀ j oj d, ol[j]? = some oj → oj.dst = some d → phiL L j (a'.tmps.getD d undef) w') → Pk w' → Gr w w' F → Q .normal (putsL a' []) w') : RegAny P ol Q (putsL a0 l) w := by
  refine any_mid0 (Φ := phiL L) (C := fun _ _ w => Pk w) (ch := ⟨ops, fun _ => N⟩) (R := fun w1 w2 => Gr w1 w2 F) hlex hdn hdst hch (fun w => Gr.refl w F) (fun _ _ _ h1 h2 => h1.go h2 fun _ _ h => h) (fun _ _ h => Gr.of0 h F) (fun j u w1 w2 E h => hL.get j u w1 w2 E h)
    (fun _ _ _ _ E h => hPk _ _ E h) hN p0 (fun i o hi hh => fun a w c h1 h2 h3 h4 h5 h6 h7 => ?_) (fun c i o hc hi => fun a w h1 h2 h3 h4 h5 => ?_) fin
  · have h9 := ob.get i o hi
    rw [Nat.zero_add] at h9
    exact h9.1 hh a w h1 h2 h5 h6 h7
  · have h9 := ob.get i o hi
    rw [Nat.zero_add] at h9
    have hm : ops.contains i = true := by simpa using List.mem_of_getElem? hc
    exact h9.2 hm a w h1 h2 h5 h3 h4
theorem obW_rel {Φ : Nat → Value → World → Prop} {o : Oper} {op : Array Oper} {i d : Nat} {v : Value} {a : Act} {w w' : World} (hd : o.dst = some d) (hφ : Φ i v w') (E : w.grownBy w' none) :
    wpList P op (fun e a' w' => e = .normal ∧ (∃ d v, o.dst = some d ∧ a' = putsL a [(d, v)] ∧ Φ i v w') ∧ w.grownBy w' none) [] (putsL a [(d, v)]) w' := ⟨rfl, ⟨d, v, hd, rfl, hφ⟩, E⟩
theorem obT_rel {Φ : Nat → Value → World → Prop} {o : Oper} {op : Array Oper} {i d : Nat} {v : Value} {a : Act} {w w' : World} (hd : o.dst = some d) (hφ : Φ i v w') (hp : Pk w') (E : Gr w w' F) :
    wpList P op (fun e a' w' => e = .normal ∧ ((o.dst = none ∧ a' = a) ∨ ∃ d v, o.dst = some d ∧ a' = putsL a [(d, v)] ∧ Φ i v w') ∧ Pk w' ∧ Gr w w' F) [] (putsL a [(d, v)]) w' := ⟨rfl, .inr ⟨d, v, hd, rfl, hφ⟩, hp, E⟩
end
theorem PtC.keepG {w w' : World} {L B b off : Nat} {cs : List Value} {F : Nat → Prop} (h : PtC w L B b off cs) (E : Gr w w' F) (hn : ∀ k, F k → k < L ∨ B ≤ k) : PtC w' L B b off cs := by
  obtain ⟨h0, h1, h2⟩ := h
  refine ⟨h0, h1, fun j u hu => ?_⟩
  have hc := h2 j u hu
  have hlt : b < w.heap.size := by
    by_cases hb : b < w.heap.size
    · exact hb
    · simp [World.cell?, hb] at hc
  have := E.block b hlt (fun hf => by rcases hn b hf with h | h <;> omega)
  simpa [World.cell?, this] using hc
end Go.Gx

namespace Go.Proofs.Ythflnkfghogaoaa
open Go.Gx Go.RowKit
attribute [local irreducible] wpList wpStill Code.wp Calls
theorem Over_t {base p n Bp : Nat} {lv : Value} {bl : List UInt8} {w : World} (hpk : PickR w base p lv bl n (fun k => k = p)) (hBp : Bp ≤ p) (hbl : RdC w 0 Bp 1 lv bl.length (bl.map u8v)) : Ret Try.prog 40 #[ptr p 0] w (fun v' w' => Gr w w' (fun k => k = p) ∧ v' = .bool (decide (bl.length ≤ n)) ∧ ∃ n' : Nat, PickR w' base p lv bl n' (fun k => k = p) ∧ n ≤ n' ∧ n' = n) :=
  (Over_ret hpk hBp hbl).mono fun v' w' h => ⟨h.1, h.2.1, n, h.2.2, Nat.le_refl _, rfl⟩

set_option maxHeartbeats 8000000 in
theorem Stmt_ret {base p n Bp : Nat} {lv : Value} {bl : List UInt8} {w : World} (hpk : PickR w base p lv bl n (fun k => k = p)) (hBp : Bp ≤ p) (hbl : RdC w 0 Bp 1 lv bl.length (bl.map u8v)) : Ret Try.prog 18 #[(ptr p 0)] w (fun v' w' => Gr w w' (fun k => k = p) ∧ ∃ s : XS, v' = (.agg #[(.int .i64 s.f.kind), (.string (bs s.f.tb)), (.string (bs s.f.nm)), s.f.cv, s.f.gv, s.f.vv, s.f.iv, (.string (bs s.f.join)), s.f.ov, s.f.wv, s.f.rv, (.bool s.f.desc), s.nv]) ∧ SFr w' w.heap.size w'.heap.size s ∧ ∃ n' : Nat, PickR w' base p lv bl n' (fun k => k = p) ∧ n ≤ n') := by
 have hi_p : p < w.heap.size := (hpk.lt p rfl).2
 have hb := Gr.refl w (fun k => k = p)
 refine enter (N := 130) Try.func18 rfl rfl (by simp) fun a0 hN hd hA => ?_
 have s0 : a0.tmps.getD 0 undef = (ptr p 0) := hA 0 (by simp)
 clear hA
 refine zF fun K1 hK1 => ?_
 refine zH ?_
 refine op_alloc (cs := [(.int .i64 0), (.string (bs [])), (.string (bs [])), (.slice none 0 0), (.slice none 0 0), (.slice none 0 0), (.slice none 0 0), (.string (bs [])), (.slice none 0 0), (.slice none 0 0), (.slice none 0 0), (.bool false), (.slice none 0 0)]) zero45 rfl ?_
 intro w2 b3 lo_b3 hi_b3 hB5 E4
 have dj6 : ¬ (fun k => k = p) b3 := fun hf => by have := (hpk.lt _ hf).2; omega
 have := E4.size
 have hpk := hpk.keepG (zi E4 NoB) (fun _ _ h => h)
 have hbl := hbl.keep0 E4
 have hb := hb.step0 E4
 refine zB ?_
 refine hK1 _ _ (zF fun K7 hK7 => ?_)
 refine zF fun K8 hK8 => ?_
 refine zH ?_
 refine zG (zC hN rfl s0) ?_
 refine zj ok35 (Num_ret (m := 14) hpk zx hbl zx zx) ⟨(zA hN rfl), ⟨rfl, trivial⟩⟩ ?_
 rintro _ w10 ⟨E11, r9, rfl, hr9, n9, hk9, hn9, hn9x⟩
 have hpk_old := hpk
 have := E11.size
 have hbl := hbl.keepG E11 (fun k hk => .inr (by have := hpk_old.lt k hk; omega))
 have hB5 := hB5.keepG E11 dj6
 have hb := hb.stepF E11 (fun _ _ h => h)
 refine zB ?_
 refine hK8 _ _ (wp_block ?_)
 refine zF fun K12 hK12 => ?_
 refine zH ?_
 refine op_eql (zA hN rfl) rfl (fun c11 => ?_) (fun c11 => ?_)
 ·
  refine zD (zA hN rfl) ?_
  refine zB ?_
  refine hK12 _ _ (wp_cond_true (zA hN rfl) (zF fun K13 hK13 => ?_))
  refine zH ?_
  refine op_bslice (e := 9) (pv := [(0, (.string (bs [116]))), (1, (.string (bs [117]))), (2, (.string (bs [119]))), (3, (.string (bs [120])))]) (cs := [(.string (bs [116])), (.string (bs [117])), (.string (bs [119])), (.string (bs [120]))]) ⟨rfl, rfl, ⟨rfl, rfl, ⟨rfl, rfl, ⟨rfl, rfl, trivial⟩⟩⟩⟩ zy ?_
  intro w14 b15 lo_b15 hi_b15 hB17 E16
  have dj18 : ¬ (fun k => k = p) b15 := fun hf => by have := (hk9.lt _ hf).2; omega
  have := E16.size
  have hbl := hbl.keep0 E16
  have hB5 := hB5.keep0 E16
  have hk9 := hk9.keepG (zi E16 NoB) (fun _ _ h => h)
  have hb := hb.step0 E16
  refine zG (zC hN rfl s0) ?_
  refine zj ok35 (Num_ret (m := 4) hk9 zx hbl zx zx) ⟨(zA hN rfl), ⟨rfl, trivial⟩⟩ ?_
  rintro _ w20 ⟨E21, r19, rfl, hr19, n19, hk19, hn19, hn19x⟩
  have hk9_old := hk9
  have := E21.size
  have hbl := hbl.keepG E21 (fun k hk => .inr (by have := hk9_old.lt k hk; omega))
  have hB5 := hB5.keepG E21 dj6
  have hB17 := hB17.keepG E21 dj18
  have hb := hb.stepF E21 (fun _ _ h => h)
  refine zh slt53 (zA hN rfl) (RdC.ofBx (sz := 1) (n := 4) hB17 rfl zz) (zA hN rfl) zx zx ?_
  intro b22 o23 h0b22 h1b22 hc24
  refine zN (v := (Value.string (bs (([[116], [117], [119], [120]] : List (List UInt8)).getD r19 [])))) one9 (zA hN rfl) (by have := hc24 0 (.string (bs (([[116], [117], [119], [120]] : List (List UInt8)).getD r19 []))) zz (el_sv (l := ([[116], [117], [119], [120]] : List (List UInt8))) (i := r19) rfl (show _ < 4 by omega)); simpa using this) ?_
  refine zf (pv := [(0, (.int .i64 1)), (2, (.string (bs (([[116], [117], [119], [120]] : List (List UInt8)).getD r19 []))))]) (v := (Value.agg #[(.int .i64 1), (.string (bs [])), (.string (bs (([[116], [117], [119], [120]] : List (List UInt8)).getD r19 []))), (.slice none 0 0), (.slice none 0 0), (.slice none 0 0), (.slice none 0 0), (.string (bs [])), (.slice none 0 0), (.slice none 0 0), (.slice none 0 0), (.bool false), (.slice none 0 0)])) ⟨rfl, rfl, ⟨rfl, (zA hN rfl), trivial⟩⟩ zy ?_
  refine op_alloc (cs := [(.int .i64 0), (.string (bs [])), (.string (bs [])), (.slice none 0 0), (.slice none 0 0), (.slice none 0 0), (.slice none 0 0), (.string (bs [])), (.slice none 0 0), (.slice none 0 0), (.slice none 0 0), (.bool false), (.slice none 0 0)]) zero45 rfl ?_
  intro w25 b26 lo_b26 hi_b26 hB28 E27
  have dj29 : ¬ (fun k => k = p) b26 := fun hf => by have := (hk19.lt _ hf).2; omega
  have := E27.size
  have hbl := hbl.keep0 E27
  obtain ⟨hB5, hB17⟩ := kb2 E27 hB5 hB17
  have hk19 := hk19.keepG (zi E27 NoB) (fun _ _ h => h)
  have hb := hb.step0 E27
  have hB28_old := hB28
  refine zZ size45 (zA hN rfl) (zA hN rfl) rfl rfl hB28 rfl ?_
  intro w32 hB28 E33
  have := E33.size
  have hbl := hbl.keep E33 sR
  have hB5 := hB5.keep E33 sB
  have hB17 := hB17.keep E33 (sN hB17 hB28_old)
  have hk19 := hk19.keepG (Gr.of E33) (Dj.one dj29)
  have hb := hb.step1 E33 zx
  refine zB ?_
  refine hK13 _ _ (zF fun K34 hK34 => ?_)
  refine zF fun K35 hK35 => ?_
  refine zH ?_
  refine zG (zC hN rfl s0) ?_
  refine zj ok35 (Num_ret (m := 4) hk19 zx hbl zx zx) ⟨(zA hN rfl), ⟨rfl, trivial⟩⟩ ?_
  rintro _ w37 ⟨E38, r36, rfl, hr36, n36, hk36, hn36, hn36x⟩
  have hk19_old := hk19
  have := E38.size
  have hbl := hbl.keepG E38 (fun k hk => .inr (by have := hk19_old.lt k hk; omega))
  have hB5 := hB5.keepG E38 dj6
  have hB17 := hB17.keepG E38 dj18
  have hB28 := hB28.keepG E38 dj29
  have hb := hb.stepF E38 (fun _ _ h => h)
  refine zD (zA hN rfl) ?_
  refine zB ?_
  refine hK35 _ _ (wp_block ?_)
  refine loop_m (fun mz_ az_ w' => ∃ (i n2 : Nat) (lv2 : Value) (C2 : List PCol), mz_ = (i + 1) ∧ (az_.tmps.getD 0 undef = (ptr p 0)) ∧ (az_.tmps.getD 2 undef = (ptr b3 0)) ∧ (az_.tmps.getD 3 undef = (ptr b26 0)) ∧ (az_.tmps.getD 4 undef = (.int .i64 (((i : Nat) : Int) - 1))) ∧ (C2.length + i ≤ 4) ∧ (n ≤ n2) ∧ (Gr w w' (fun k => k = p)) ∧ (w37.heap.size ≤ w'.heap.size) ∧ (RdC w' 0 Bp 1 lv bl.length (bl.map u8v)) ∧ (Bx w' b3 45 [(.int .i64 0), (.string (bs [])), (.string (bs [])), (.slice none 0 0), (.slice none 0 0), (.slice none 0 0), (.slice none 0 0), (.string (bs [])), (.slice none 0 0), (.slice none 0 0), (.slice none 0 0), (.bool false), (.slice none 0 0)]) ∧ (Bx w' b15 9 [(.string (bs [116])), (.string (bs [117])), (.string (bs [119])), (.string (bs [120]))]) ∧ (Bx w' b26 45 [(.int .i64 1), (.string (bs [])), (.string (bs (([[116], [117], [119], [120]] : List (List UInt8)).getD r19 []))), lv2, (.slice none 0 0), (.slice none 0 0), (.slice none 0 0), (.string (bs [])), (.slice none 0 0), (.slice none 0 0), (.slice none 0 0), (.bool false), (.slice none 0 0)]) ∧ (PickR w' base p lv bl n2 (fun k => k = p)) ∧ (Own w' w37.heap.size 68 3 lv2 C2.length (C2.flatMap cellsC))) _ hN hd ⟨_, _, (.slice none 0 0), [], rfl, (zL hN rfl s0), (zU hN rfl), (zU hN rfl), (zU hN rfl).trans (congrArg (Value.int .i64) (show _ = (((r36 + 1 : Nat) : Int) - 1) by omega)), (by simp; omega), zx, hb, (Nat.le_refl _), hbl, hB5, hB17, hB28, hk36, (Own.nil _ _ _ _)⟩ ?_
  rintro _ a39 w39 hN39 hd39 ⟨i, n2, lv2, C2, rfl, s39_0, s39_2, s39_3, s39_4, hil, hn2, hb, zl_w39, hbl, hB5, hB17, hxl, hpk, hO40⟩
  have := hb.size
  refine zF fun K41 hK41 => ?_
  refine zF fun K42 hK42 => ?_
  refine zH ?_
  refine zG (zC hN39 rfl s39_4) ?_
  refine op_geq (zA hN39 rfl) rfl (fun c21 => ?_) (fun c21 => ?_)
  ·
   refine zB ?_
   refine hK42 _ _ (wp_cond_true (zA hN39 rfl) (wp_skip (hK41 _ _ (zF fun K43 hK43 => ?_))))
   refine wp_block ?_
   refine zF fun K44 hK44 => ?_
   have lw_lv2 := hO40.lt
   refine reg_split (hd := [_, _, _, _, _, _, _, _, _, _, _, _, _, _, _, _, _]) (tl := _) 17 mixed zy rfl rfl ?_
   refine any_rel (F := (fun k => k = p)) (Pk := (fun w' => ∃ nK, n2 ≤ nK ∧ PickR w' base p lv bl nK (fun k => k = p))) (L := [(fun uz w' => ∃ (b46 : Nat), uz = (.slice (some ⟨b46, 0, none⟩) 4 4) ∧ (w39.heap.size ≤ b46) ∧ Bx w' b46 9 [(.string (bs [107])), (.string (bs [118])), (.string (bs [110])), (.string (bs [114]))]), (fun uz _ => uz = (.int .i64 (((i : Nat) : Int) - 1))), (fun uz _ => uz = (.int .i64 ((4 - i : Nat) : Int))), (fun uz _ => uz = (ptr p 0)), (fun uz _ => ∃ (r50 : Nat), uz = (.int .i64 ((r50 : Nat) : Int)) ∧ (r50 < 2)), (fun uz _ => uz = (ptr p 0)), (fun uz _ => ∃ (r53 : Nat), uz = (.int .i64 ((r53 : Nat) : Int)) ∧ (r53 < 3)), (fun uz _ => ∃ (z68 : Nat), uz = (.int .i64 ((z68 : Nat) : Int)) ∧ (z68 ≤ 8000)), (fun uz _ => ∃ (z69 : Nat), uz = (.int .i64 ((z69 : Nat) : Int)) ∧ (z69 ≤ 9000)), (fun uz _ => ∃ (z70 : Nat), uz = (.int .i64 ((z70 : Nat) : Int)) ∧ (z70 < 4)), (fun uz w' => ∃ (b56 : Nat) (o57 : Nat) (z71 : List UInt8), uz = (ptr b56 o57) ∧ (w39.heap.size ≤ b56) ∧ PtC w' b56 (b56 + 1) b56 o57 [(.string (bs z71))]), (fun uz _ => ∃ (z72 : List UInt8), uz = (.string (bs z72))), (fun uz _ => uz = (ptr p 0)), (fun uz _ => ∃ (r60 : Nat), uz = (.int .i64 ((r60 : Nat) : Int)) ∧ (r60 < 2)), (fun uz _ => ∃ (z73 : Nat), uz = (.int .i64 ((z73 : Nat) : Int)) ∧ (z73 ≤ 15000)), (fun uz _ => ∃ (z74 : List UInt8) (z75 : Nat), uz = (.agg #[(.string (bs z74)), (.int .i64 ((z75 : Nat) : Int)), (.string (bs []))]) ∧ (z75 ≤ 16000)), (fun uz w' => ∃ (b64 : Nat), uz = (ptr b64 0) ∧ (w39.heap.size ≤ b64) ∧ Bx w' b64 68 [(.string (bs [])), (.int .i64 0), (.string (bs []))])]) [4, 6, 13] zy zy zy zy hN39 (fun w1 w2 E h => by obtain ⟨x, h1, h2⟩ := h; exact ⟨x, h1, h2.keepG (zi E NoB) (fun _ _ h => h)⟩) ⟨_, Nat.le_refl _, hpk⟩ (StR.cons (fun u w1 w2 E h => by obtain ⟨b46, hv9, hp0, hf0⟩ := h; exact ⟨b46, hv9, hp0, hf0.keepG E (fun hf => by have h9 : b46 = p := hf; omega)⟩) (StR.cons (fun _ _ _ _ h => h) (StR.cons (fun _ _ _ _ h => h) (StR.cons (fun _ _ _ _ h => h) (StR.cons (fun _ _ _ _ h => h) (StR.cons (fun _ _ _ _ h => h) (StR.cons (fun _ _ _ _ h => h) (StR.cons (fun _ _ _ _ h => h) (StR.cons (fun _ _ _ _ h => h) (StR.cons (fun _ _ _ _ h => h) (StR.cons (fun u w1 w2 E h => by obtain ⟨b56, o57, z71, hv9, hp0, hf0⟩ := h; exact ⟨b56, o57, z71, hv9, hp0, hf0.keepG E sP⟩) (StR.cons (fun _ _ _ _ h => h) (StR.cons (fun _ _ _ _ h => h) (StR.cons (fun _ _ _ _ h => h) (StR.cons (fun _ _ _ _ h => h) (StR.cons (fun _ _ _ _ h => h) (StR.cons (fun u w1 w2 E h => by obtain ⟨b64, hv9, hp0, hf0⟩ := h; exact ⟨b64, hv9, hp0, hf0.keepG E (fun hf => by have h9 : b64 = p := hf; omega)⟩) (StR.nil)))))))))))))))))) (ObWs9.cons rfl ?_ (ObWs9.cons rfl ?_ (ObWs9.cons rfl ?_ (ObWs9.cons rfl ?_ (ObWs9.turn rfl ?_ (ObWs9.cons rfl ?_ (ObWs9.turn rfl ?_ (ObWs9.cons rfl ?_ (ObWs9.cons rfl ?_ (ObWs9.cons rfl ?_ (ObWs9.cons rfl ?_ (ObWs9.cons rfl ?_ (ObWs9.cons rfl ?_ (ObWs9.turn rfl ?_ (ObWs9.cons rfl ?_ (ObWs9.cons rfl ?_ (ObWs9.cons rfl ?_ (ObWs9.nil)))))))))))))))))) ?_
   ·
    intro aA wA hNA hRA hPA hbsA hdpA
    obtain ⟨nA, hnA, hkA⟩ := hPA
    have := hRA.size
    refine op_bslice (e := 9) (pv := [(0, (.string (bs [107]))), (1, (.string (bs [118]))), (2, (.string (bs [110]))), (3, (.string (bs [114])))]) (cs := [(.string (bs [107])), (.string (bs [118])), (.string (bs [110])), (.string (bs [114]))]) ⟨rfl, rfl, ⟨rfl, rfl, ⟨rfl, rfl, ⟨rfl, rfl, trivial⟩⟩⟩⟩ zy ?_
    intro w76 b77 lo_b77 hi_b77 hB79 E78
    have dj80 : ¬ (fun k => k = p) b77 := fun hf => by have := (hkA.lt _ hf).2; omega
    have := E78.size
    exact obW_rel rfl ⟨b77, rfl, (by first | assumption | omega), hB79⟩ E78
   ·
    intro aA wA hNA hRA hPA hbsA hdpA
    have qA_4 := (hbsA 4 rfl).trans (zL hN39 rfl s39_4)
    refine zG (zC hNA rfl qA_4) ?_
    exact obW_rel rfl rfl (grown_refl _ _)
   ·
    intro aA wA hNA hRA hPA hbsA hdpA
    have qA_25 : Sl aA 25 (.int .i64 (((i : Nat) : Int) - 1)) := hdpA 1 _ 25 zy rfl rfl
    refine op_sub (r := ((4 - i : Nat) : Int)) rfl (zC hNA rfl qA_25) ((sub64 zx).trans zx) ?_
    exact obW_rel rfl rfl (grown_refl _ _)
   ·
    intro aA wA hNA hRA hPA hbsA hdpA
    have qA_0 := (hbsA 0 rfl).trans (zL hN39 rfl s39_0)
    refine zG (zC hNA rfl qA_0) ?_
    exact obW_rel rfl rfl (grown_refl _ _)
   ·
    intro aA wA hNA hRA hPA hbsA hdpA
    obtain ⟨nA, hnA, hkA⟩ := hPA
    have hpk_old := hpk
    have := hRA.size
    have hbl := hbl.keepG hRA (fun k hk => .inr (by have := hpk_old.lt k hk; omega))
    have qA_27 : Sl aA 27 (ptr p 0) := hdpA 3 _ 27 zy rfl rfl
    refine zj ok35 (Num_ret (m := 2) hkA zx hbl zx zx) ⟨(zC hNA rfl qA_27), ⟨rfl, trivial⟩⟩ ?_
    rintro _ w82 ⟨E83, r81, rfl, hr81, n81, hk81, hn81, hn81x⟩
    have := E83.size
    exact obT_rel rfl ⟨r81, rfl, (by first | assumption | omega)⟩ ⟨n81, by omega, hk81⟩ E83
   ·
    intro aA wA hNA hRA hPA hbsA hdpA
    have qA_0 := (hbsA 0 rfl).trans (zL hN39 rfl s39_0)
    refine zG (zC hNA rfl qA_0) ?_
    exact obW_rel rfl rfl (grown_refl _ _)
   ·
    intro aA wA hNA hRA hPA hbsA hdpA
    obtain ⟨nA, hnA, hkA⟩ := hPA
    have hpk_old := hpk
    have := hRA.size
    have hbl := hbl.keepG hRA (fun k hk => .inr (by have := hpk_old.lt k hk; omega))
    have qA_29 : Sl aA 29 (ptr p 0) := hdpA 5 _ 29 zy rfl rfl
    refine zj ok35 (Num_ret (m := 3) hkA zx hbl zx zx) ⟨(zC hNA rfl qA_29), ⟨rfl, trivial⟩⟩ ?_
    rintro _ w85 ⟨E86, r84, rfl, hr84, n84, hk84, hn84, hn84x⟩
    have := E86.size
    exact obT_rel rfl ⟨r84, rfl, (by first | assumption | omega)⟩ ⟨n84, by omega, hk84⟩ E86
   ·
    intro aA wA hNA hRA hPA hbsA hdpA
    obtain ⟨r50, qA_28, hp4_0⟩ := hdpA 4 _ 28 zy rfl rfl
    obtain ⟨r53, qA_30, hp6_0⟩ := hdpA 6 _ 30 zy rfl rfl
    have hm9 : r50 * r53 ≤ 1 * 2 := Nat.mul_le_mul zx zx
    refine op_mul (zC hNA rfl qA_28) (zC hNA rfl qA_30) (mul64 zx) ?_
    exact obW_rel rfl ⟨(r50 * r53), rfl, (by first | assumption | omega)⟩ (grown_refl _ _)
   ·
    intro aA wA hNA hRA hPA hbsA hdpA
    have qA_26 : Sl aA 26 (.int .i64 ((4 - i : Nat) : Int)) := hdpA 2 _ 26 zy rfl rfl
    obtain ⟨z68, qA_31, hp7_0⟩ := hdpA 7 _ 31 zy rfl rfl
    refine op_add (zC hNA rfl qA_26) (zC hNA rfl qA_31) (add64 zx) ?_
    exact obW_rel rfl ⟨((4 - i) + z68), rfl, (by first | assumption | omega)⟩ (grown_refl _ _)
   ·
    intro aA wA hNA hRA hPA hbsA hdpA
    obtain ⟨z69, qA_32, hp8_0⟩ := hdpA 8 _ 32 zy rfl rfl
    refine op_rem (r := ((z69 % 4 : Nat) : Int)) (zC hNA rfl qA_32) rfl zz (by rw [Int.tmod_eq_emod_of_nonneg zx]; omega) ?_
    exact obW_rel rfl ⟨(z69 % 4), rfl, (by first | assumption | omega)⟩ (grown_refl _ _)
   ·
    intro aA wA hNA hRA hPA hbsA hdpA
    obtain ⟨nA, hnA, hkA⟩ := hPA
    have := hRA.size
    obtain ⟨b46, qA_24, hp0_0, hB48⟩ := hdpA 0 _ 24 zy rfl rfl
    obtain ⟨z70, qA_33, hp9_0⟩ := hdpA 9 _ 33 zy rfl rfl
    refine zh slt53 (zC hNA rfl qA_24) (RdC.ofBx (sz := 1) (n := 4) hB48 rfl zz) (zC hNA rfl qA_33) zx zx ?_
    intro b90 o91 h0b90 h1b90 hc92
    have hp93 : PtC wA b46 (b46 + 1) b90 o91 [(.string (bs (([[107], [118], [110], [114]] : List (List UInt8)).getD z70 [])))] := ⟨by omega, by omega, fun j u hu => hc92 j u (by have := (List.getElem?_eq_some_iff.1 hu).1; simpa using this) ((fun j u hu => one_at (el_sv (l := ([[107], [118], [110], [114]] : List (List UInt8))) (i := z70) rfl (show _ < 4 by omega)) hu) j u hu)⟩
    exact obW_rel rfl ⟨b90, o91, (([[107], [118], [110], [114]] : List (List UInt8)).getD z70 []), rfl, (by have h9 := hp93.1; first | assumption | omega), ⟨Nat.le_refl _, Nat.lt_succ_self _, hp93.2.2⟩⟩ (grown_refl _ _)
   ·
    intro aA wA hNA hRA hPA hbsA hdpA
    obtain ⟨nA, hnA, hkA⟩ := hPA
    have := hRA.size
    obtain ⟨b56, o57, z71, qA_34, hp10_0, hp59⟩ := hdpA 10 _ 34 zy rfl rfl
    refine zN (v := (Value.string (bs z71))) one9 (zC hNA rfl qA_34) (hp59.2.2 0 _ rfl) ?_
    exact obW_rel rfl ⟨z71, rfl⟩ (grown_refl _ _)
   ·
    intro aA wA hNA hRA hPA hbsA hdpA
    have qA_0 := (hbsA 0 rfl).trans (zL hN39 rfl s39_0)
    refine zG (zC hNA rfl qA_0) ?_
    exact obW_rel rfl rfl (grown_refl _ _)
   ·
    intro aA wA hNA hRA hPA hbsA hdpA
    obtain ⟨nA, hnA, hkA⟩ := hPA
    have hpk_old := hpk
    have := hRA.size
    have hbl := hbl.keepG hRA (fun k hk => .inr (by have := hpk_old.lt k hk; omega))
    have qA_36 : Sl aA 36 (ptr p 0) := hdpA 12 _ 36 zy rfl rfl
    refine zj ok35 (Num_ret (m := 2) hkA zx hbl zx zx) ⟨(zC hNA rfl qA_36), ⟨rfl, trivial⟩⟩ ?_
    rintro _ w97 ⟨E98, r96, rfl, hr96, n96, hk96, hn96, hn96x⟩
    have := E98.size
    exact obT_rel rfl ⟨r96, rfl, (by first | assumption | omega)⟩ ⟨n96, by omega, hk96⟩ E98
   ·
    intro aA wA hNA hRA hPA hbsA hdpA
    obtain ⟨r60, qA_37, hp13_0⟩ := hdpA 13 _ 37 zy rfl rfl
    refine op_add rfl (zC hNA rfl qA_37) (add64 zx) ?_
    exact obW_rel rfl ⟨(1 + r60), rfl, (by first | assumption | omega)⟩ (grown_refl _ _)
   ·
    intro aA wA hNA hRA hPA hbsA hdpA
    obtain ⟨z72, qA_35⟩ := hdpA 11 _ 35 zy rfl rfl
    obtain ⟨z73, qA_38, hp14_0⟩ := hdpA 14 _ 38 zy rfl rfl
    refine zf (pv := [(0, (.string (bs z72))), (1, (.int .i64 ((z73 : Nat) : Int)))]) (v := (Value.agg #[(.string (bs z72)), (.int .i64 ((z73 : Nat) : Int)), (.string (bs []))])) ⟨rfl, (zC hNA rfl qA_35), ⟨rfl, (zC hNA rfl qA_38), trivial⟩⟩ zy ?_
    exact obW_rel rfl ⟨z72, z73, rfl, (by first | assumption | omega)⟩ (grown_refl _ _)
   ·
    intro aA wA hNA hRA hPA hbsA hdpA
    obtain ⟨nA, hnA, hkA⟩ := hPA
    have := hRA.size
    refine op_alloc (cs := [(.string (bs [])), (.int .i64 0), (.string (bs []))]) zero68 rfl ?_
    intro w102 b103 lo_b103 hi_b103 hB105 E104
    have dj106 : ¬ (fun k => k = p) b103 := fun hf => by have := (hkA.lt _ hf).2; omega
    have := E104.size
    exact obW_rel rfl ⟨b103, rfl, (by first | assumption | omega), hB105⟩ E104
   intro a107 w107 hN107 hd107 hbs107 hph107 hP107 hR107
   have hd107 := hd107.trans ((by simp only [putsL_defers] : _ = _).trans hd39)
   obtain ⟨n107, hn107, hk107⟩ := hP107
   have hpk_old := hpk
   have := hR107.size
   have hbl := hbl.keepG hR107 (fun k hk => .inr (by have := hpk_old.lt k hk; omega))
   have hB5 := hB5.keepG hR107 dj6
   have hB17 := hB17.keepG hR107 dj18
   have hxl := hxl.keepG hR107 dj29
   have hO40 := hO40.keepG hR107 (hpk_old.notOwn hO40 zz)
   have hb := hb.stepF hR107 (fun _ _ h => h)
   have s107_0 := (hbs107 0 rfl).trans (zL hN39 rfl s39_0)
   have s107_2 := (hbs107 2 rfl).trans (zL hN39 rfl s39_2)
   have s107_3 := (hbs107 3 rfl).trans (zL hN39 rfl s39_3)
   have s107_4 := (hbs107 4 rfl).trans (zL hN39 rfl s39_4)
   obtain ⟨b64, q107_5, hp16_0, hB66⟩ := hph107 16 _ 5 rfl rfl
   obtain ⟨z74, z75, q107_39, hp15_0⟩ := hph107 15 _ 39 rfl rfl
   have hi_b64 := hB66.lt
   have ne_b64_lv2 : lv2.ownBlock ≠ some b64 := fun hh => by have := (lw_lv2 _ hh).2; omega
   refine split_end ?_
   refine from_seq (tl := [_]) zz zy rfl ?_
   have hB66_old := hB66
   refine zZ size68 (zC hN107 rfl q107_5) (zC hN107 rfl q107_39) rfl rfl hB66 rfl ?_
   intro w110 hB66 E111
   have := E111.size
   have hbl := hbl.keep E111 sR
   have hB5 := hB5.keep E111 (sN hB5 hB66_old)
   have hB17 := hB17.keep E111 (sN hB17 hB66_old)
   have hxl := hxl.keep E111 (sN hxl hB66_old)
   have hO40 := hO40.keep E111 (.inr ne_b64_lv2)
   have hk107 := hk107.keepG (Gr.of E111) (Dj.one (hk107.notBx hB66_old zz))
   have hb := hb.step1 E111 zx
   refine zB ?_
   refine hK44 _ _ (zF fun K112 hK112 => ?_)
   refine zF fun K113 hK113 => ?_
   refine zH ?_
   refine zG (zC hN107 rfl s107_0) ?_
   refine zj ok35 (Num_ret (m := 5) hk107 zx hbl zx zx) ⟨(zA hN107 rfl), ⟨rfl, trivial⟩⟩ ?_
   rintro _ w115 ⟨E116, r114, rfl, hr114, n114, hk114, hn114, hn114x⟩
   have hk107_old := hk107
   have := E116.size
   have hbl := hbl.keepG E116 (fun k hk => .inr (by have := hk107_old.lt k hk; omega))
   have hB5 := hB5.keepG E116 dj6
   have hB17 := hB17.keepG E116 dj18
   have hxl := hxl.keepG E116 dj29
   have hO40 := hO40.keepG E116 (hk107_old.notOwn hO40 zz)
   have hB66 := hB66.keepG E116 (hk107_old.notBx hB66 zz)
   have hb := hb.stepF E116 (fun _ _ h => h)
   refine op_eql (zA hN107 rfl) rfl (fun c42 => ?_) (fun c42 => ?_)
   ·
    refine zB ?_
    refine hK113 _ _ (wp_cond_true (zA hN107 rfl) (zH ?_))
    refine op_bslice (e := 9) (pv := [(0, (.string (bs [116]))), (1, (.string (bs [117]))), (2, (.string (bs [113])))]) (cs := [(.string (bs [116])), (.string (bs [117])), (.string (bs [113]))]) ⟨rfl, rfl, ⟨rfl, rfl, ⟨rfl, rfl, trivial⟩⟩⟩ zy ?_
    intro w117 b118 lo_b118 hi_b118 hB120 E119
    have dj121 : ¬ (fun k => k = p) b118 := fun hf => by have := (hk114.lt _ hf).2; omega
    have := E119.size
    have hbl := hbl.keep0 E119
    have hO40 := hO40.keep0 E119
    obtain ⟨hB5, hB17, hxl, hB66⟩ := kb4 E119 hB5 hB17 hxl hB66
    have hk114 := hk114.keepG (zi E119 NoB) (fun _ _ h => h)
    have hb := hb.step0 E119
    refine zG (zC hN107 rfl s107_0) ?_
    refine zj ok35 (Num_ret (m := 3) hk114 zx hbl zx zx) ⟨(zA hN107 rfl), ⟨rfl, trivial⟩⟩ ?_
    rintro _ w123 ⟨E124, r122, rfl, hr122, n122, hk122, hn122, hn122x⟩
    have hk114_old := hk114
    have := E124.size
    have hbl := hbl.keepG E124 (fun k hk => .inr (by have := hk114_old.lt k hk; omega))
    have hB5 := hB5.keepG E124 dj6
    have hB17 := hB17.keepG E124 dj18
    have hxl := hxl.keepG E124 dj29
    have hO40 := hO40.keepG E124 (hk114_old.notOwn hO40 zz)
    have hB66 := hB66.keepG E124 (hk114_old.notBx hB66 zz)
    have hB120 := hB120.keepG E124 dj121
    have hb := hb.stepF E124 (fun _ _ h => h)
    refine zh slt53 (zA hN107 rfl) (RdC.ofBx (sz := 1) (n := 3) hB120 rfl zz) (zA hN107 rfl) zx zx ?_
    intro b125 o126 h0b125 h1b125 hc127
    refine zN (v := (Value.string (bs (([[116], [117], [113]] : List (List UInt8)).getD r122 [])))) one9 (zA hN107 rfl) (by have := hc127 0 (.string (bs (([[116], [117], [113]] : List (List UInt8)).getD r122 []))) zz (el_sv (l := ([[116], [117], [113]] : List (List UInt8))) (i := r122) rfl (show _ < 3 by omega)); simpa using this) ?_
    refine zM fld68_2 (zC hN107 rfl q107_5) ?_
    have hB66_old := hB66
    refine za (vs := [(.string (bs (([[116], [117], [113]] : List (List UInt8)).getD r122 [])))]) (cs' := [(.string (bs z74)), (.int .i64 ((z75 : Nat) : Int)), (.string (bs (([[116], [117], [113]] : List (List UInt8)).getD r122 [])))]) size9 (zA hN107 rfl) (zA hN107 rfl) rfl rfl rfl hB66 (zI rfl) rfl ?_
    intro w130 hB66 E131
    have := E131.size
    have hbl := hbl.keep E131 sR
    have hB5 := hB5.keep E131 (sN hB5 hB66_old)
    have hB17 := hB17.keep E131 (sN hB17 hB66_old)
    have hxl := hxl.keep E131 (sN hxl hB66_old)
    have hO40 := hO40.keep E131 (.inr ne_b64_lv2)
    have hk122 := hk122.keepG (Gr.of E131) (Dj.one (hk122.notBx hB66_old zz))
    have hb := hb.step1 E131 zx
    refine zB ?_
    refine hK112 _ _ (zH ?_)
    refine zM fld45_3 (zC hN107 rfl s107_3) ?_
    refine zN (v := lv2) one41 (zA hN107 rfl) (hxl.cell rfl) ?_
    refine zY agg68 rfl (zC hN107 rfl q107_5) hB66 ?_
    refine op_bslice (e := 68) (pv := [(0, (.agg #[(.string (bs z74)), (.int .i64 ((z75 : Nat) : Int)), (.string (bs (([[116], [117], [113]] : List (List UInt8)).getD r122 [])))]))]) (cs := [(.string (bs z74)), (.int .i64 ((z75 : Nat) : Int)), (.string (bs (([[116], [117], [113]] : List (List UInt8)).getD r122 [])))]) ⟨rfl, (zA hN107 rfl), trivial⟩ zy ?_
    intro w132 b133 lo_b133 hi_b133 hB135 E134
    have dj136 : ¬ (fun k => k = p) b133 := fun hf => by have := (hk122.lt _ hf).2; omega
    have := E134.size
    have hbl := hbl.keep0 E134
    have hO40 := hO40.keep0 E134
    obtain ⟨hB5, hB17, hxl⟩ := kb3 E134 hB5 hB17 hxl
    have hk122 := hk122.keepG (zi E134 NoB) (fun _ _ h => h)
    have hb := hb.step0 E134
    have hP142 := hO40
    refine op_append slt41 (zA hN107 rfl) hP142 (zA hN107 rfl) (Src.ofRd Try.underlying41 zz (RdC.ofBx (sz := 3) (n := 1) hB135 rfl zz) (by simp [Value.oneCell', u8v])) (by unfold maxLen; omega) zx (by first | exact Nat.le_trans (by assumption) hb.size | (have := hb.size; omega)) ?_
    intro v137 w138 hO140 E139 hm141
    have := E139.size
    have hbl := hbl.keepO hP142 E139 zx
    have hB5 := hB5.keepO hP142 E139 zz
    have hB17 := hB17.keepO hP142 E139 zz
    have hxl := hxl.keepO hP142 E139 zz
    have hk122 := hk122.keepG (Gr.of E139) (hk122.notOwn hP142 zz).symm
    have hb := hb.stepO hP142 E139 zx
    have hO140 : Own w138 w37.heap.size 68 3 v137 (C2.length + 1) (((C2 ++ [(PCol.mk z74 ((z75 : Nat) : Int) (([[116], [117], [113]] : List (List UInt8)).getD r122 []))])).flatMap cellsC) := by simpa [u8v, u16v, sv, cellsI, cellsC] using hO140
    refine zM fld45_3 (zC hN107 rfl s107_3) ?_
    have hxl_old := hxl
    refine za (vs := [v137]) (cs' := [(.int .i64 1), (.string (bs [])), (.string (bs (([[116], [117], [119], [120]] : List (List UInt8)).getD r19 []))), v137, (.slice none 0 0), (.slice none 0 0), (.slice none 0 0), (.string (bs [])), (.slice none 0 0), (.slice none 0 0), (.slice none 0 0), (.bool false), (.slice none 0 0)]) size41 (zA hN107 rfl) (zA hN107 rfl) hO140.cl rfl (by simp only [List.all_cons, List.all_nil, Bool.true_and, Bool.and_true, hO140.one]; try rfl) hxl (zI rfl) rfl ?_
    intro w146 hxl E147
    have := E147.size
    have hbl := hbl.keep E147 sR
    have hB5 := hB5.keep E147 sB
    have hB17 := hB17.keep E147 (sN hB17 hxl_old)
    have hk122 := hk122.keepG (Gr.of E147) (Dj.one dj29)
    have hO140 := hO140.keepX hxl_old E147 zz
    have hb := hb.step1 E147 zx
    refine zB ?_
    refine hK43 _ _ (zH ?_)
    refine zG (zC hN107 rfl s107_4) ?_
    refine op_sub (zA hN107 rfl) rfl (sub64 zx) ?_
    refine zD (zA hN107 rfl) ?_
    refine zB ?_
    -- round 11T 21T 42T
    exact zg _ hN107 hd107 ⟨(i - 1), n122, v137, (C2 ++ [(PCol.mk z74 ((z75 : Nat) : Int) (([[116], [117], [113]] : List (List UInt8)).getD r122 []))]), rfl, (zL hN107 rfl s107_0), (zL hN107 rfl s107_2), (zL hN107 rfl s107_3), (zU hN107 rfl).trans (congrArg (Value.int .i64) zx), (by simp; omega), zx, hb, zx, hbl, hB5, hB17, hxl, hk122, (hO140.cast (by simp) rfl)⟩ zx
   refine zB ?_
   refine hK113 _ _ (wp_cond_false (zA hN107 rfl) (wp_skip (hK112 _ _ (zH ?_))))
   refine zM fld45_3 (zC hN107 rfl s107_3) ?_
   refine zN (v := lv2) one41 (zA hN107 rfl) (hxl.cell rfl) ?_
   refine zY agg68 rfl (zC hN107 rfl q107_5) hB66 ?_
   refine op_bslice (e := 68) (pv := [(0, (.agg #[(.string (bs z74)), (.int .i64 ((z75 : Nat) : Int)), (.string (bs []))]))]) (cs := [(.string (bs z74)), (.int .i64 ((z75 : Nat) : Int)), (.string (bs []))]) ⟨rfl, (zA hN107 rfl), trivial⟩ zy ?_
   intro w148 b149 lo_b149 hi_b149 hB151 E150
   have dj152 : ¬ (fun k => k = p) b149 := fun hf => by have := (hk114.lt _ hf).2; omega
   have := E150.size
   have hbl := hbl.keep0 E150
   have hO40 := hO40.keep0 E150
   obtain ⟨hB5, hB17, hxl⟩ := kb3 E150 hB5 hB17 hxl
   have hk114 := hk114.keepG (zi E150 NoB) (fun _ _ h => h)
   have hb := hb.step0 E150
   have hP158 := hO40
   refine op_append slt41 (zA hN107 rfl) hP158 (zA hN107 rfl) (Src.ofRd Try.underlying41 zz (RdC.ofBx (sz := 3) (n := 1) hB151 rfl zz) (by simp [Value.oneCell', u8v])) (by unfold maxLen; omega) zx (by first | exact Nat.le_trans (by assumption) hb.size | (have := hb.size; omega)) ?_
   intro v153 w154 hO156 E155 hm157
   have := E155.size
   have hbl := hbl.keepO hP158 E155 zx
   have hB5 := hB5.keepO hP158 E155 zz
   have hB17 := hB17.keepO hP158 E155 zz
   have hxl := hxl.keepO hP158 E155 zz
   have hk114 := hk114.keepG (Gr.of E155) (hk114.notOwn hP158 zz).symm
   have hb := hb.stepO hP158 E155 zx
   have hO156 : Own w154 w37.heap.size 68 3 v153 (C2.length + 1) (((C2 ++ [(PCol.mk z74 ((z75 : Nat) : Int) [])])).flatMap cellsC) := by simpa [u8v, u16v, sv, cellsI, cellsC] using hO156
   refine zM fld45_3 (zC hN107 rfl s107_3) ?_
   have hxl_old := hxl
   refine za (vs := [v153]) (cs' := [(.int .i64 1), (.string (bs [])), (.string (bs (([[116], [117], [119], [120]] : List (List UInt8)).getD r19 []))), v153, (.slice none 0 0), (.slice none 0 0), (.slice none 0 0), (.string (bs [])), (.slice none 0 0), (.slice none 0 0), (.slice none 0 0), (.bool false), (.slice none 0 0)]) size41 (zA hN107 rfl) (zA hN107 rfl) hO156.cl rfl (by simp only [List.all_cons, List.all_nil, Bool.true_and, Bool.and_true, hO156.one]; try rfl) hxl (zI rfl) rfl ?_
   intro w162 hxl E163
   have := E163.size
   have hbl := hbl.keep E163 sR
   have hB5 := hB5.keep E163 sB
   have hB17 := hB17.keep E163 (sN hB17 hxl_old)
   have hk114 := hk114.keepG (Gr.of E163) (Dj.one dj29)
   have hO156 := hO156.keepX hxl_old E163 zz
   have hb := hb.step1 E163 zx
   refine zB ?_
   refine hK43 _ _ (zH ?_)
   refine zG (zC hN107 rfl s107_4) ?_
   refine op_sub (zA hN107 rfl) rfl (sub64 zx) ?_
   refine zD (zA hN107 rfl) ?_
   refine zB ?_
   -- round 11T 21T 42F
   exact zg _ hN107 hd107 ⟨(i - 1), n114, v153, (C2 ++ [(PCol.mk z74 ((z75 : Nat) : Int) [])]), rfl, (zL hN107 rfl s107_0), (zL hN107 rfl s107_2), (zL hN107 rfl s107_3), (zU hN107 rfl).trans (congrArg (Value.int .i64) zx), (by simp; omega), zx, hb, zx, hbl, hB5, hB17, hxl, hk114, (hO156.cast (by simp) rfl)⟩ zx
  refine zB ?_
  refine hK42 _ _ (wp_cond_false (zA hN39 rfl) (wp_exit (then_exit (then_exit (blk_hit ?_)))))
  refine hK34 _ _ (zF fun K164 hK164 => ?_)
  refine zH ?_
  refine zY agg45 rfl (zC hN39 rfl s39_3) hxl ?_
  have hB5_old := hB5
  refine zZ size45 (zC hN39 rfl s39_2) (zA hN39 rfl) rfl (by simp only [List.all_cons, List.all_nil, Bool.true_and, Bool.and_true, hO40.one]; try rfl) hB5 rfl ?_
  intro w167 hB5 E168
  have := E168.size
  have hpk := hpk.keepG (Gr.of E168) (Dj.one dj6)
  have hO40 := hO40.keepX hB5_old E168 zz
  have hb := hb.step1 E168 zx
  refine zB ?_
  refine hK164 _ _ (wp_ret (zb (zO ( ?_))))
  refine retC rfl hd39 (zC hN39 rfl s39_2) agg45 rfl hB5 ⟨_, rfl, ?_⟩
  exact ⟨hb, XS.mk (StF.mk 1 [] (([[116], [117], [119], [120]] : List (List UInt8)).getD r19 []) lv2 C2 (.slice none 0 0) [] (.slice none 0 0) [] (.slice none 0 0) [] [] (.slice none 0 0) [] (.slice none 0 0) [] (.slice none 0 0) [] false) (.slice none 0 0) [], rfl, SFr.flat ⟨(hO40.rdw.mono zx zx), (rdN _ _ _ _), (XsFr.nil _ _ _), (rdN _ _ _ _), (XsFr.nil _ _ _), (XsFr.nil _ _ _), (XsFr.nil _ _ _)⟩ rfl rfl, n2, hpk, by omega⟩
 refine zD (zA hN rfl) ?_
 refine zB ?_
 refine hK12 _ _ (wp_cond_false (zA hN rfl) (zF fun K169 hK169 => ?_))
 refine zH ?_
 refine op_eql (zA hN rfl) rfl (fun c57 => ?_) (fun c57 => ?_)
 ·
  refine zD (zA hN rfl) ?_
  refine zB ?_
  refine hK169 _ _ (wp_cond_true (zA hN rfl) (zF fun K170 hK170 => ?_))
  refine reg_split (hd := [_, _, _, _, _, _, _, _, _, _]) (tl := _) 10 mixed zy rfl rfl ?_
  refine any_rel (F := (fun k => k = p)) (Pk := (fun w' => ∃ nK, n9 ≤ nK ∧ PickR w' base p lv bl nK (fun k => k = p))) (L := [(fun uz w' => ∃ (b172 : Nat), uz = (.slice (some ⟨b172, 0, none⟩) 3 3) ∧ (w10.heap.size ≤ b172) ∧ Bx w' b172 9 [(.string (bs [116])), (.string (bs [117])), (.string (bs [119]))]), (fun uz _ => uz = (ptr p 0)), (fun uz _ => ∃ (r176 : Nat), uz = (.int .i64 ((r176 : Nat) : Int)) ∧ (r176 < 3)), (fun uz w' => ∃ (b179 : Nat) (o180 : Nat) (z195 : List UInt8), uz = (ptr b179 o180) ∧ (w10.heap.size ≤ b179) ∧ PtC w' b179 (b179 + 1) b179 o180 [(.string (bs z195))]), (fun uz _ => ∃ (z196 : List UInt8), uz = (.string (bs z196))), (fun uz w' => ∃ (b184 : Nat), uz = (.slice (some ⟨b184, 0, none⟩) 4 4) ∧ (w10.heap.size ≤ b184) ∧ Bx w' b184 9 [(.string (bs [110])), (.string (bs [118])), (.string (bs [107])), (.string (bs [113]))]), (fun uz _ => uz = (ptr p 0)), (fun uz _ => ∃ (r188 : Nat), uz = (.int .i64 ((r188 : Nat) : Int)) ∧ (r188 < 4)), (fun uz w' => ∃ (b191 : Nat) (o192 : Nat) (z197 : List UInt8), uz = (ptr b191 o192) ∧ (w10.heap.size ≤ b191) ∧ PtC w' b191 (b191 + 1) b191 o192 [(.string (bs z197))]), (fun uz _ => ∃ (z198 : List UInt8), uz = (.string (bs z198)))]) [2, 7] zy zy zy zy hN (fun w1 w2 E h => by obtain ⟨x, h1, h2⟩ := h; exact ⟨x, h1, h2.keepG (zi E NoB) (fun _ _ h => h)⟩) ⟨_, Nat.le_refl _, hk9⟩ (StR.cons (fun u w1 w2 E h => by obtain ⟨b172, hv9, hp0, hf0⟩ := h; exact ⟨b172, hv9, hp0, hf0.keepG E (fun hf => by have h9 : b172 = p := hf; omega)⟩) (StR.cons (fun _ _ _ _ h => h) (StR.cons (fun _ _ _ _ h => h) (StR.cons (fun u w1 w2 E h => by obtain ⟨b179, o180, z195, hv9, hp0, hf0⟩ := h; exact ⟨b179, o180, z195, hv9, hp0, hf0.keepG E sP⟩) (StR.cons (fun _ _ _ _ h => h) (StR.cons (fun u w1 w2 E h => by obtain ⟨b184, hv9, hp0, hf0⟩ := h; exact ⟨b184, hv9, hp0, hf0.keepG E (fun hf => by have h9 : b184 = p := hf; omega)⟩) (StR.cons (fun _ _ _ _ h => h) (StR.cons (fun _ _ _ _ h => h) (StR.cons (fun u w1 w2 E h => by obtain ⟨b191, o192, z197, hv9, hp0, hf0⟩ := h; exact ⟨b191, o192, z197, hv9, hp0, hf0.keepG E sP⟩) (StR.cons (fun _ _ _ _ h => h) (StR.nil))))))))))) (ObWs9.cons rfl ?_ (ObWs9.cons rfl ?_ (ObWs9.turn rfl ?_ (ObWs9.cons rfl ?_ (ObWs9.cons rfl ?_ (ObWs9.cons rfl ?_ (ObWs9.cons rfl ?_ (ObWs9.turn rfl ?_ (ObWs9.cons rfl ?_ (ObWs9.cons rfl ?_ (ObWs9.nil))))))))))) ?_
  ·
   intro aA wA hNA hRA hPA hbsA hdpA
   obtain ⟨nA, hnA, hkA⟩ := hPA
   have := hRA.size
   refine op_bslice (e := 9) (pv := [(0, (.string (bs [116]))), (1, (.string (bs [117]))), (2, (.string (bs [119])))]) (cs := [(.string (bs [116])), (.string (bs [117])), (.string (bs [119]))]) ⟨rfl, rfl, ⟨rfl, rfl, ⟨rfl, rfl, trivial⟩⟩⟩ zy ?_
   intro w199 b200 lo_b200 hi_b200 hB202 E201
   have dj203 : ¬ (fun k => k = p) b200 := fun hf => by have := (hkA.lt _ hf).2; omega
   have := E201.size
   exact obW_rel rfl ⟨b200, rfl, (by first | assumption | omega), hB202⟩ E201
  ·
   intro aA wA hNA hRA hPA hbsA hdpA
   have qA_0 := (hbsA 0 rfl).trans (zL hN rfl s0)
   refine zG (zC hNA rfl qA_0) ?_
   exact obW_rel rfl rfl (grown_refl _ _)
  ·
   intro aA wA hNA hRA hPA hbsA hdpA
   obtain ⟨nA, hnA, hkA⟩ := hPA
   have hk9_old := hk9
   have := hRA.size
   have hbl := hbl.keepG hRA (fun k hk => .inr (by have := hk9_old.lt k hk; omega))
   have qA_59 : Sl aA 59 (ptr p 0) := hdpA 1 _ 59 zy rfl rfl
   refine zj ok35 (Num_ret (m := 3) hkA zx hbl zx zx) ⟨(zC hNA rfl qA_59), ⟨rfl, trivial⟩⟩ ?_
   rintro _ w205 ⟨E206, r204, rfl, hr204, n204, hk204, hn204, hn204x⟩
   have := E206.size
   exact obT_rel rfl ⟨r204, rfl, (by first | assumption | omega)⟩ ⟨n204, by omega, hk204⟩ E206
  ·
   intro aA wA hNA hRA hPA hbsA hdpA
   obtain ⟨nA, hnA, hkA⟩ := hPA
   have := hRA.size
   obtain ⟨b172, qA_58, hp0_0, hB174⟩ := hdpA 0 _ 58 zy rfl rfl
   obtain ⟨r176, qA_60, hp2_0⟩ := hdpA 2 _ 60 zy rfl rfl
   refine zh slt53 (zC hNA rfl qA_58) (RdC.ofBx (sz := 1) (n := 3) hB174 rfl zz) (zC hNA rfl qA_60) zx zx ?_
   intro b207 o208 h0b207 h1b207 hc209
   have hp210 : PtC wA b172 (b172 + 1) b207 o208 [(.string (bs (([[116], [117], [119]] : List (List UInt8)).getD r176 [])))] := ⟨by omega, by omega, fun j u hu => hc209 j u (by have := (List.getElem?_eq_some_iff.1 hu).1; simpa using this) ((fun j u hu => one_at (el_sv (l := ([[116], [117], [119]] : List (List UInt8))) (i := r176) rfl (show _ < 3 by omega)) hu) j u hu)⟩
   exact obW_rel rfl ⟨b207, o208, (([[116], [117], [119]] : List (List UInt8)).getD r176 []), rfl, (by have h9 := hp210.1; first | assumption | omega), ⟨Nat.le_refl _, Nat.lt_succ_self _, hp210.2.2⟩⟩ (grown_refl _ _)
  ·
   intro aA wA hNA hRA hPA hbsA hdpA
   obtain ⟨nA, hnA, hkA⟩ := hPA
   have := hRA.size
   obtain ⟨b179, o180, z195, qA_61, hp3_0, hp182⟩ := hdpA 3 _ 61 zy rfl rfl
   refine zN (v := (Value.string (bs z195))) one9 (zC hNA rfl qA_61) (hp182.2.2 0 _ rfl) ?_
   exact obW_rel rfl ⟨z195, rfl⟩ (grown_refl _ _)
  ·
   intro aA wA hNA hRA hPA hbsA hdpA
   obtain ⟨nA, hnA, hkA⟩ := hPA
   have := hRA.size
   refine op_bslice (e := 9) (pv := [(0, (.string (bs [110]))), (1, (.string (bs [118]))), (2, (.string (bs [107]))), (3, (.string (bs [113])))]) (cs := [(.string (bs [110])), (.string (bs [118])), (.string (bs [107])), (.string (bs [113]))]) ⟨rfl, rfl, ⟨rfl, rfl, ⟨rfl, rfl, ⟨rfl, rfl, trivial⟩⟩⟩⟩ zy ?_
   intro w213 b214 lo_b214 hi_b214 hB216 E215
   have dj217 : ¬ (fun k => k = p) b214 := fun hf => by have := (hkA.lt _ hf).2; omega
   have := E215.size
   exact obW_rel rfl ⟨b214, rfl, (by first | assumption | omega), hB216⟩ E215
  ·
   intro aA wA hNA hRA hPA hbsA hdpA
   have qA_0 := (hbsA 0 rfl).trans (zL hN rfl s0)
   refine zG (zC hNA rfl qA_0) ?_
   exact obW_rel rfl rfl (grown_refl _ _)
  ·
   intro aA wA hNA hRA hPA hbsA hdpA
   obtain ⟨nA, hnA, hkA⟩ := hPA
   have hk9_old := hk9
   have := hRA.size
   have hbl := hbl.keepG hRA (fun k hk => .inr (by have := hk9_old.lt k hk; omega))
   have qA_64 : Sl aA 64 (ptr p 0) := hdpA 6 _ 64 zy rfl rfl
   refine zj ok35 (Num_ret (m := 4) hkA zx hbl zx zx) ⟨(zC hNA rfl qA_64), ⟨rfl, trivial⟩⟩ ?_
   rintro _ w219 ⟨E220, r218, rfl, hr218, n218, hk218, hn218, hn218x⟩
   have := E220.size
   exact obT_rel rfl ⟨r218, rfl, (by first | assumption | omega)⟩ ⟨n218, by omega, hk218⟩ E220
  ·
   intro aA wA hNA hRA hPA hbsA hdpA
   obtain ⟨nA, hnA, hkA⟩ := hPA
   have := hRA.size
   obtain ⟨b184, qA_63, hp5_0, hB186⟩ := hdpA 5 _ 63 zy rfl rfl
   obtain ⟨r188, qA_65, hp7_0⟩ := hdpA 7 _ 65 zy rfl rfl
   refine zh slt53 (zC hNA rfl qA_63) (RdC.ofBx (sz := 1) (n := 4) hB186 rfl zz) (zC hNA rfl qA_65) zx zx ?_
   intro b221 o222 h0b221 h1b221 hc223
   have hp224 : PtC wA b184 (b184 + 1) b221 o222 [(.string (bs (([[110], [118], [107], [113]] : List (List UInt8)).getD r188 [])))] := ⟨by omega, by omega, fun j u hu => hc223 j u (by have := (List.getElem?_eq_some_iff.1 hu).1; simpa using this) ((fun j u hu => one_at (el_sv (l := ([[110], [118], [107], [113]] : List (List UInt8))) (i := r188) rfl (show _ < 4 by omega)) hu) j u hu)⟩
   exact obW_rel rfl ⟨b221, o222, (([[110], [118], [107], [113]] : List (List UInt8)).getD r188 []), rfl, (by have h9 := hp224.1; first | assumption | omega), ⟨Nat.le_refl _, Nat.lt_succ_self _, hp224.2.2⟩⟩ (grown_refl _ _)
  ·
   intro aA wA hNA hRA hPA hbsA hdpA
   obtain ⟨nA, hnA, hkA⟩ := hPA
   have := hRA.size
   obtain ⟨b191, o192, z197, qA_66, hp8_0, hp194⟩ := hdpA 8 _ 66 zy rfl rfl
   refine zN (v := (Value.string (bs z197))) one9 (zC hNA rfl qA_66) (hp194.2.2 0 _ rfl) ?_
   exact obW_rel rfl ⟨z197, rfl⟩ (grown_refl _ _)
  intro a227 w227 hN227 hd227 hbs227 hph227 hP227 hR227
  have hd227 := hd227.trans ((by simp only [putsL_defers] : _ = _).trans hd)
  obtain ⟨n227, hn227, hk227⟩ := hP227
  have := hR227.size
  have hB5 := hB5.keepG hR227 dj6
  have hb := hb.stepF hR227 (fun _ _ h => h)
  have s227_2 := (hbs227 2 rfl).trans (zU hN rfl)
  obtain ⟨z196, q227_62⟩ := hph227 4 _ 62 rfl rfl
  obtain ⟨z198, q227_67⟩ := hph227 9 _ 67 rfl rfl
  refine split_end ?_
  refine from_seq (tl := [_, _]) zz zy rfl ?_
  refine zf (pv := [(0, (.int .i64 2)), (1, (.string (bs z196))), (2, (.string (bs z198)))]) (v := (Value.agg #[(.int .i64 2), (.string (bs z196)), (.string (bs z198)), (.slice none 0 0), (.slice none 0 0), (.slice none 0 0), (.slice none 0 0), (.string (bs [])), (.slice none 0 0), (.slice none 0 0), (.slice none 0 0), (.bool false), (.slice none 0 0)])) ⟨rfl, rfl, ⟨rfl, (zC hN227 rfl q227_62), ⟨rfl, (zC hN227 rfl q227_67), trivial⟩⟩⟩ zy ?_
  refine zZ size45 (zC hN227 rfl s227_2) (zA hN227 rfl) rfl rfl hB5 rfl ?_
  intro w230 hB5 E231
  have := E231.size
  have hk227 := hk227.keepG (Gr.of E231) (Dj.one dj6)
  have hb := hb.step1 E231 zx
  refine zB ?_
  refine hK170 _ _ (wp_ret (zb (zO ( ?_))))
  refine retC rfl hd227 (zC hN227 rfl s227_2) agg45 rfl hB5 ⟨_, rfl, ?_⟩
  exact ⟨hb, XS.mk (StF.mk 2 z196 z198 (.slice none 0 0) [] (.slice none 0 0) [] (.slice none 0 0) [] (.slice none 0 0) [] [] (.slice none 0 0) [] (.slice none 0 0) [] (.slice none 0 0) [] false) (.slice none 0 0) [], rfl, SFr.flat ⟨(rdN _ _ _ _), (rdN _ _ _ _), (XsFr.nil _ _ _), (rdN _ _ _ _), (XsFr.nil _ _ _), (XsFr.nil _ _ _), (XsFr.nil _ _ _)⟩ rfl rfl, n227, hk227, by omega⟩
 refine zD (zA hN rfl) ?_
 refine zB ?_
 refine hK169 _ _ (wp_cond_false (zA hN rfl) (zF fun K232 hK232 => ?_))
 refine zH ?_
 refine op_eql (zA hN rfl) rfl (fun c70 => ?_) (fun c70 => ?_)
 ·
  refine zD (zA hN rfl) ?_
  refine zB ?_
  refine hK232 _ _ (wp_cond_true (zA hN rfl) (zF fun K233 hK233 => ?_))
  refine zH ?_
  refine zj ok16 (SchemaL_ret _) trivial ?_
  rintro _ w235 ⟨E236, tv234, D234, rfl, hM234, hT234⟩
  have E236 := zQ E236
  have := E236.size
  have hbl := hbl.keep0 E236
  have hB5 := hB5.keep0 E236
  have hk9 := hk9.keepG (zi E236 NoB) (fun _ _ h => h)
  have hb := hb.step0 E236
  have hR234 := hT234.1
  obtain ⟨hl47, hl49⟩ := sch_3 hM234
  refine op_alloc (cs := [(.slice none 0 0), (.slice none 0 0)]) zero39 rfl ?_
  intro w237 b238 lo_b238 hi_b238 hB240 E239
  have dj241 : ¬ (fun k => k = p) b238 := fun hf => by have := (hk9.lt _ hf).2; omega
  have := E239.size
  have hbl := hbl.keep0 E239
  have hB5 := hB5.keep0 E239
  have hk9 := hk9.keepG (zi E239 NoB) (fun _ _ h => h)
  have hR234 := hR234.keep0 E239
  have hT234 := hT234.keep0 E239
  have hb := hb.step0 E239
  have hB240_old := hB240
  refine zZ size39 (zA hN rfl) (zA hN rfl) rfl (by simp only [List.all_cons, List.all_nil, Bool.true_and, Bool.and_true, hR234.one]; try rfl) hB240 rfl ?_
  intro w244 hB240 E245
  have := E245.size
  have hbl := hbl.keep E245 sR
  have hB5 := hB5.keep E245 (sN hB5 hB240_old)
  have hk9 := hk9.keepG (Gr.of E245) (Dj.one dj241)
  have hR234 := hR234.keep E245 sO
  have hT234 := hT234.keep E245 sO
  have hb := hb.step1 E245 zx
  refine zB ?_
  refine hK233 _ _ (zF fun K246 hK246 => ?_)
  refine reg_split (hd := [_, _, _, _, _, _, _, _, _, _, _, _]) (tl := _) 12 mixed zy rfl rfl ?_
  refine any_rel (F := (fun k => k = p)) (Pk := (fun w' => ∃ nK, n9 ≤ nK ∧ PickR w' base p lv bl nK (fun k => k = p))) (L := [(fun uz _ => uz = (ptr p 0)), (fun uz _ => ∃ (vs247 : List UInt8), uz = (.string (bs vs247))), (fun uz _ => uz = (ptr p 0)), (fun uz w' => ∃ (gv250 : Value) (tg250 : List UInt16), uz = gv250 ∧ (tg250.length ≤ 2) ∧ RdC w' w244.heap.size w'.heap.size 1 gv250 tg250.length (tg250.map u16v)), (fun uz _ => uz = (ptr p 0)), (fun uz _ => uz = (.agg #[tv234, (.slice none 0 0)])), (fun uz _ => uz = (ptr b238 0)), (fun uz _ => uz = tv234), (fun uz _ => uz = (ptr p 0)), (fun uz _ => ∃ (r253 : Nat), uz = (.int .i64 ((r253 : Nat) : Int)) ∧ (r253 < 2)), (fun uz w' => ∃ (b256 : Nat) (o257 : Nat) (z260 : Nat), uz = (ptr b256 o257) ∧ (z260 < 2) ∧ PtC w' w10.heap.size w235.heap.size b256 o257 [(.string (bs (D234.getD z260 default).t.nm)), (D234.getD z260 default).cv, (D234.getD z260 default).iv]), (fun uz _ => ∃ (z261 : Nat), uz = (.agg #[(.string (bs (D234.getD z261 default).t.nm)), (D234.getD z261 default).cv, (D234.getD z261 default).iv]) ∧ (z261 < 2))]) [1, 3, 9] zy zy zy zy hN (fun w1 w2 E h => by obtain ⟨x, h1, h2⟩ := h; exact ⟨x, h1, h2.keepG (zi E NoB) (fun _ _ h => h)⟩) ⟨_, Nat.le_refl _, hk9⟩ (StR.cons (fun _ _ _ _ h => h) (StR.cons (fun _ _ _ _ h => h) (StR.cons (fun _ _ _ _ h => h) (StR.cons (fun u w1 w2 E h => by obtain ⟨gv250, tg250, hv9, hp0, hf0⟩ := h; exact ⟨gv250, tg250, hv9, hp0, (hf0.keepG E sP).mono (Nat.le_refl _) E.size⟩) (StR.cons (fun _ _ _ _ h => h) (StR.cons (fun _ _ _ _ h => h) (StR.cons (fun _ _ _ _ h => h) (StR.cons (fun _ _ _ _ h => h) (StR.cons (fun _ _ _ _ h => h) (StR.cons (fun _ _ _ _ h => h) (StR.cons (fun u w1 w2 E h => by obtain ⟨b256, o257, z260, hv9, hp0, hf0⟩ := h; exact ⟨b256, o257, z260, hv9, hp0, hf0.keepG E sP⟩) (StR.cons (fun _ _ _ _ h => h) (StR.nil))))))))))))) (ObWs9.cons rfl ?_ (ObWs9.turn rfl ?_ (ObWs9.cons rfl ?_ (ObWs9.turn rfl ?_ (ObWs9.cons rfl ?_ (ObWs9.cons rfl ?_ (ObWs9.cons rfl ?_ (ObWs9.cons rfl ?_ (ObWs9.cons rfl ?_ (ObWs9.turn rfl ?_ (ObWs9.cons rfl ?_ (ObWs9.cons rfl ?_ (ObWs9.nil))))))))))))) ?_
  ·
   intro aA wA hNA hRA hPA hbsA hdpA
   have qA_0 := (hbsA 0 rfl).trans (zL hN rfl s0)
   refine zG (zC hNA rfl qA_0) ?_
   exact obW_rel rfl rfl (grown_refl _ _)
  ·
   intro aA wA hNA hRA hPA hbsA hdpA
   obtain ⟨nA, hnA, hkA⟩ := hPA
   have hk9_old := hk9
   have := hRA.size
   have hbl := hbl.keepG hRA (fun k hk => .inr (by have := hk9_old.lt k hk; omega))
   have qA_72 : Sl aA 72 (ptr p 0) := hdpA 0 _ 72 zy rfl rfl
   refine zj ok36 (pview_ret hkA zx hbl) ⟨(zC hNA rfl qA_72), trivial⟩ ?_
   rintro _ w263 ⟨E264, vs262, rfl, n262, hk262, hn262⟩
   have := E264.size
   exact obT_rel rfl ⟨vs262, rfl⟩ ⟨n262, by omega, hk262⟩ E264
  ·
   intro aA wA hNA hRA hPA hbsA hdpA
   have qA_0 := (hbsA 0 rfl).trans (zL hN rfl s0)
   refine zG (zC hNA rfl qA_0) ?_
   exact obW_rel rfl rfl (grown_refl _ _)
  ·
   intro aA wA hNA hRA hPA hbsA hdpA
   obtain ⟨nA, hnA, hkA⟩ := hPA
   have hk9_old := hk9
   have := hRA.size
   have hbl := hbl.keepG hRA (fun k hk => .inr (by have := hk9_old.lt k hk; omega))
   have qA_74 : Sl aA 74 (ptr p 0) := hdpA 2 _ 74 zy rfl rfl
   refine zj ok37 (Tags_ret hkA zx hbl) ⟨(zC hNA rfl qA_74), trivial⟩ ?_
   rintro gv265 w266 ⟨E267, tg265, htl265, ht265, n265, hk265, hn265⟩
   have := E267.size
   exact obT_rel rfl ⟨gv265, tg265, rfl, (by first | assumption | omega), (ht265.mono zx zx)⟩ ⟨n265, by omega, hk265⟩ E267
  ·
   intro aA wA hNA hRA hPA hbsA hdpA
   have qA_0 := (hbsA 0 rfl).trans (zL hN rfl s0)
   refine zG (zC hNA rfl qA_0) ?_
   exact obW_rel rfl rfl (grown_refl _ _)
  ·
   intro aA wA hNA hRA hPA hbsA hdpA
   obtain ⟨nA, hnA, hkA⟩ := hPA
   have := hRA.size
   have hB240 := hB240.keepG hRA dj241
   have qA_6 := (hbsA 6 rfl).trans (zU hN rfl)
   refine zY agg39 rfl (zC hNA rfl qA_6) hB240 ?_
   exact obW_rel rfl rfl (grown_refl _ _)
  ·
   intro aA wA hNA hRA hPA hbsA hdpA
   have qA_6 := (hbsA 6 rfl).trans (zU hN rfl)
   refine zM fld39_0 (zC hNA rfl qA_6) ?_
   exact obW_rel rfl rfl (grown_refl _ _)
  ·
   intro aA wA hNA hRA hPA hbsA hdpA
   obtain ⟨nA, hnA, hkA⟩ := hPA
   have := hRA.size
   have hB240 := hB240.keepG hRA dj241
   have qA_78 : Sl aA 78 (ptr b238 0) := hdpA 6 _ 78 zy rfl rfl
   refine zN (v := tv234) one36 (zC hNA rfl qA_78) (hB240.cell rfl) ?_
   exact obW_rel rfl rfl (grown_refl _ _)
  ·
   intro aA wA hNA hRA hPA hbsA hdpA
   have qA_0 := (hbsA 0 rfl).trans (zL hN rfl s0)
   refine zG (zC hNA rfl qA_0) ?_
   exact obW_rel rfl rfl (grown_refl _ _)
  ·
   intro aA wA hNA hRA hPA hbsA hdpA
   obtain ⟨nA, hnA, hkA⟩ := hPA
   have hk9_old := hk9
   have := hRA.size
   have hbl := hbl.keepG hRA (fun k hk => .inr (by have := hk9_old.lt k hk; omega))
   have qA_80 : Sl aA 80 (ptr p 0) := hdpA 8 _ 80 zy rfl rfl
   refine zj ok35 (Num_ret (m := 2) hkA zx hbl zx zx) ⟨(zC hNA rfl qA_80), ⟨rfl, trivial⟩⟩ ?_
   rintro _ w269 ⟨E270, r268, rfl, hr268, n268, hk268, hn268, hn268x⟩
   have := E270.size
   exact obT_rel rfl ⟨r268, rfl, (by first | assumption | omega)⟩ ⟨n268, by omega, hk268⟩ E270
  ·
   intro aA wA hNA hRA hPA hbsA hdpA
   obtain ⟨nA, hnA, hkA⟩ := hPA
   have := hRA.size
   have hR234 := hR234.keepG hRA sP
   have qA_79 : Sl aA 79 tv234 := hdpA 7 _ 79 zy rfl rfl
   obtain ⟨r253, qA_81, hp9_0⟩ := hdpA 9 _ 81 zy rfl rfl
   refine zh slt36 (zC hNA rfl qA_79) hR234 (zC hNA rfl qA_81) zx zx ?_
   intro b271 o272 h0b271 h1b271 hc273
   have hp274 : PtC wA w10.heap.size w235.heap.size b271 o272 [(.string (bs (D234.getD r253 default).t.nm)), (D234.getD r253 default).cv, (D234.getD r253 default).iv] := ⟨by omega, by omega, fun j u hu => hc273 j u (by have := (List.getElem?_eq_some_iff.1 hu).1; simpa using this) ((el_dt (i := r253) zx zx) j u hu)⟩
   exact obW_rel rfl ⟨b271, o272, r253, rfl, (by have h9 := hp274.1; first | assumption | omega), hp274⟩ (grown_refl _ _)
  ·
   intro aA wA hNA hRA hPA hbsA hdpA
   obtain ⟨nA, hnA, hkA⟩ := hPA
   have := hRA.size
   obtain ⟨b256, o257, z260, qA_82, hp10_0, hp259⟩ := hdpA 10 _ 82 zy rfl rfl
   refine zX (cs := [(.string (bs (D234.getD z260 default).t.nm)), (D234.getD z260 default).cv, (D234.getD z260 default).iv]) agg55 rfl (zC hNA rfl qA_82) (fun j u hu => hp259.2.2 j u hu) ?_
   exact obW_rel rfl ⟨z260, rfl, (by first | assumption | omega)⟩ (grown_refl _ _)
  intro a277 w277 hN277 hd277 hbs277 hph277 hP277 hR277
  have hd277 := hd277.trans ((by simp only [putsL_defers] : _ = _).trans hd)
  obtain ⟨n277, hn277, hk277⟩ := hP277
  have hk9_old := hk9
  have := hR277.size
  have hbl := hbl.keepG hR277 (fun k hk => .inr (by have := hk9_old.lt k hk; omega))
  have hB5 := hB5.keepG hR277 dj6
  have hT234 := hT234.keepG hR277 sP
  have hb := hb.stepF hR277 (fun _ _ h => h)
  have s277_2 := (hbs277 2 rfl).trans (zU hN rfl)
  obtain ⟨vs247, q277_73⟩ := hph277 1 _ 73 rfl rfl
  obtain ⟨gv250, tg250, q277_75, hp3_0, ht250⟩ := hph277 3 _ 75 rfl rfl
  have q277_76 : Sl a277 76 (ptr p 0) := hph277 4 _ 76 rfl rfl
  have q277_77 : Sl a277 77 (.agg #[tv234, (.slice none 0 0)]) := hph277 5 _ 77 rfl rfl
  obtain ⟨z261, q277_83, hp11_0⟩ := hph277 11 _ 83 rfl rfl
  refine split_end ?_
  refine from_seq (tl := [_, _, _, _]) zz zy rfl ?_
  refine zj ok38 (selected_ret (r := z261) hk277 zx hbl hT234 hM234 zx zx zx) ⟨(zC hN277 rfl q277_76), ⟨(zC hN277 rfl q277_77), ⟨(zC hN277 rfl q277_83), trivial⟩⟩⟩ ?_
  rintro _ w279 ⟨E280, sq278, rfl, hs278, n278, hk278, hn278⟩
  have := E280.size
  have hB5 := hB5.keepG E280 dj6
  have ht250 := ht250.keepG E280 sP
  have hb := hb.stepF E280 (fun _ _ h => h)
  refine op_bslice (e := 45) (pv := [(0, (.agg #[(.int .i64 sq278.f.kind), (.string (bs sq278.f.tb)), (.string (bs sq278.f.nm)), sq278.f.cv, sq278.f.gv, sq278.f.vv, sq278.f.iv, (.string (bs sq278.f.join)), sq278.f.ov, sq278.f.wv, sq278.f.rv, (.bool sq278.f.desc), sq278.nv]))]) (cs := [(.int .i64 sq278.f.kind), (.string (bs sq278.f.tb)), (.string (bs sq278.f.nm)), sq278.f.cv, sq278.f.gv, sq278.f.vv, sq278.f.iv, (.string (bs sq278.f.join)), sq278.f.ov, sq278.f.wv, sq278.f.rv, (.bool sq278.f.desc), sq278.nv]) ⟨rfl, (zA hN277 rfl), trivial⟩ zy ?_
  intro w281 b282 lo_b282 hi_b282 hB284 E283
  have dj285 : ¬ (fun k => k = p) b282 := fun hf => by have := (hk278.lt _ hf).2; omega
  have := E283.size
  have hB5 := hB5.keep0 E283
  have ht250 := ht250.keep0 E283
  have hk278 := hk278.keepG (zi E283 NoB) (fun _ _ h => h)
  have hs278 := hs278.keep0 E283
  have hb := hb.step0 E283
  refine zf (pv := [(0, (.int .i64 3)), (2, (.string (bs vs247))), (4, gv250), (12, (.slice (some ⟨b282, 0, none⟩) 1 1))]) (v := (Value.agg #[(.int .i64 3), (.string (bs [])), (.string (bs vs247)), (.slice none 0 0), gv250, (.slice none 0 0), (.slice none 0 0), (.string (bs [])), (.slice none 0 0), (.slice none 0 0), (.slice none 0 0), (.bool false), (.slice (some ⟨b282, 0, none⟩) 1 1)])) ⟨rfl, rfl, ⟨rfl, (zC hN277 rfl q277_73), ⟨rfl, (zC hN277 rfl q277_75), ⟨rfl, (zA hN277 rfl), trivial⟩⟩⟩⟩ (by obtain ⟨_, _, _, rfl⟩ := ht250.sl; kernel_rfl) ?_
  refine zZ size45 (zC hN277 rfl s277_2) (zA hN277 rfl) rfl (by simp only [List.all_cons, List.all_nil, Bool.true_and, Bool.and_true, ht250.one]; try rfl) hB5 rfl ?_
  intro w288 hB5 E289
  have := E289.size
  have ht250 := ht250.keep E289 sO
  have hk278 := hk278.keepG (Gr.of E289) (Dj.one dj6)
  have hs278 := hs278.keep E289 sO
  have hB284 := hB284.keep E289 sB
  have hb := hb.step1 E289 zx
  refine zB ?_
  refine hK246 _ _ (wp_ret (zb (zO ( ?_))))
  refine retC rfl hd277 (zC hN277 rfl s277_2) agg45 rfl hB5 ⟨_, rfl, ?_⟩
  exact ⟨hb, XS.mk (StF.mk 3 [] vs247 (.slice none 0 0) [] gv250 tg250 (.slice none 0 0) [] (.slice none 0 0) [] [] (.slice none 0 0) [] (.slice none 0 0) [] (.slice none 0 0) [] false) (.slice (some ⟨b282, 0, none⟩) 1 1) [sq278], rfl, SFr.one (a := sq278) ⟨(rdN _ _ _ _), (ht250.mono zx zx), (XsFr.nil _ _ _), (rdN _ _ _ _), (XsFr.nil _ _ _), (XsFr.nil _ _ _), (XsFr.nil _ _ _)⟩ hB284 rfl rfl zx hB284.lt (hs278.mono zx zx), n278, hk278, by omega⟩
 refine zD (zA hN rfl) ?_
 refine zB ?_
 refine hK232 _ _ (wp_cond_false (zA hN rfl) (zF fun K290 hK290 => ?_))
 refine zH ?_
 refine op_eql (zA hN rfl) rfl (fun c88 => ?_) (fun c88 => ?_)
 ·
  refine zD (zA hN rfl) ?_
  refine zB ?_
  refine hK290 _ _ (wp_cond_true (zA hN rfl) (zF fun K291 hK291 => ?_))
  refine zH ?_
  refine zG (zC hN rfl s0) ?_
  refine zj ok39 (Data_ret hk9 zx hbl) ⟨(zA hN rfl), trivial⟩ ?_
  rintro _ w293 ⟨E294, sq292, rfl, hs292, n292, hk292, hn292, hn292x⟩
  have hk9_old := hk9
  have := E294.size
  have hbl := hbl.keepG E294 (fun k hk => .inr (by have := hk9_old.lt k hk; omega))
  have hB5 := hB5.keepG E294 dj6
  have hb := hb.stepF E294 (fun _ _ h => h)
  refine op_alloc (cs := [(.int .i64 0), (.string (bs [])), (.string (bs [])), (.slice none 0 0), (.slice none 0 0), (.slice none 0 0), (.slice none 0 0), (.string (bs [])), (.slice none 0 0), (.slice none 0 0), (.slice none 0 0), (.bool false), (.slice none 0 0)]) zero45 rfl ?_
  intro w295 b296 lo_b296 hi_b296 hB298 E297
  have dj299 : ¬ (fun k => k = p) b296 := fun hf => by have := (hk292.lt _ hf).2; omega
  have := E297.size
  have hbl := hbl.keep0 E297
  have hB5 := hB5.keep0 E297
  have hk292 := hk292.keepG (zi E297 NoB) (fun _ _ h => h)
  have hs292 := hs292.keep0 E297
  have hb := hb.step0 E297
  refine zZ size45 (zA hN rfl) (zA hN rfl) rfl (by simp only [List.all_cons, List.all_nil, Bool.true_and, Bool.and_true, hs292.ff.1.one, hs292.ff.2.1.one, hs292.ff.2.2.1.1.one, hs292.ff.2.2.2.1.one, hs292.ff.2.2.2.2.1.1.one, hs292.ff.2.2.2.2.2.1.1.one, hs292.ff.2.2.2.2.2.2.1.one, hs292.nvr.one]; try rfl) hB298 rfl ?_
  intro w302 hB298 E303
  have := E303.size
  have hbl := hbl.keep E303 sR
  have hB5 := hB5.keep E303 sB
  have hk292 := hk292.keepG (Gr.of E303) (Dj.one dj299)
  have hs292 := hs292.keep E303 sO
  have hb := hb.step1 E303 zx
  refine zB ?_
  refine hK291 _ _ (zF fun K304 hK304 => ?_)
  refine wp_block ?_
  refine loop_m (fun mz_ az_ w' => ∃ (n2 : Nat) (s9 : XS) (L9 B9 : Nat), mz_ = (if s9.f.kind = 6 then 1 + (bl.length - n2) else 0) ∧ (az_.tmps.getD 0 undef = (ptr p 0)) ∧ (az_.tmps.getD 2 undef = (ptr b3 0)) ∧ (az_.tmps.getD 7 undef = (ptr b296 0)) ∧ ((b296 < L9 ∨ B9 ≤ b296) ∧ w.heap.size ≤ L9 ∧ b3 < L9) ∧ (B9 ≤ w'.heap.size) ∧ (b296 < w'.heap.size) ∧ (b3 < w'.heap.size) ∧ (n ≤ n2) ∧ (Gr w w' (fun k => k = p)) ∧ (w302.heap.size ≤ w'.heap.size) ∧ (RdC w' 0 Bp 1 lv bl.length (bl.map u8v)) ∧ (Bx w' b3 45 [(.int .i64 0), (.string (bs [])), (.string (bs [])), (.slice none 0 0), (.slice none 0 0), (.slice none 0 0), (.slice none 0 0), (.string (bs [])), (.slice none 0 0), (.slice none 0 0), (.slice none 0 0), (.bool false), (.slice none 0 0)]) ∧ (Bx w' b296 45 [(.int .i64 s9.f.kind), (.string (bs s9.f.tb)), (.string (bs s9.f.nm)), s9.f.cv, s9.f.gv, s9.f.vv, s9.f.iv, (.string (bs s9.f.join)), s9.f.ov, s9.f.wv, s9.f.rv, (.bool s9.f.desc), s9.nv]) ∧ (SFr w' L9 B9 s9) ∧ (PickR w' base p lv bl n2 (fun k => k = p))) _ hN hd ⟨_, sq292, w10.heap.size, w293.heap.size, rfl, (zL hN rfl s0), (zU hN rfl), (zU hN rfl), zx, zx, hB298.lt, hB5.lt, zx, hb, (Nat.le_refl _), hbl, hB5, hB298, hs292, hk292⟩ ?_
  rintro _ a305 w305 hN305 hd305 ⟨n2, s9, L9, B9, rfl, s305_0, s305_2, s305_7, hb9, hB9, hbl9, hbl8, hn2, hb, zl_w305, hbl, hB5, hxl, hs9, hpk⟩
  have := hb.size
  refine zF fun K306 hK306 => ?_
  refine zF fun K307 hK307 => ?_
  refine zH ?_
  refine zM fld45_0 (zC hN305 rfl s305_7) ?_
  refine zN (v := (Value.int .i64 s9.f.kind)) one3 (zA hN305 rfl) (hxl.cell rfl) ?_
  refine op_eql (zA hN305 rfl) rfl (fun c93 => ?_) (fun c93 => ?_)
  ·
   refine zB ?_
   refine hK307 _ _ (wp_cond_true (zA hN305 rfl) (wp_skip (hK306 _ _ (wp_block ?_))))
   refine zF fun K308 hK308 => ?_
   refine zH ?_
   refine zG (zC hN305 rfl s305_0) ?_
   refine zj ok40 (Over_t hpk zx hbl) ⟨(zA hN305 rfl), trivial⟩ ?_
   rintro _ w310 ⟨E311, rfl, n309, hk309, hn309, hn309x⟩
   have hpk_old := hpk
   have := E311.size
   have hbl := hbl.keepG E311 (fun k hk => .inr (by have := hpk_old.lt k hk; omega))
   have hB5 := hB5.keepG E311 dj6
   have hxl := hxl.keepG E311 dj299
   have hb := hb.stepF E311 (fun _ _ h => h)
   rcases Bool.eq_false_or_eq_true ((decide (bl.length ≤ n2))) with c95 | c95
   ·
    rw [c95]
    refine zB ?_
    refine hK308 _ _ (wp_cond_true (zA hN305 rfl) (zH ?_))
    skip
    refine zf (pv := [(0, (.int .i64 8)), (1, (.string (bs [117])))]) (v := (Value.agg #[(.int .i64 8), (.string (bs [117])), (.string (bs [])), (.slice none 0 0), (.slice none 0 0), (.slice none 0 0), (.slice none 0 0), (.string (bs [])), (.slice none 0 0), (.slice none 0 0), (.slice none 0 0), (.bool false), (.slice none 0 0)])) ⟨rfl, rfl, ⟨rfl, rfl, trivial⟩⟩ zy ?_
    refine zZ size45 (zC hN305 rfl s305_7) (zA hN305 rfl) rfl rfl hxl rfl ?_
    intro w314 hxl E315
    have := E315.size
    have hbl := hbl.keep E315 sR
    have hB5 := hB5.keep E315 sB
    have hk309 := hk309.keepG (Gr.of E315) (Dj.one dj299)
    have hb := hb.step1 E315 zx
    refine zB ?_
    refine blk_normal ?_
    -- round 11F 57F 70F 88T 93T 95T
    exact zg _ hN305 hd305 ⟨n309, (XS.mk (StF.mk 8 ([117]) [] (.slice none 0 0) [] (.slice none 0 0) [] (.slice none 0 0) [] (.slice none 0 0) [] [] (.slice none 0 0) [] (.slice none 0 0) [] (.slice none 0 0) [] false) (.slice none 0 0) []), w314.heap.size, w314.heap.size, rfl, (zL hN305 rfl s305_0), (zL hN305 rfl s305_2), (zL hN305 rfl s305_7), zx, zx, zx, zx, zx, hb, zx, hbl, hB5, hxl, (SFr.flat (L := w314.heap.size) (B := w314.heap.size) (s := XS.mk (StF.mk 8 ([117]) [] (.slice none 0 0) [] (.slice none 0 0) [] (.slice none 0 0) [] (.slice none 0 0) [] [] (.slice none 0 0) [] (.slice none 0 0) [] (.slice none 0 0) [] false) (.slice none 0 0) []) ⟨(rdN _ _ _ _), (rdN _ _ _ _), (XsFr.nil _ _ _), (rdN _ _ _ _), (XsFr.nil _ _ _), (XsFr.nil _ _ _), (XsFr.nil _ _ _)⟩ rfl rfl), hk309⟩ (by rw [if_pos (show s9.f.kind = 6 by assumption)]; rw [if_neg zz]; omega)
   rw [c95]
   refine zB ?_
   refine hK308 _ _ (wp_cond_false (zA hN305 rfl) (zH ?_))
   skip
   refine zG (zC hN305 rfl s305_0) ?_
   refine zj ok39 (Data_ret hk309 zx hbl) ⟨(zA hN305 rfl), trivial⟩ ?_
   rintro _ w317 ⟨E318, sq316, rfl, hs316, n316, hk316, hn316, hn316x⟩
   have hk309_old := hk309
   have := E318.size
   have hbl := hbl.keepG E318 (fun k hk => .inr (by have := hk309_old.lt k hk; omega))
   have hB5 := hB5.keepG E318 dj6
   have hxl := hxl.keepG E318 dj299
   have hb := hb.stepF E318 (fun _ _ h => h)
   refine zZ size45 (zC hN305 rfl s305_7) (zA hN305 rfl) rfl (by simp only [List.all_cons, List.all_nil, Bool.true_and, Bool.and_true, hs316.ff.1.one, hs316.ff.2.1.one, hs316.ff.2.2.1.1.one, hs316.ff.2.2.2.1.one, hs316.ff.2.2.2.2.1.1.one, hs316.ff.2.2.2.2.2.1.1.one, hs316.ff.2.2.2.2.2.2.1.one, hs316.nvr.one]; try rfl) hxl rfl ?_
   intro w321 hxl E322
   have := E322.size
   have hbl := hbl.keep E322 sR
   have hB5 := hB5.keep E322 sB
   have hk316 := hk316.keepG (Gr.of E322) (Dj.one dj299)
   have hs316 := hs316.keep E322 sO
   have hb := hb.step1 E322 zx
   refine zB ?_
   refine blk_normal ?_
   -- round 11F 57F 70F 88T 93T 95F
   exact zg _ hN305 hd305 ⟨n316, sq316, w310.heap.size, w317.heap.size, rfl, (zL hN305 rfl s305_0), (zL hN305 rfl s305_2), (zL hN305 rfl s305_7), zx, zx, zx, zx, zx, hb, zx, hbl, hB5, hxl, hs316, hk316⟩ (by rw [if_pos (show s9.f.kind = 6 by assumption)]; have h9 := of_decide_eq_false c95; have h8 := hn316x zx; split <;> omega)
  refine zB ?_
  refine hK307 _ _ (wp_cond_false (zA hN305 rfl) (wp_exit (then_exit (then_exit (blk_hit ?_)))))
  refine hK304 _ _ (zF fun K323 hK323 => ?_)
  refine reg_split (hd := [_, _, _, _, _, _]) (tl := _) 6 mixed zy rfl rfl ?_
  refine any_rel (F := (fun k => k = p)) (Pk := (fun w' => ∃ nK, n2 ≤ nK ∧ PickR w' base p lv bl nK (fun k => k = p))) (L := [(fun uz _ => uz = (ptr p 0)), (fun uz _ => ∃ (vs324 : List UInt8), uz = (.string (bs vs324))), (fun uz _ => uz = (ptr p 0)), (fun uz w' => ∃ (gv327 : Value) (tg327 : List UInt16), uz = gv327 ∧ (tg327.length ≤ 2) ∧ RdC w' w305.heap.size w'.heap.size 1 gv327 tg327.length (tg327.map u16v)), (fun uz _ => uz = (.agg #[(.int .i64 s9.f.kind), (.string (bs s9.f.tb)), (.string (bs s9.f.nm)), s9.f.cv, s9.f.gv, s9.f.vv, s9.f.iv, (.string (bs s9.f.join)), s9.f.ov, s9.f.wv, s9.f.rv, (.bool s9.f.desc), s9.nv])), (fun uz w' => ∃ (b331 : Nat), uz = (.slice (some ⟨b331, 0, none⟩) 1 1) ∧ (w305.heap.size ≤ b331) ∧ Bx w' b331 45 [(.int .i64 s9.f.kind), (.string (bs s9.f.tb)), (.string (bs s9.f.nm)), s9.f.cv, s9.f.gv, s9.f.vv, s9.f.iv, (.string (bs s9.f.join)), s9.f.ov, s9.f.wv, s9.f.rv, (.bool s9.f.desc), s9.nv])]) [1, 3] zy zy zy zy hN305 (fun w1 w2 E h => by obtain ⟨x, h1, h2⟩ := h; exact ⟨x, h1, h2.keepG (zi E NoB) (fun _ _ h => h)⟩) ⟨_, Nat.le_refl _, hpk⟩ (StR.cons (fun _ _ _ _ h => h) (StR.cons (fun _ _ _ _ h => h) (StR.cons (fun _ _ _ _ h => h) (StR.cons (fun u w1 w2 E h => by obtain ⟨gv327, tg327, hv9, hp0, hf0⟩ := h; exact ⟨gv327, tg327, hv9, hp0, (hf0.keepG E sP).mono (Nat.le_refl _) E.size⟩) (StR.cons (fun _ _ _ _ h => h) (StR.cons (fun u w1 w2 E h => by obtain ⟨b331, hv9, hp0, hf0⟩ := h; exact ⟨b331, hv9, hp0, hf0.keepG E (fun hf => by have h9 : b331 = p := hf; omega)⟩) (StR.nil))))))) (ObWs9.cons rfl ?_ (ObWs9.turn rfl ?_ (ObWs9.cons rfl ?_ (ObWs9.turn rfl ?_ (ObWs9.cons rfl ?_ (ObWs9.cons rfl ?_ (ObWs9.nil))))))) ?_
  ·
   intro aA wA hNA hRA hPA hbsA hdpA
   have qA_0 := (hbsA 0 rfl).trans (zL hN305 rfl s305_0)
   refine zG (zC hNA rfl qA_0) ?_
   exact obW_rel rfl rfl (grown_refl _ _)
  ·
   intro aA wA hNA hRA hPA hbsA hdpA
   obtain ⟨nA, hnA, hkA⟩ := hPA
   have hpk_old := hpk
   have := hRA.size
   have hbl := hbl.keepG hRA (fun k hk => .inr (by have := hpk_old.lt k hk; omega))
   have qA_99 : Sl aA 99 (ptr p 0) := hdpA 0 _ 99 zy rfl rfl
   refine zj ok36 (pview_ret hkA zx hbl) ⟨(zC hNA rfl qA_99), trivial⟩ ?_
   rintro _ w336 ⟨E337, vs335, rfl, n335, hk335, hn335⟩
   have := E337.size
   exact obT_rel rfl ⟨vs335, rfl⟩ ⟨n335, by omega, hk335⟩ E337
  ·
   intro aA wA hNA hRA hPA hbsA hdpA
   have qA_0 := (hbsA 0 rfl).trans (zL hN305 rfl s305_0)
   refine zG (zC hNA rfl qA_0) ?_
   exact obW_rel rfl rfl (grown_refl _ _)
  ·
   intro aA wA hNA hRA hPA hbsA hdpA
   obtain ⟨nA, hnA, hkA⟩ := hPA
   have hpk_old := hpk
   have := hRA.size
   have hbl := hbl.keepG hRA (fun k hk => .inr (by have := hpk_old.lt k hk; omega))
   have qA_101 : Sl aA 101 (ptr p 0) := hdpA 2 _ 101 zy rfl rfl
   refine zj ok37 (Tags_ret hkA zx hbl) ⟨(zC hNA rfl qA_101), trivial⟩ ?_
   rintro gv338 w339 ⟨E340, tg338, htl338, ht338, n338, hk338, hn338⟩
   have := E340.size
   exact obT_rel rfl ⟨gv338, tg338, rfl, (by first | assumption | omega), (ht338.mono zx zx)⟩ ⟨n338, by omega, hk338⟩ E340
  ·
   intro aA wA hNA hRA hPA hbsA hdpA
   obtain ⟨nA, hnA, hkA⟩ := hPA
   have := hRA.size
   have hxl := hxl.keepG hRA dj299
   have qA_7 := (hbsA 7 rfl).trans (zL hN305 rfl s305_7)
   refine zY agg45 rfl (zC hNA rfl qA_7) hxl ?_
   exact obW_rel rfl rfl (grown_refl _ _)
  ·
   intro aA wA hNA hRA hPA hbsA hdpA
   obtain ⟨nA, hnA, hkA⟩ := hPA
   have := hRA.size
   have qA_103 : Sl aA 103 (.agg #[(.int .i64 s9.f.kind), (.string (bs s9.f.tb)), (.string (bs s9.f.nm)), s9.f.cv, s9.f.gv, s9.f.vv, s9.f.iv, (.string (bs s9.f.join)), s9.f.ov, s9.f.wv, s9.f.rv, (.bool s9.f.desc), s9.nv]) := hdpA 4 _ 103 zy rfl rfl
   refine op_bslice (e := 45) (pv := [(0, (.agg #[(.int .i64 s9.f.kind), (.string (bs s9.f.tb)), (.string (bs s9.f.nm)), s9.f.cv, s9.f.gv, s9.f.vv, s9.f.iv, (.string (bs s9.f.join)), s9.f.ov, s9.f.wv, s9.f.rv, (.bool s9.f.desc), s9.nv]))]) (cs := [(.int .i64 s9.f.kind), (.string (bs s9.f.tb)), (.string (bs s9.f.nm)), s9.f.cv, s9.f.gv, s9.f.vv, s9.f.iv, (.string (bs s9.f.join)), s9.f.ov, s9.f.wv, s9.f.rv, (.bool s9.f.desc), s9.nv]) ⟨rfl, (zC hNA rfl qA_103), trivial⟩ zy ?_
   intro w341 b342 lo_b342 hi_b342 hB344 E343
   have dj345 : ¬ (fun k => k = p) b342 := fun hf => by have := (hkA.lt _ hf).2; omega
   have := E343.size
   exact obW_rel rfl ⟨b342, rfl, (by first | assumption | omega), hB344⟩ E343
  intro a346 w346 hN346 hd346 hbs346 hph346 hP346 hR346
  have hd346 := hd346.trans ((by simp only [putsL_defers] : _ = _).trans hd305)
  obtain ⟨n346, hn346, hk346⟩ := hP346
  have := hR346.size
  have hB5 := hB5.keepG hR346 dj6
  have hs9 := hs9.keepG hR346 sP
  have hb := hb.stepF hR346 (fun _ _ h => h)
  have s346_2 := (hbs346 2 rfl).trans (zL hN305 rfl s305_2)
  obtain ⟨vs324, q346_100⟩ := hph346 1 _ 100 rfl rfl
  obtain ⟨gv327, tg327, q346_102, hp3_0, ht327⟩ := hph346 3 _ 102 rfl rfl
  obtain ⟨b331, q346_104, hp5_0, hB333⟩ := hph346 5 _ 104 rfl rfl
  have hi_b331 := hB333.lt
  refine split_end ?_
  refine from_seq (tl := [_, _]) zz zy rfl ?_
  refine zf (pv := [(0, (.int .i64 4)), (2, (.string (bs vs324))), (4, gv327), (12, (.slice (some ⟨b331, 0, none⟩) 1 1))]) (v := (Value.agg #[(.int .i64 4), (.string (bs [])), (.string (bs vs324)), (.slice none 0 0), gv327, (.slice none 0 0), (.slice none 0 0), (.string (bs [])), (.slice none 0 0), (.slice none 0 0), (.slice none 0 0), (.bool false), (.slice (some ⟨b331, 0, none⟩) 1 1)])) ⟨rfl, rfl, ⟨rfl, (zC hN346 rfl q346_100), ⟨rfl, (zC hN346 rfl q346_102), ⟨rfl, (zC hN346 rfl q346_104), trivial⟩⟩⟩⟩ (by obtain ⟨_, _, _, rfl⟩ := ht327.sl; kernel_rfl) ?_
  refine zZ size45 (zC hN346 rfl s346_2) (zA hN346 rfl) rfl (by simp only [List.all_cons, List.all_nil, Bool.true_and, Bool.and_true, ht327.one]; try rfl) hB5 rfl ?_
  intro w349 hB5 E350
  have := E350.size
  have hs9 := hs9.keep E350 sO
  have hk346 := hk346.keepG (Gr.of E350) (Dj.one dj6)
  have ht327 := ht327.keep E350 sO
  have hB333 := hB333.keep E350 sB
  have hb := hb.step1 E350 zx
  refine zB ?_
  refine hK323 _ _ (wp_ret (zb (zO ( ?_))))
  refine retC rfl hd346 (zC hN346 rfl s346_2) agg45 rfl hB5 ⟨_, rfl, ?_⟩
  exact ⟨hb, XS.mk (StF.mk 4 [] vs324 (.slice none 0 0) [] gv327 tg327 (.slice none 0 0) [] (.slice none 0 0) [] [] (.slice none 0 0) [] (.slice none 0 0) [] (.slice none 0 0) [] false) (.slice (some ⟨b331, 0, none⟩) 1 1) [s9], rfl, SFr.one (a := s9) ⟨(rdN _ _ _ _), (ht327.mono zx zx), (XsFr.nil _ _ _), (rdN _ _ _ _), (XsFr.nil _ _ _), (XsFr.nil _ _ _), (XsFr.nil _ _ _)⟩ hB333 rfl rfl zx hB333.lt (hs9.mono zx zx), n346, hk346, by omega⟩
 refine zD (zA hN rfl) ?_
 refine zB ?_
 refine hK290 _ _ (wp_cond_false (zA hN rfl) (zF fun K351 hK351 => ?_))
 refine zH ?_
 refine op_eql (zA hN rfl) rfl (fun c107 => ?_) (fun c107 => ?_)
 ·
  refine zD (zA hN rfl) ?_
  refine zB ?_
  refine hK351 _ _ (wp_cond_true (zA hN rfl) (zF fun K352 hK352 => ?_))
  refine zH ?_
  refine zG (zC hN rfl s0) ?_
  refine zj ok35 (Num_ret (m := 3) hk9 zx hbl zx zx) ⟨(zA hN rfl), ⟨rfl, trivial⟩⟩ ?_
  rintro _ w354 ⟨E355, r353, rfl, hr353, n353, hk353, hn353, hn353x⟩
  have := E355.size
  have hB5 := hB5.keepG E355 dj6
  have hb := hb.stepF E355 (fun _ _ h => h)
  refine op_add rfl (zA hN rfl) (add64 zx) ?_
  refine zf (pv := [(0, (.int .i64 (9 + ((r353 : Nat) : Int))))]) (v := (Value.agg #[(.int .i64 (9 + ((r353 : Nat) : Int))), (.string (bs [])), (.string (bs [])), (.slice none 0 0), (.slice none 0 0), (.slice none 0 0), (.slice none 0 0), (.string (bs [])), (.slice none 0 0), (.slice none 0 0), (.slice none 0 0), (.bool false), (.slice none 0 0)])) ⟨rfl, (zA hN rfl), trivial⟩ zy ?_
  refine zZ size45 (zA hN rfl) (zA hN rfl) rfl rfl hB5 rfl ?_
  intro w358 hB5 E359
  have := E359.size
  have hk353 := hk353.keepG (Gr.of E359) (Dj.one dj6)
  have hb := hb.step1 E359 zx
  refine zB ?_
  refine hK352 _ _ (wp_ret (zb (zO ( ?_))))
  refine retC rfl hd (zA hN rfl) agg45 rfl hB5 ⟨_, rfl, ?_⟩
  exact ⟨hb, XS.mk (StF.mk (9 + ((r353 : Nat) : Int)) [] [] (.slice none 0 0) [] (.slice none 0 0) [] (.slice none 0 0) [] (.slice none 0 0) [] [] (.slice none 0 0) [] (.slice none 0 0) [] (.slice none 0 0) [] false) (.slice none 0 0) [], rfl, SFr.flat ⟨(rdN _ _ _ _), (rdN _ _ _ _), (XsFr.nil _ _ _), (rdN _ _ _ _), (XsFr.nil _ _ _), (XsFr.nil _ _ _), (XsFr.nil _ _ _)⟩ rfl rfl, n353, hk353, by omega⟩
 refine zD (zA hN rfl) ?_
 refine zB ?_
 refine hK351 _ _ (wp_cond_false (zA hN rfl) (zF fun K360 hK360 => ?_))
 refine zH ?_
 refine op_eql (zA hN rfl) rfl (fun c113 => ?_) (fun c113 => ?_)
 ·
  refine zD (zA hN rfl) ?_
  refine zB ?_
  refine hK360 _ _ (wp_cond_true (zA hN rfl) (zF fun K361 hK361 => ?_))
  refine zH ?_
  refine zG (zC hN rfl s0) ?_
  refine zj ok35 (Num_ret (m := 3) hk9 zx hbl zx zx) ⟨(zA hN rfl), ⟨rfl, trivial⟩⟩ ?_
  rintro _ w363 ⟨E364, r362, rfl, hr362, n362, hk362, hn362, hn362x⟩
  have hk9_old := hk9
  have := E364.size
  have hbl := hbl.keepG E364 (fun k hk => .inr (by have := hk9_old.lt k hk; omega))
  have hB5 := hB5.keepG E364 dj6
  have hb := hb.stepF E364 (fun _ _ h => h)
  refine op_add rfl (zA hN rfl) (add64 zx) ?_
  refine op_conv (r := ((UInt16.ofNat (1 + r362)).toNat : Int)) (zA hN rfl) us3 Try.underlying74 (wrap_tag zx) ?_
  refine op_bslice (e := 74) (pv := [(0, (.int .u16 ((UInt16.ofNat (1 + r362)).toNat : Int)))]) (cs := [(.int .u16 ((UInt16.ofNat (1 + r362)).toNat : Int))]) ⟨rfl, (zA hN rfl), trivial⟩ zy ?_
  intro w365 b366 lo_b366 hi_b366 hB368 E367
  have dj369 : ¬ (fun k => k = p) b366 := fun hf => by have := (hk362.lt _ hf).2; omega
  have := E367.size
  have hbl := hbl.keep0 E367
  have hB5 := hB5.keep0 E367
  have hk362 := hk362.keepG (zi E367 NoB) (fun _ _ h => h)
  have hb := hb.step0 E367
  refine zG (zC hN rfl s0) ?_
  refine zj ok37 (Tags_ret hk362 zx hbl) ⟨(zA hN rfl), trivial⟩ ?_
  rintro gv370 w371 ⟨E372, tg370, htl370, ht370, n370, hk370, hn370⟩
  have := E372.size
  have hB5 := hB5.keepG E372 dj6
  have hB368 := hB368.keepG E372 dj369
  have hb := hb.stepF E372 (fun _ _ h => h)
  skip
  have hP378 := (Own.ofBx (base := w.heap.size) (sz := 1) (n := 1) hB368 rfl zz zx)
  refine op_append slt42 (zA hN rfl) hP378 (zA hN rfl) (Src.ofRd Try.underlying42 zz ht370 (one_u16 _)) (by unfold maxLen; omega) zx hb.size ?_
  intro v373 w374 hO376 E375 hm377
  have := E375.size
  have hB5 := hB5.keep E375 (by simp [Value.ownBlock]; try omega)
  have hk370 := hk370.keepG (Gr.of E375) (Dj.one dj369)
  have hb := hb.stepO hP378 E375 zx
  have hO376 : Own w374 w.heap.size 74 1 v373 ([(UInt16.ofNat (1 + r362))] ++ tg370).length ((([(UInt16.ofNat (1 + r362))] ++ tg370)).map u16v) := by exact hO376.cast (by simp [Nat.add_comm]) (by simp [u16v])
  refine zf (pv := [(0, (.int .i64 12)), (4, v373)]) (v := (Value.agg #[(.int .i64 12), (.string (bs [])), (.string (bs [])), (.slice none 0 0), v373, (.slice none 0 0), (.slice none 0 0), (.string (bs [])), (.slice none 0 0), (.slice none 0 0), (.slice none 0 0), (.bool false), (.slice none 0 0)])) ⟨rfl, rfl, ⟨rfl, (zA hN rfl), trivial⟩⟩ (by obtain ⟨_, _, _, rfl⟩ := hO376.sl; kernel_rfl) ?_
  have hB5_old := hB5
  refine zZ size45 (zA hN rfl) (zA hN rfl) rfl (by simp only [List.all_cons, List.all_nil, Bool.true_and, Bool.and_true, hO376.one]; try rfl) hB5 rfl ?_
  intro w382 hB5 E383
  have := E383.size
  have hk370 := hk370.keepG (Gr.of E383) (Dj.one dj6)
  have hO376 := hO376.keepX hB5_old E383 zz
  have hb := hb.step1 E383 zx
  refine zB ?_
  refine hK361 _ _ (wp_ret (zb (zO ( ?_))))
  refine retC rfl hd (zA hN rfl) agg45 rfl hB5 ⟨_, rfl, ?_⟩
  exact ⟨hb, XS.mk (StF.mk 12 [] [] (.slice none 0 0) [] v373 ([(UInt16.ofNat (1 + r362))] ++ tg370) (.slice none 0 0) [] (.slice none 0 0) [] [] (.slice none 0 0) [] (.slice none 0 0) [] (.slice none 0 0) [] false) (.slice none 0 0) [], rfl, SFr.flat ⟨(rdN _ _ _ _), (hO376.rdw.mono zx zx), (XsFr.nil _ _ _), (rdN _ _ _ _), (XsFr.nil _ _ _), (XsFr.nil _ _ _), (XsFr.nil _ _ _)⟩ rfl rfl, n370, hk370, by omega⟩
 refine zD (zA hN rfl) ?_
 refine zB ?_
 refine hK360 _ _ (wp_cond_false (zA hN rfl) (zF fun K384 hK384 => ?_))
 refine zH ?_
 refine op_eql (zA hN rfl) rfl (fun c124 => ?_) (fun c124 => ?_)
 ·
  refine zD (zA hN rfl) ?_
  refine zB ?_
  refine hK384 _ _ (wp_cond_true (zA hN rfl) (zF fun K385 hK385 => ?_))
  refine zH ?_
  refine zG (zC hN rfl s0) ?_
  refine zj ok36 (pview_ret hk9 zx hbl) ⟨(zA hN rfl), trivial⟩ ?_
  rintro _ w387 ⟨E388, vs386, rfl, n386, hk386, hn386⟩
  have := E388.size
  have hB5 := hB5.keepG E388 dj6
  have hb := hb.stepF E388 (fun _ _ h => h)
  refine zf (pv := [(0, (.int .i64 13)), (2, (.string (bs vs386)))]) (v := (Value.agg #[(.int .i64 13), (.string (bs [])), (.string (bs vs386)), (.slice none 0 0), (.slice none 0 0), (.slice none 0 0), (.slice none 0 0), (.string (bs [])), (.slice none 0 0), (.slice none 0 0), (.slice none 0 0), (.bool false), (.slice none 0 0)])) ⟨rfl, rfl, ⟨rfl, (zA hN rfl), trivial⟩⟩ zy ?_
  refine zZ size45 (zA hN rfl) (zA hN rfl) rfl rfl hB5 rfl ?_
  intro w391 hB5 E392
  have := E392.size
  have hk386 := hk386.keepG (Gr.of E392) (Dj.one dj6)
  have hb := hb.step1 E392 zx
  refine zB ?_
  refine hK385 _ _ (wp_ret (zb (zO ( ?_))))
  refine retC rfl hd (zA hN rfl) agg45 rfl hB5 ⟨_, rfl, ?_⟩
  exact ⟨hb, XS.mk (StF.mk 13 [] vs386 (.slice none 0 0) [] (.slice none 0 0) [] (.slice none 0 0) [] (.slice none 0 0) [] [] (.slice none 0 0) [] (.slice none 0 0) [] (.slice none 0 0) [] false) (.slice none 0 0) [], rfl, SFr.flat ⟨(rdN _ _ _ _), (rdN _ _ _ _), (XsFr.nil _ _ _), (rdN _ _ _ _), (XsFr.nil _ _ _), (XsFr.nil _ _ _), (XsFr.nil _ _ _)⟩ rfl rfl, n386, hk386, by omega⟩
 refine zD (zA hN rfl) ?_
 refine zB ?_
 refine hK384 _ _ (wp_cond_false (zA hN rfl) (wp_skip (hK7 _ _ (zF fun K393 hK393 => ?_))))
 refine zH ?_
 refine zG (zC hN rfl s0) ?_
 refine zj ok39 (Data_ret hk9 zx hbl) ⟨(zA hN rfl), trivial⟩ ?_
 rintro _ w395 ⟨E396, sq394, rfl, hs394, n394, hk394, hn394, hn394x⟩
 have := E396.size
 have hB5 := hB5.keepG E396 dj6
 have hb := hb.stepF E396 (fun _ _ h => h)
 refine zZ size45 (zA hN rfl) (zA hN rfl) rfl (by simp only [List.all_cons, List.all_nil, Bool.true_and, Bool.and_true, hs394.ff.1.one, hs394.ff.2.1.one, hs394.ff.2.2.1.1.one, hs394.ff.2.2.2.1.one, hs394.ff.2.2.2.2.1.1.one, hs394.ff.2.2.2.2.2.1.1.one, hs394.ff.2.2.2.2.2.2.1.one, hs394.nvr.one]; try rfl) hB5 rfl ?_
 intro w399 hB5 E400
 have := E400.size
 have hk394 := hk394.keepG (Gr.of E400) (Dj.one dj6)
 have hs394 := hs394.keep E400 sO
 have hb := hb.step1 E400 zx
 refine zB ?_
 refine hK393 _ _ (wp_ret ?_)
 refine retC rfl hd (zA hN rfl) agg45 rfl hB5 ⟨_, rfl, ?_⟩
 exact ⟨hb, sq394, rfl, hs394.mono zx zx, n394, hk394, by omega⟩
theorem rd_take1 {w : World} {L B : Nat} {v : Value} {D : List DTab} (hD : D.length = 2) (h : RdC w L B 3 v (1 - 0) (((D.flatMap cellsT).drop (0 * 3)).take ((1 - 0) * 3))) : RdC w L B 3 v (D.take 1).length ((D.take 1).flatMap cellsT) := by
  match D, hD with
  | [a, b], _ => exact h.cast rfl (by simp [cellsT])
theorem take1_sz {D : List DTab} (h1 : D.length ≤ 1000000) (h2 : ∀ d ∈ D, d.t.cols.length ≤ 1000000 ∧ d.t.idx.length ≤ 1000000) : (D.take 1).length ≤ 1000000 ∧ ∀ d ∈ D.take 1, d.t.cols.length ≤ 1000000 ∧ d.t.idx.length ≤ 1000000 :=
  ⟨by rw [List.length_take]; omega, fun d hd => h2 d (List.mem_of_mem_take hd)⟩

theorem TypedMade_ret {bl : List UInt8} {lv : Value} (k : UInt8) (w : World) (hbl : RdC w 0 w.heap.size 1 lv bl.length (bl.map u8v)) : Ret Try.prog 4 #[lv, (.int .u8 (k.toNat : Int))] w (fun v' w' => Below w.heap.size w w' ∧ v' = .bool true) := by
 have hb := Below.refl w.heap.size w
 refine enter (N := 30) Try.func4 rfl rfl (by simp) fun a0 hN hd hA => ?_
 have s0 : a0.tmps.getD 0 undef = lv := hA 0 (by simp)
 have s1 : a0.tmps.getD 1 undef = (.int .u8 (k.toNat : Int)) := hA 1 (by simp)
 clear hA
 refine zF fun K1 hK1 => ?_
 refine zH ?_
 refine zD rfl ?_
 refine zB ?_
 refine hK1 _ _ (zF fun K2 hK2 => ?_)
 refine zF fun K3 hK3 => ?_
 refine zH ?_
 refine zj ok12 (begun10_ret _) trivial ?_
 rintro _ w4 ⟨E5, rfl⟩
 have E5 := zQ E5
 have := E5.size
 have hbl := hbl.keep0 E5
 have hb := zP hb E5 hb.size
 refine op_not (zA hN rfl) ?_
 refine zB ?_
 refine hK3 _ _ (wp_cond_false (zA hN rfl) (wp_skip (hK2 _ _ (zF fun K6 hK6 => ?_))))
 refine zF fun K7 hK7 => ?_
 refine zH ?_
 refine zG (zC hN rfl s0) ?_
 refine op_len_rd Try.underlying35 (zA hN rfl) hbl ?_
 refine op_gtr (zA hN rfl) rfl (fun c11 => ?_) (fun c11 => ?_)
 ·
  refine zB ?_
  refine hK7 _ _ (wp_cond_true (zA hN rfl) (zF fun K8 hK8 => ?_))
  refine zH ?_
  refine zD rfl ?_
  refine zB ?_
  refine hK8 _ _ (wp_ret (zO ( ?_)))
  refine ret1 rfl hd (zA hN rfl) ⟨_, rfl, ?_⟩
  exact ⟨hb, rfl⟩
 refine zB ?_
 refine hK7 _ _ (wp_cond_false (zA hN rfl) (wp_skip (hK6 _ _ (zF fun K9 hK9 => ?_))))
 refine zH ?_
 refine zj ok16 (Schema_ret _) trivial ?_
 rintro _ w11 ⟨E12, tv10, D10, rfl, hM10, hT10⟩
 have E12 := zQ E12
 have := E12.size
 have hbl := hbl.keep0 E12
 have hb := zP hb E12 hb.size
 have hR10 := hT10.1
 have hz10 := sch_sz hM10
 refine op_alloc (cs := [(.slice none 0 0), (.slice none 0 0)]) zero39 rfl ?_
 intro w13 b14 lo_b14 hi_b14 hB16 E15
 have := E15.size
 have hbl := hbl.keep0 E15
 have hR10 := hR10.keep0 E15
 have hT10 := hT10.keep0 E15
 have hb := zP hb E15 hb.size
 refine zZ size39 (zA hN rfl) (zA hN rfl) rfl (by simp only [List.all_cons, List.all_nil, Bool.true_and, Bool.and_true, hR10.one]; try rfl) hB16 rfl ?_
 intro w19 hB16 E20
 have := E20.size
 have hbl := hbl.keep E20 sR
 have hR10 := hR10.keep E20 sR
 have hT10 := hT10.keep E20 sR
 have hb := below_step1 hb E20 hb.size zx
 refine zB ?_
 refine hK9 _ _ (seq_join1 (N := 30) (fun az_ w' => ∃ (tv2 : Value) (D2 : List DTab), (az_.tmps.getD 0 undef = lv) ∧ (az_.tmps.getD 4 undef = (.bool false)) ∧ (az_.tmps.getD 5 undef = (ptr b14 0)) ∧ (D2.length ≤ 1000000 ∧ ∀ d ∈ D2, d.t.cols.length ≤ 1000000 ∧ d.t.idx.length ≤ 1000000) ∧ (Below w.heap.size w w') ∧ (w19.heap.size ≤ w'.heap.size) ∧ (RdC w' 0 w.heap.size 1 lv bl.length (bl.map u8v)) ∧ (Bx w' b14 39 [tv2, (.slice none 0 0)]) ∧ (TsRd w' w11.heap.size tv2 D2) ∧ (RdC w' 0 w11.heap.size 3 tv2 D2.length (D2.flatMap cellsT))) (fun hJ21 => ?_) ?_)
 ·
  refine zF fun K22 hK22 => ?_
  refine zF fun K23 hK23 => ?_
  refine zH ?_
  refine zG (zC hN rfl s1) ?_
  refine op_rem (r := ((k.toNat % 4 : Nat) : Int)) (zA hN rfl) rfl zz (by rw [Int.tmod_eq_emod_of_nonneg zx]; omega) ?_
  refine op_eql (zA hN rfl) rfl (fun c15 => ?_) (fun c15 => ?_)
  ·
   refine zB ?_
   refine hK23 _ _ (wp_cond_true (zA hN rfl) (zH ?_))
   have hl9 := (sch_0 hM10).1
   refine zM fld39_0 (zA hN rfl) ?_
   refine zN (v := tv10) one36 (zA hN rfl) (hB16.cell rfl) ?_
   refine op_slice_rd (lo := 0) (hi := 1) slt36 (zA hN rfl) hR10 (.inl ⟨rfl, rfl⟩) (.inr ⟨_, _, rfl, rfl⟩) zx zx ?_
   intro v24 hR25
   have hR25 : RdC w19 0 w11.heap.size 3 v24 ((D10.take 1).length) (((D10.take 1)).flatMap cellsT) := by exact rd_take1 hl9 hR25
   refine zM fld39_0 (zA hN rfl) ?_
   refine za (vs := [v24]) (cs' := [v24, (.slice none 0 0)]) size36 (zA hN rfl) (zA hN rfl) hR25.cl rfl (by simp only [List.all_cons, List.all_nil, Bool.true_and, Bool.and_true, hR25.one]; try rfl) hB16 (zI rfl) rfl ?_
   intro w28 hB16 E29
   have := E29.size
   have hbl := hbl.keep E29 sR
   have hT10 := hT10.keep E29 sR
   have hR25 := hR25.keep E29 sR
   have hb := below_step1 hb E29 hb.size zx
   refine zB ?_
   refine hK22 _ _ ?_
   exact hJ21 _ _ _ hN hd ⟨v24, (D10.take 1), (zL hN rfl s0), (zU hN rfl), (zU hN rfl), (take1_sz hz10.1 hz10.2), hb, zx, hbl, hB16, ⟨hR25, fun a ha => hT10.2 a (List.mem_of_mem_take ha)⟩, hR25⟩
  refine zB ?_
  refine hK23 _ _ (wp_cond_false (zA hN rfl) (wp_skip (hK22 _ _ ?_)))
  exact hJ21 _ _ _ hN hd ⟨tv10, D10, (zL hN rfl s0), (zU hN rfl), (zU hN rfl), hz10, hb, zx, hbl, hB16, hT10, hR10⟩
 rintro a21 w21 hN21 hd21 ⟨tv2, D2, s21_0, s21_4, s21_5, hz2, hb, zl_w21, hbl, hxs, hT2, hR2⟩
 have := hb.size
 refine zF fun K30 hK30 => ?_
 refine zH ?_
 refine zG (zC hN21 rfl s21_0) ?_
 refine zj ok17 (Made_ret (B0 := w.heap.size) zx (hbl.mono (Nat.zero_le _) zx) zx) ⟨(zA hN21 rfl), trivial⟩ ?_
 rintro _ w32 ⟨E33, p31, rfl, lo_p31, hk31⟩
 have E33 := zQ E33
 have := E33.size
 have hbl := hbl.keep0 E33
 have hxs := hxs.keep0 E33
 have hT2 := hT2.keep0 E33
 have hb := zP hb E33 hb.size
 have hi_p31 := (hk31.lt p31 rfl).2
 refine zj ok18 (Stmt_ret hk31 zx hbl) ⟨(zA hN21 rfl), trivial⟩ ?_
 rintro _ w35 ⟨E36, sq34, rfl, hs34, n34, hk34, hn34⟩
 have hk31_old := hk31
 have := E36.size
 have hxs := hxs.keepG E36 (hk31_old.notBx hxs zz)
 have hT2 := hT2.keepG E36 (fun k hk => .inr (by have := hk31_old.lt k hk; omega))
 have hb := below_stepG hb E36 hb.size (fun k hk => (hk31_old.lt k hk).1)
 refine op_alloc (cs := [(.int .i64 0), (.string (bs [])), (.string (bs [])), (.slice none 0 0), (.slice none 0 0), (.slice none 0 0), (.slice none 0 0), (.string (bs [])), (.slice none 0 0), (.slice none 0 0), (.slice none 0 0), (.bool false), (.slice none 0 0)]) zero45 rfl ?_
 intro w37 b38 lo_b38 hi_b38 hB40 E39
 have dj41 : ¬ (fun k => k = p31) b38 := fun hf => by have := (hk34.lt _ hf).2; omega
 have := E39.size
 have hxs := hxs.keep0 E39
 have hT2 := hT2.keep0 E39
 have hs34 := hs34.keep0 E39
 have hb := zP hb E39 hb.size
 have hB40_old := hB40
 refine zZ size45 (zA hN21 rfl) (zA hN21 rfl) rfl (by simp only [List.all_cons, List.all_nil, Bool.true_and, Bool.and_true, hs34.ff.1.one, hs34.ff.2.1.one, hs34.ff.2.2.1.1.one, hs34.ff.2.2.2.1.one, hs34.ff.2.2.2.2.1.1.one, hs34.ff.2.2.2.2.2.1.1.one, hs34.ff.2.2.2.2.2.2.1.one, hs34.nvr.one]; try rfl) hB40 rfl ?_
 intro w44 hB40 E45
 have := E45.size
 have hxs := hxs.keep E45 (sN hxs hB40_old)
 have hT2 := hT2.keep E45 sR
 have hs34 := hs34.keep E45 sO
 have hb := below_step1 hb E45 hb.size zx
 refine zB ?_
 refine hK30 _ _ (zF fun K46 hK46 => ?_)
 refine reg_split (hd := [_, _, _, _, _, _]) (tl := _) 6 mixed zy rfl rfl ?_
 refine any_env (φ := phiV [(fun uz => uz = (.agg #[tv2, (.slice none 0 0)])), (fun uz => uz = (.agg #[(.int .i64 sq34.f.kind), (.string (bs sq34.f.tb)), (.string (bs sq34.f.nm)), sq34.f.cv, sq34.f.gv, sq34.f.vv, sq34.f.iv, (.string (bs sq34.f.join)), sq34.f.ov, sq34.f.wv, sq34.f.rv, (.bool sq34.f.desc), sq34.nv])), (fun _ => True), (fun uz => uz = (.agg #[tv2, (.slice none 0 0)])), (fun uz => uz = (.agg #[(.int .i64 sq34.f.kind), (.string (bs sq34.f.tb)), (.string (bs sq34.f.nm)), sq34.f.cv, sq34.f.gv, sq34.f.vv, sq34.f.iv, (.string (bs sq34.f.join)), sq34.f.ov, sq34.f.wv, sq34.f.rv, (.bool sq34.f.desc), sq34.nv])), (fun _ => True)]) (G := fun w' => Bx w' b14 39 [tv2, (.slice none 0 0)] ∧ Bx w' b38 45 [(.int .i64 sq34.f.kind), (.string (bs sq34.f.tb)), (.string (bs sq34.f.nm)), sq34.f.cv, sq34.f.gv, sq34.f.vv, sq34.f.iv, (.string (bs sq34.f.join)), sq34.f.ov, sq34.f.wv, sq34.f.rv, (.bool sq34.f.desc), sq34.nv]) [2, 5] zy zy zy zy hN21 (fun w1 w2 E h => by obtain ⟨h0, h1⟩ := h; exact ⟨h0.keep0 E, h1.keep0 E⟩) ⟨hxs, hB40⟩ (ObEs.cons ?_ (ObEs.cons ?_ (ObEs.pass rfl (ObEs.cons ?_ (ObEs.cons ?_ (ObEs.pass rfl (ObEs.nil))))))) (by simp only [putsL_defers]) ?_
 ·
  intro eA aA wA hNA hGA hbsA hdpA
  have qA_5 := (hbsA 5 rfl).trans (zL hN21 rfl s21_5)
  obtain ⟨hxs, hB40⟩ := hGA
  refine zY agg39 rfl (zC hNA rfl qA_5) hxs ?_
  exact obE_end rfl rfl rfl
 ·
  intro eA aA wA hNA hGA hbsA hdpA
  have qA_6 := (hbsA 6 rfl).trans (zU hN21 rfl)
  obtain ⟨hxs, hB40⟩ := hGA
  refine zY agg45 rfl (zC hNA rfl qA_6) hB40 ?_
  exact obE_end rfl rfl rfl
 ·
  intro eA aA wA hNA hGA hbsA hdpA
  have qA_5 := (hbsA 5 rfl).trans (zL hN21 rfl s21_5)
  obtain ⟨hxs, hB40⟩ := hGA
  refine zY agg39 rfl (zC hNA rfl qA_5) hxs ?_
  exact obE_end rfl rfl rfl
 ·
  intro eA aA wA hNA hGA hbsA hdpA
  have qA_6 := (hbsA 6 rfl).trans (zU hN21 rfl)
  obtain ⟨hxs, hB40⟩ := hGA
  refine zY agg45 rfl (zC hNA rfl qA_6) hB40 ?_
  exact obE_end rfl rfl rfl
 intro w47 E47 _ a47 hN47 hbs47 hdp47 o_ ho_; obtain rfl := zE ho_
 have := E47.size
 have hxs := hxs.keep0 E47
 have hT2 := hT2.keep0 E47
 have hs34 := hs34.keep0 E47
 have hB40 := hB40.keep0 E47
 have hb := zP hb E47 hb.size
 have q47_23 : Sl a47 23 (.agg #[tv2, (.slice none 0 0)]) := (hdp47 0 _ 23 zy rfl rfl).2 rfl
 have q47_24 : Sl a47 24 (.agg #[(.int .i64 sq34.f.kind), (.string (bs sq34.f.tb)), (.string (bs sq34.f.nm)), sq34.f.cv, sq34.f.gv, sq34.f.vv, sq34.f.iv, (.string (bs sq34.f.join)), sq34.f.ov, sq34.f.wv, sq34.f.rv, (.bool sq34.f.desc), sq34.nv]) := (hdp47 1 _ 24 zy rfl rfl).2 rfl
 refine zj ok19 (Check_all sq34 (hT2.mono zx) hz2.1 hz2.2 (hs34.rd.mono zx)) ⟨(zC hN47 rfl q47_23), ⟨(zC hN47 rfl q47_24), trivial⟩⟩ ?_
 rintro _ w48 ⟨E49, rfl⟩
 have E49 := zQ E49
 have := E49.size
 have hxs := hxs.keep0 E49
 have hT2 := hT2.keep0 E49
 have hs34 := hs34.keep0 E49
 have hB40 := hB40.keep0 E49
 have hb := zP hb E49 hb.size
 refine ke_end rfl zz rfl ⟨hxs, hB40⟩ ?_
 intro w50 E50 _ a50 hN50 hbs50 hdp50 o_ ho_; obtain rfl := zE ho_
 have := E50.size
 have hxs := hxs.keep0 E50
 have hT2 := hT2.keep0 E50
 have hs34 := hs34.keep0 E50
 have hB40 := hB40.keep0 E50
 have hb := zP hb E50 hb.size
 have q50_26 : Sl a50 26 (.agg #[tv2, (.slice none 0 0)]) := (hdp50 3 _ 26 zy rfl rfl).2 rfl
 have q50_27 : Sl a50 27 (.agg #[(.int .i64 sq34.f.kind), (.string (bs sq34.f.tb)), (.string (bs sq34.f.nm)), sq34.f.cv, sq34.f.gv, sq34.f.vv, sq34.f.iv, (.string (bs sq34.f.join)), sq34.f.ov, sq34.f.wv, sq34.f.rv, (.bool sq34.f.desc), sq34.nv]) := (hdp50 4 _ 27 zy rfl rfl).2 rfl
 refine zj ok20 (CheckQ_all sq34 (hT2.mono zx) hz2.1 hz2.2 (hs34.rd.mono zx)) ⟨(zC hN50 rfl q50_26), ⟨(zC hN50 rfl q50_27), trivial⟩⟩ ?_
 rintro _ w51 ⟨E52, rfl⟩
 have E52 := zQ E52
 have := E52.size
 have hxs := hxs.keep0 E52
 have hB40 := hB40.keep0 E52
 have hb := zP hb E52 hb.size
 refine ke_end rfl zz rfl ⟨hxs, hB40⟩ ?_
 intro w53 E53 a53 hN53 hd53 hbs53 hph53
 have hd53 := hd53.trans ((by simp only [putsL_defers] : _ = _).trans hd21)
 have := E53.size
 have hb := zP hb E53 hb.size
 have s53_25 : Sl a53 25 (.int .i64 (checkE (D2.map DTab.t) [] sq34)) := (zE ((hph53 2 _ 25 rfl rfl).1 0 rfl)).symm
 have s53_28 : Sl a53 28 (.int .i64 (checkE (D2.map DTab.t) [] sq34)) := (zE ((hph53 5 _ 28 rfl rfl).1 1 rfl)).symm
 refine split_end ?_
 refine from_seq (tl := [_, _]) zz zy rfl ?_
 refine op_eql (zC hN53 rfl s53_25) (zC hN53 rfl s53_28) (fun c29 => ?_) (fun c29 => ?_)
 ·
  refine zD (zA hN53 rfl) ?_
  refine zB ?_
  refine hK46 _ _ (wp_ret ?_)
  refine ret1 rfl hd53 (zA hN53 rfl) ⟨_, rfl, ?_⟩
  exact ⟨hb, rfl⟩
 exact absurd rfl c29

end Go.Proofs.Ythflnkfghogaoaa

namespace Go.Gx
open Go.RowKit Go.WideShapes
section
variable {H : Type} {enc : TypeId × Value → H} {P : Program} {w : World} {base : Nat} {spare : Nat → Bool} {held : Bool} {t e : TypeId}
end
end Go.Gx

namespace Go.Proofs.Ythflnkfghogaoaa
open Go.Gx Go.RowKit
theorem cells5 : Try.prog.cellsOf 5 = 1 := by kernel_rfl
theorem flat_u8v (l : List UInt8) : l.flatMap (fun c => [u8v c]) = l.map u8v := by induction l with | nil => rfl | cons c l ih => simp [ih]
theorem dec35 {H : Type} {enc : TypeId × Value → H} {w : World} {base : Nat} {spare : Nat → Bool} {held : Bool} : Dec enc Try.prog w base spare held 35 (fun p : Value × List UInt8 => [p.1]) (fun p => RdC w 0 w.heap.size 1 p.1 p.2.length (p.2.map u8v)) :=
  (Dec.slice Try.underlying35 (by rw [cells5]; decide) (Dec.u8 Try.underlying5) (fun _ _ => by rw [cells5]; rfl)).map fun p hp => ⟨p, rfl, by have hq := hp.1; rwa [cells5, flat_u8v] at hq⟩
end Go.Proofs.Ythflnkfghogaoaa
