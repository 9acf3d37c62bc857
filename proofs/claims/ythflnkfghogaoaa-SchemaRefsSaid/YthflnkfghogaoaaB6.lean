/- Walks, written by a program: what each function of the translation hands back. -/
import Derived.Test.YthflnkfghogaoaaProg
import Derived.KernelRfl
import Derived.Test.YthflnkfghogaoaaB5
set_option linter.unusedVariables false
set_option linter.unusedSimpArgs false

namespace Go.Proofs.Ythflnkfghogaoaa
open Go.Gx Go.RowKit
attribute [local irreducible] wpList wpStill Code.wp Calls

theorem SchemaRefs_ret (k r pl : UInt8) (two : Bool) {w : World} : Ret Try.prog 10 #[(.int .u8 (k.toNat : Int)), (.int .u8 (r.toNat : Int)), (.int .u8 (pl.toNat : Int)), (.bool two)] w (fun v' w' => Below w.heap.size w w' ∧ v' = .bool true) := by
 have hb := Below.refl w.heap.size w
 refine enter (N := 90) Try.func10 rfl rfl (by simp) fun a0 hN hd hA => ?_
 have s0 : a0.tmps.getD 0 undef = (.int .u8 (k.toNat : Int)) := hA 0 (by simp)
 have s1 : a0.tmps.getD 1 undef = (.int .u8 (r.toNat : Int)) := hA 1 (by simp)
 have s2 : a0.tmps.getD 2 undef = (.int .u8 (pl.toNat : Int)) := hA 2 (by simp)
 have s3 : a0.tmps.getD 3 undef = (.bool two) := hA 3 (by simp)
 clear hA
 refine zF fun K1 hK1 => ?_
 refine zH ?_
 refine zD rfl ?_
 refine zB ?_
 refine hK1 _ _ (zF fun K2 hK2 => ?_)
 refine zF fun K3 hK3 => ?_
 refine zH ?_
 refine zj ok26 (begun9_ret) trivial ?_
 rintro _ w4 ⟨E5, rfl⟩
 have E5 := zQ E5
 have := E5.size
 have hb := zP hb E5 hb.size
 refine op_not (zA hN rfl) ?_
 refine zB ?_
 refine hK3 _ _ (wp_cond_false (zA hN rfl) (wp_skip (hK2 _ _ (zF fun K6 hK6 => ?_))))
 refine zH ?_
 refine zf (pv := []) (v := (Value.agg #[(.slice none 0 0), (.slice none 0 0)])) trivial zy ?_
 refine zf (pv := [(0, (.string (bs [107]))), (1, (.int .i64 1))]) (v := (Value.agg #[(.string (bs [107])), (.int .i64 1), (.string (bs []))])) ⟨rfl, rfl, ⟨rfl, rfl, trivial⟩⟩ zy ?_
 refine op_bslice (e := 68) (pv := [(0, (.agg #[(.string (bs [107])), (.int .i64 1), (.string (bs []))]))]) (cs := [(.string (bs [107])), (.int .i64 1), (.string (bs []))]) ⟨rfl, (zA hN rfl), trivial⟩ zy ?_
 intro w7 b8 lo_b8 hi_b8 hB10 E9
 have := E9.size
 have hb := zP hb E9 hb.size
 refine zf (pv := [(0, (.int .i64 1)), (2, (.string (bs [97]))), (3, (.slice (some ⟨b8, 0, none⟩) 1 1))]) (v := (Value.agg #[(.int .i64 1), (.string (bs [])), (.string (bs [97])), (.slice (some ⟨b8, 0, none⟩) 1 1), (.slice none 0 0), (.slice none 0 0), (.slice none 0 0), (.string (bs [])), (.slice none 0 0), (.slice none 0 0), (.slice none 0 0), (.bool false), (.slice none 0 0)])) ⟨rfl, rfl, ⟨rfl, rfl, ⟨rfl, (zA hN rfl), trivial⟩⟩⟩ zy ?_
 refine zj ok27 (AddN_ret (D := ([] : List DTab)) (V := ([] : List DVw)) (o := ([] : Lb)) (s := (XS.mk (StF.mk 1 [] ([97]) (.slice (some ⟨b8, 0, none⟩) 1 1) ([(PCol.mk ([107]) 1 [])]) (.slice none 0 0) [] (.slice none 0 0) [] (.slice none 0 0) [] [] (.slice none 0 0) [] (.slice none 0 0) [] (.slice none 0 0) [] false) (.slice none 0 0) [])) ⟨RdC.nil _ _ _ _, fun _ h => (by cases h)⟩ zz (fun _ h => (by cases h)) (VsFr.nil _ _ _) (SFr.flat (s := (XS.mk (StF.mk 1 [] ([97]) (.slice (some ⟨b8, 0, none⟩) 1 1) ([(PCol.mk ([107]) 1 [])]) (.slice none 0 0) [] (.slice none 0 0) [] (.slice none 0 0) [] [] (.slice none 0 0) [] (.slice none 0 0) [] (.slice none 0 0) [] false) (.slice none 0 0) [])) ⟨(((RdC.ofBx (sz := 3) (n := 1) hB10 rfl zz).mono (Nat.zero_le _) hB10.lt).cast rfl rfl), (RdC.nil _ _ _ _), XsFr.nil _ _ _, (RdC.nil _ _ _ _), XsFr.nil _ _ _, XsFr.nil _ _ _, XsFr.nil _ _ _⟩ ⟨(zI rfl), (zI rfl), (zI rfl)⟩ rfl rfl) (zI rfl) (RdC.nil _ _ _ _) (show (1 : Int) ≠ 2 by decide)) ⟨(zA hN rfl), ⟨(zA hN rfl), ⟨rfl, trivial⟩⟩⟩ ?_
 rintro _ w12 ⟨E13, tz11, vz11, D11z, V11z, rfl, hT11, hV11, hE11, hN11⟩
 have hR11 := hT11.1
 have hVR11 := hV11.1
 have E13 := zQ E13
 have := E13.size
 have hB10 := hB10.keep0 E13
 have hb := zP hb E13 hb.size
 refine zG (zA hN rfl) ?_
 refine zW (zA hN rfl) rfl ?_
 refine zW (zA hN rfl) rfl ?_
 refine op_alloc (cs := [(.slice none 0 0), (.slice none 0 0)]) zero39 rfl ?_
 intro w14 b15 lo_b15 hi_b15 hB17 E16
 have := E16.size
 have hB10 := hB10.keep0 E16
 have hT11 := hT11.keep0 E16
 have hR11 := hR11.keep0 E16
 have hV11 := hV11.keep0 E16
 have hVR11 := hVR11.keep0 E16
 have hb := zP hb E16 hb.size
 have hB17_old := hB17
 refine zZ size39 (zA hN rfl) (zA hN rfl) rfl (by simp only [List.all_cons, List.all_nil, Bool.true_and, Bool.and_true, hR11.one, hV11.rdc.one]; try rfl) hB17 rfl ?_
 intro w20 hB17 E21
 have := E21.size
 have hB10 := hB10.keep E21 (sN hB10 hB17_old)
 have hT11 := hT11.keep E21 sO
 have hR11 := hR11.keep E21 sO
 have hV11 := hV11.keep E21 sO
 have hVR11 := hVR11.keep E21 sO
 have hb := below_step1 hb E21 hb.size zx
 refine zD (zA hN rfl) ?_
 refine zB ?_
 refine hK6 _ _ (zF fun K22 hK22 => ?_)
 refine zF fun K23 hK23 => ?_
 refine zH ?_
 obtain ⟨hM9, hA9⟩ := hE11 rfl
 have hM8 : D11z.map DTab.t = [tabA] := hM9.trans rfl
 have hDz := SzT.d (D := D11z) (by rw [hM8]; exact ⟨by decide, by decide⟩)
 refine zG (zA hN rfl) ?_
 refine op_neq (zA hN rfl) rfl (fun c27 => ?_) (fun c27 => ?_)
 ·
  exact absurd rfl c27
 refine zB ?_
 refine hK23 _ _ (wp_cond_false (zA hN rfl) (wp_skip (hK22 _ _ (zF fun K24 hK24 => ?_))))
 refine zH ?_
 refine zf (pv := [(0, (.string (bs [107]))), (1, (.int .i64 2))]) (v := (Value.agg #[(.string (bs [107])), (.int .i64 2), (.string (bs []))])) ⟨rfl, rfl, ⟨rfl, rfl, trivial⟩⟩ zy ?_
 refine zf (pv := [(0, (.string (bs [120]))), (1, (.int .i64 1))]) (v := (Value.agg #[(.string (bs [120])), (.int .i64 1), (.string (bs []))])) ⟨rfl, rfl, ⟨rfl, rfl, trivial⟩⟩ zy ?_
 refine zf (pv := [(0, (.string (bs [121]))), (1, (.int .i64 1))]) (v := (Value.agg #[(.string (bs [121])), (.int .i64 1), (.string (bs []))])) ⟨rfl, rfl, ⟨rfl, rfl, trivial⟩⟩ zy ?_
 refine op_bslice (e := 68) (pv := [(0, (.agg #[(.string (bs [107])), (.int .i64 2), (.string (bs []))])), (1, (.agg #[(.string (bs [120])), (.int .i64 1), (.string (bs []))])), (2, (.agg #[(.string (bs [121])), (.int .i64 1), (.string (bs []))]))]) (cs := [(.string (bs [107])), (.int .i64 2), (.string (bs [])), (.string (bs [120])), (.int .i64 1), (.string (bs [])), (.string (bs [121])), (.int .i64 1), (.string (bs []))]) ⟨rfl, (zA hN rfl), ⟨rfl, (zA hN rfl), ⟨rfl, (zA hN rfl), trivial⟩⟩⟩ zy ?_
 intro w25 b26 lo_b26 hi_b26 hB28 E27
 have := E27.size
 have hT11 := hT11.keep0 E27
 have hR11 := hR11.keep0 E27
 have hV11 := hV11.keep0 E27
 have hVR11 := hVR11.keep0 E27
 obtain ⟨hB10, hB17⟩ := kb2 E27 hB10 hB17
 have hb := zP hb E27 hb.size
 refine zf (pv := [(0, (.int .i64 1)), (2, (.string (bs [98]))), (3, (.slice (some ⟨b26, 0, none⟩) 3 3))]) (v := (Value.agg #[(.int .i64 1), (.string (bs [])), (.string (bs [98])), (.slice (some ⟨b26, 0, none⟩) 3 3), (.slice none 0 0), (.slice none 0 0), (.slice none 0 0), (.string (bs [])), (.slice none 0 0), (.slice none 0 0), (.slice none 0 0), (.bool false), (.slice none 0 0)])) ⟨rfl, rfl, ⟨rfl, rfl, ⟨rfl, (zA hN rfl), trivial⟩⟩⟩ zy ?_
 refine op_alloc (cs := [(.int .i64 0), (.string (bs [])), (.string (bs [])), (.slice none 0 0), (.slice none 0 0), (.slice none 0 0), (.slice none 0 0), (.string (bs [])), (.slice none 0 0), (.slice none 0 0), (.slice none 0 0), (.bool false), (.slice none 0 0)]) zero45 rfl ?_
 intro w29 b30 lo_b30 hi_b30 hB32 E31
 have := E31.size
 have hT11 := hT11.keep0 E31
 have hR11 := hR11.keep0 E31
 have hV11 := hV11.keep0 E31
 have hVR11 := hVR11.keep0 E31
 obtain ⟨hB10, hB17, hB28⟩ := kb3 E31 hB10 hB17 hB28
 have hb := zP hb E31 hb.size
 have hB32_old := hB32
 refine zZ size45 (zA hN rfl) (zA hN rfl) rfl rfl hB32 rfl ?_
 intro w35 hB32 E36
 have := E36.size
 have hB10 := hB10.keep E36 (sN hB10 hB32_old)
 have hT11 := hT11.keep E36 sO
 have hR11 := hR11.keep E36 sO
 have hV11 := hV11.keep E36 sO
 have hVR11 := hVR11.keep E36 sO
 have hB17 := hB17.keep E36 (sN hB17 hB32_old)
 have hB28 := hB28.keep E36 (sN hB28 hB32_old)
 have hb := below_step1 hb E36 hb.size zx
 refine zB ?_
 refine hK24 _ _ (seq_join4 (N := 90) (fun az_ w' => ∃ (c0 c1 c2 : PCol), (az_.tmps.getD 0 undef = (.int .u8 (k.toNat : Int))) ∧ (az_.tmps.getD 1 undef = (.int .u8 (r.toNat : Int))) ∧ (az_.tmps.getD 3 undef = (.bool two)) ∧ (az_.tmps.getD 8 undef = (.bool false)) ∧ (az_.tmps.getD 9 undef = (ptr b15 0)) ∧ (az_.tmps.getD 11 undef = (ptr b30 0)) ∧ (az_.tmps.getD 12 undef = (.int .i64 (((pl.toNat % 3) : Nat) : Int))) ∧ ([c0, c1, c2] = refsC (k.toNat % 2) (r.toNat % 3) (pl.toNat % 3) two) ∧ (Below w.heap.size w w') ∧ (w35.heap.size ≤ w'.heap.size) ∧ (Bx w' b8 68 [(.string (bs [107])), (.int .i64 1), (.string (bs []))]) ∧ (TsFr w' w7.heap.size w12.heap.size tz11 D11z) ∧ (RdC w' w7.heap.size w12.heap.size 3 tz11 D11z.length (D11z.flatMap cellsT)) ∧ (VsFr w' w7.heap.size w12.heap.size vz11 V11z) ∧ (RdC w' w7.heap.size w12.heap.size 15 vz11 V11z.length (V11z.flatMap cellsW)) ∧ (Bx w' b15 39 [tz11, vz11]) ∧ (Bx w' b30 45 [(.int .i64 1), (.string (bs [])), (.string (bs [98])), (.slice (some ⟨b26, 0, none⟩) 3 3), (.slice none 0 0), (.slice none 0 0), (.slice none 0 0), (.string (bs [])), (.slice none 0 0), (.slice none 0 0), (.slice none 0 0), (.bool false), (.slice none 0 0)]) ∧ (Bx w' b26 68 [(.string (bs c0.nm)), (.int .i64 c0.kind), (.string (bs c0.ref)), (.string (bs c1.nm)), (.int .i64 c1.kind), (.string (bs c1.ref)), (.string (bs c2.nm)), (.int .i64 c2.kind), (.string (bs c2.ref))])) (fun hJ37 => ?_) ?_)
 ·
  refine zF fun K38 hK38 => ?_
  refine zH ?_
  refine zG (zC hN rfl s2) ?_
  refine op_rem (r := ((pl.toNat % 3 : Nat) : Int)) (zA hN rfl) rfl zz (by rw [Int.tmod_eq_emod_of_nonneg zx]; omega) ?_
  refine op_conv (r := (((pl.toNat % 3) : Nat) : Int)) (zA hN rfl) us5 Try.underlying3 (wrap_i64 zx) ?_
  rcases (show (pl.toNat % 3) = 0 ∨ (pl.toNat % 3) = 1 ∨ (pl.toNat % 3) = 2 by omega) with hp9 | hp9 | hp9
  ·
   rw [hp9]
   refine zD (zA hN rfl) ?_
   refine zB ?_
   refine hK38 _ _ (zF fun K39 hK39 => ?_)
   refine zH ?_
   refine zM fld45_3 (zA hN rfl) ?_
   refine zN (v := (Value.slice (some ⟨b26, 0, none⟩) 3 3)) one41 (zA hN rfl) (hB32.cell rfl) ?_
   refine zG (zA hN rfl) ?_
   refine zG (zC hN rfl s0) ?_
   refine op_rem (r := ((k.toNat % 2 : Nat) : Int)) (zA hN rfl) rfl zz (by rw [Int.tmod_eq_emod_of_nonneg zx]; omega) ?_
   refine op_conv (r := (((k.toNat % 2) : Nat) : Int)) (zA hN rfl) us5 Try.underlying3 (wrap_i64 zx) ?_
   refine op_add rfl (zA hN rfl) (add64 zx) ?_
   refine op_index_lit (i := 0) (o := 0) slt41 (zA hN rfl) (zA hN rfl) rfl zz rfl ?_
   refine zM fld68_1 (zA hN rfl) ?_
   have hB28_old := hB28
   refine za (vs := [(.int .i64 (1 + (((k.toNat % 2) : Nat) : Int)))]) (cs' := [(.string (bs [107])), (.int .i64 (1 + (((k.toNat % 2) : Nat) : Int))), (.string (bs [])), (.string (bs [120])), (.int .i64 1), (.string (bs [])), (.string (bs [121])), (.int .i64 1), (.string (bs []))]) size3 (zA hN rfl) (zA hN rfl) rfl rfl rfl hB28 (zI rfl) rfl ?_
   intro w42 hB28 E43
   have := E43.size
   have hB10 := hB10.keep E43 sB
   have hT11 := hT11.keep E43 sO
   have hR11 := hR11.keep E43 sO
   have hV11 := hV11.keep E43 sO
   have hVR11 := hVR11.keep E43 sO
   have hB17 := hB17.keep E43 (sN hB17 hB28_old)
   have hB32 := hB32.keep E43 (sN hB32 hB28_old)
   have hb := below_step1 hb E43 hb.size zx
   refine zB ?_
   refine hK39 _ _ (zF fun K44 hK44 => ?_)
   refine reg_split (hd := [_, _, _, _, _, _, _, _]) (tl := _) 8 mixed zy rfl rfl ?_
   refine any_tree (φ := phiV [(fun uz => uz = (ptr b30 3)), (fun uz => uz = (.slice (some ⟨b26, 0, none⟩) 3 3)), (fun uz => uz = (.int .i64 ((0 : Nat) : Int))), (fun _ => True), (fun uz => uz = (.int .u8 (r.toNat : Int))), (fun uz => uz = (.int .u8 ((r.toNat % 3 : Nat) : Int))), (fun _ => True), (fun _ => True)]) (G := fun w' => Bx w' b30 45 [(.int .i64 1), (.string (bs [])), (.string (bs [98])), (.slice (some ⟨b26, 0, none⟩) 3 3), (.slice none 0 0), (.slice none 0 0), (.slice none 0 0), (.string (bs [])), (.slice none 0 0), (.slice none 0 0), (.slice none 0 0), (.bool false), (.slice none 0 0)]) [3, 6, 7] zy zy zy zy zy hN (fun w1 w2 E h => h.keep0 E) hB32 (ObRs9.cons ?_ (ObRs9.cons ?_ (ObRs9.cons ?_ (ObRs9.pass rfl (ObRs9.cons ?_ (ObRs9.cons ?_ (ObRs9.pass rfl (ObRs9.pass rfl (ObRs9.nil))))))))) (by simp only [putsL_defers]) ?_
   ·
    intro eA aA wA hNA hGA hbsA hdpA
    have qA_11 := (hbsA 11 rfl).trans (zU hN rfl)
    refine zM fld45_3 (zC hNA rfl qA_11) ?_
    exact obT_end rfl rfl
   ·
    intro eA aA wA hNA hGA hbsA hdpA
    have qA_45 : Sl aA 45 (ptr b30 3) := (hdpA 0 _ 45 zy rfl rfl).2 rfl
    refine zN (v := (Value.slice (some ⟨b26, 0, none⟩) 3 3)) one41 (zC hNA rfl qA_45) (hGA.cell rfl) ?_
    exact obT_end rfl rfl
   ·
    intro eA aA wA hNA hGA hbsA hdpA
    have qA_12 := (hbsA 12 rfl).trans (zU hN rfl)
    refine zG (zC hNA rfl qA_12) ?_
    exact obT_end rfl rfl
   ·
    intro eA aA wA hNA hGA hbsA hdpA
    have qA_1 := (hbsA 1 rfl).trans (zL hN rfl s1)
    refine zG (zC hNA rfl qA_1) ?_
    exact obT_end rfl rfl
   ·
    intro eA aA wA hNA hGA hbsA hdpA
    have qA_49 : Sl aA 49 (.int .u8 (r.toNat : Int)) := (hdpA 4 _ 49 zy rfl rfl).2 rfl
    refine op_rem (r := ((r.toNat % 3 : Nat) : Int)) (zC hNA rfl qA_49) rfl zz (by rw [Int.tmod_eq_emod_of_nonneg zx]; omega) ?_
    exact obT_end rfl rfl
   refine kt_step (rs := [3]) zy ?_
   refine one_mem ?_
   intro w46 E46 _ a46 hN46 hbs46 hdp46 o_ ho_; obtain rfl := zE ho_
   have := E46.size
   have hT11 := hT11.keep0 E46
   have hR11 := hR11.keep0 E46
   have hV11 := hV11.keep0 E46
   have hVR11 := hVR11.keep0 E46
   obtain ⟨hB10, hB17, hB32, hB28⟩ := kb4 E46 hB10 hB17 hB32 hB28
   have hb := zP hb E46 hb.size
   refine op_bslice (e := 9) (pv := [(0, (.string (bs [97]))), (1, (.string (bs [98]))), (2, (.string (bs [99])))]) (cs := [(.string (bs [97])), (.string (bs [98])), (.string (bs [99]))]) ⟨rfl, rfl, ⟨rfl, rfl, ⟨rfl, rfl, trivial⟩⟩⟩ zy ?_
   intro w47 b48 lo_b48 hi_b48 hB50 E49
   have := E49.size
   have hT11 := hT11.keep0 E49
   have hR11 := hR11.keep0 E49
   have hV11 := hV11.keep0 E49
   have hVR11 := hVR11.keep0 E49
   obtain ⟨hB10, hB17, hB32, hB28⟩ := kb4 E49 hB10 hB17 hB32 hB28
   have hb := zP hb E49 hb.size
   refine kt_end rfl hB32 ?_
   refine kt_step (rs := [6]) zy ?_
   refine one_mem ?_
   intro w52 E52 _ a52 hN52 hbs52 hdp52 o_ ho_; obtain rfl := zE ho_
   have := E52.size
   have hT11 := hT11.keep0 E52
   have hR11 := hR11.keep0 E52
   have hV11 := hV11.keep0 E52
   have hVR11 := hVR11.keep0 E52
   obtain ⟨hB10, hB17, hB32, hB28, hB50⟩ := kb5 E52 hB10 hB17 hB32 hB28 hB50
   have hb := zP hb E52 hb.size
   have q52_48 : Sl a52 48 (.slice (some ⟨b48, 0, none⟩) 3 3) := (zE ((hdp52 3 _ 48 zy rfl rfl).1 rfl)).symm
   have q52_50 : Sl a52 50 (.int .u8 ((r.toNat % 3 : Nat) : Int)) := (hdp52 5 _ 50 zy rfl rfl).2 rfl
   refine zh slt53 (zC hN52 rfl q52_48) (RdC.ofBx (sz := 1) (n := 3) hB50 rfl zz) (zC hN52 rfl q52_50) zx zx ?_
   intro b53 o54 h0b53 h1b53 hc55
   have hp56 : PtC w52 b48 (b48 + 1) b53 o54 [(.string (bs (([[97], [98], [99]] : List (List UInt8)).getD (r.toNat % 3) [])))] := ⟨by omega, by omega, fun j u hu => hc55 j u (by have := (List.getElem?_eq_some_iff.1 hu).1; simpa using this) ((fun j u hu => one_at (el_sv (l := ([[97], [98], [99]] : List (List UInt8))) (i := (r.toNat % 3)) rfl (show _ < 3 by omega)) hu) j u hu)⟩
   refine kt_end rfl hB32 ?_
   refine kt_step (rs := [7]) zy ?_
   refine one_mem ?_
   intro w58 E58 _ a58 hN58 hbs58 hdp58 o_ ho_; obtain rfl := zE ho_
   have := E58.size
   have hT11 := hT11.keep0 E58
   have hR11 := hR11.keep0 E58
   have hV11 := hV11.keep0 E58
   have hVR11 := hVR11.keep0 E58
   have hp56 := hp56.keep0 E58
   obtain ⟨hB10, hB17, hB32, hB28⟩ := kb4 E58 hB10 hB17 hB32 hB28
   have hb := zP hb E58 hb.size
   have q58_51 : Sl a58 51 (ptr b53 o54) := (zE ((hdp58 6 _ 51 zy rfl rfl).1 rfl)).symm
   refine zN (v := (Value.string (bs (([[97], [98], [99]] : List (List UInt8)).getD (r.toNat % 3) [])))) one9 (zC hN58 rfl q58_51) (hp56.2.2 0 _ rfl) ?_
   refine kt_end rfl hB32 ?_
   intro w59 E59 a59 hN59 hd59 hbs59 hph59
   have hd59 := hd59.trans ((by simp only [putsL_defers] : _ = _).trans hd)
   have := E59.size
   have hT11 := hT11.keep0 E59
   have hR11 := hR11.keep0 E59
   have hV11 := hV11.keep0 E59
   have hVR11 := hVR11.keep0 E59
   obtain ⟨hB10, hB17, hB32, hB28⟩ := kb4 E59 hB10 hB17 hB32 hB28
   have hb := zP hb E59 hb.size
   have s59_0 := (hbs59 0 rfl).trans (zL hN rfl s0)
   have s59_1 := (hbs59 1 rfl).trans (zL hN rfl s1)
   have s59_3 := (hbs59 3 rfl).trans (zL hN rfl s3)
   have s59_8 := (hbs59 8 rfl).trans (zU hN rfl)
   have s59_9 := (hbs59 9 rfl).trans (zU hN rfl)
   have s59_11 := (hbs59 11 rfl).trans (zU hN rfl)
   have s59_12 := (hbs59 12 rfl).trans (zU hN rfl)
   have s59_46 : Sl a59 46 (.slice (some ⟨b26, 0, none⟩) 3 3) := (hph59 1 _ 46 rfl rfl).2 rfl
   have s59_47 : Sl a59 47 (.int .i64 ((0 : Nat) : Int)) := (hph59 2 _ 47 rfl rfl).2 rfl
   have s59_52 : Sl a59 52 (.string (bs (([[97], [98], [99]] : List (List UInt8)).getD (r.toNat % 3) []))) := (zE ((hph59 7 _ 52 rfl rfl).1 rfl)).symm
   refine split_end ?_
   refine from_seq (tl := [_, _, _]) zz zy rfl ?_
   skip
   refine op_index_lit (i := 0) (o := 0) slt41 (zC hN59 rfl s59_46) (zC hN59 rfl s59_47) rfl zz rfl ?_
   refine zM fld68_2 (zA hN59 rfl) ?_
   have hB28_old := hB28
   refine za (vs := [(.string (bs (([[97], [98], [99]] : List (List UInt8)).getD (r.toNat % 3) [])))]) (cs' := [(.string (bs [107])), (.int .i64 (1 + (((k.toNat % 2) : Nat) : Int))), (.string (bs (([[97], [98], [99]] : List (List UInt8)).getD (r.toNat % 3) []))), (.string (bs [120])), (.int .i64 1), (.string (bs [])), (.string (bs [121])), (.int .i64 1), (.string (bs []))]) size9 (zA hN59 rfl) (zC hN59 rfl s59_52) rfl rfl rfl hB28 (zI rfl) rfl ?_
   intro w62 hB28 E63
   have := E63.size
   have hB10 := hB10.keep E63 sB
   have hT11 := hT11.keep E63 sO
   have hR11 := hR11.keep E63 sO
   have hV11 := hV11.keep E63 sO
   have hVR11 := hVR11.keep E63 sO
   have hB17 := hB17.keep E63 (sN hB17 hB28_old)
   have hB32 := hB32.keep E63 (sN hB32 hB28_old)
   have hb := below_step1 hb E63 hb.size zx
   refine zB ?_
   refine hK44 _ _ (zF fun K64 hK64 => ?_)
   refine zF fun K65 hK65 => ?_
   refine zH ?_
   refine zG (zC hN59 rfl s59_3) ?_
   refine zG (zA hN59 rfl) ?_
   rcases Bool.eq_false_or_eq_true (two) with g56 | g56
   ·
    rw [g56]
    refine zS (j := 1) (dj := 56) (b := true) rfl rfl rfl (zA hN59 rfl) ?_
    refine zG (zC hN59 rfl s59_12) ?_
    refine zS (j := 1) (dj := 56) (b := true) rfl rfl rfl (zA hN59 rfl) ?_
    refine op_eql (zA hN59 rfl) rfl (fun c58 => ?_) (fun c58 => ?_)
    ·
     refine zc (zA hN59 rfl) (zA hN59 rfl) ?_
     refine zB ?_
     refine hK65 _ _ (wp_cond_true (zA hN59 rfl) (zH ?_))
     refine zM fld45_3 (zC hN59 rfl s59_11) ?_
     refine zN (v := (Value.slice (some ⟨b26, 0, none⟩) 3 3)) one41 (zA hN59 rfl) (hB32.cell rfl) ?_
     refine op_index_lit (i := 2) (o := 6) slt41 (zA hN59 rfl) rfl rfl zz rfl ?_
     refine zM fld68_2 (zA hN59 rfl) ?_
     have hB28_old := hB28
     refine za (vs := [(.string (bs [97]))]) (cs' := [(.string (bs [107])), (.int .i64 (1 + (((k.toNat % 2) : Nat) : Int))), (.string (bs (([[97], [98], [99]] : List (List UInt8)).getD (r.toNat % 3) []))), (.string (bs [120])), (.int .i64 1), (.string (bs [])), (.string (bs [121])), (.int .i64 1), (.string (bs [97]))]) size9 (zA hN59 rfl) rfl rfl rfl rfl hB28 (zI rfl) rfl ?_
     intro w68 hB28 E69
     have := E69.size
     have hB10 := hB10.keep E69 sB
     have hT11 := hT11.keep E69 sO
     have hR11 := hR11.keep E69 sO
     have hV11 := hV11.keep E69 sO
     have hVR11 := hVR11.keep E69 sO
     have hB17 := hB17.keep E69 (sN hB17 hB28_old)
     have hB32 := hB32.keep E69 (sN hB32 hB28_old)
     have hb := below_step1 hb E69 hb.size zx
     refine zB ?_
     refine hK64 _ _ ?_
     exact hJ37 _ _ _ hN59 hd59 ⟨(PCol.mk ([107]) (1 + (((k.toNat % 2) : Nat) : Int)) (([[97], [98], [99]] : List (List UInt8)).getD (r.toNat % 3) [])), (PCol.mk ([120]) 1 []), (PCol.mk ([121]) 1 ([97])), (zL hN59 rfl s59_0), (zL hN59 rfl s59_1), (zL hN59 rfl s59_3), (zL hN59 rfl s59_8), (zL hN59 rfl s59_9), (zL hN59 rfl s59_11), (zL hN59 rfl s59_12).trans (congrArg (Value.int .i64) zx), (by first | (exfalso; omega) | (rw [hp9, g56]; rfl)), hb, zx, hB10, hT11, hR11, hV11, hVR11, hB17, hB32, hB28⟩
    refine zc (zA hN59 rfl) (zA hN59 rfl) ?_
    refine zB ?_
    refine hK65 _ _ (wp_cond_false (zA hN59 rfl) (wp_skip (hK64 _ _ ?_)))
    exact hJ37 _ _ _ hN59 hd59 ⟨(PCol.mk ([107]) (1 + (((k.toNat % 2) : Nat) : Int)) (([[97], [98], [99]] : List (List UInt8)).getD (r.toNat % 3) [])), (PCol.mk ([120]) 1 []), (PCol.mk ([121]) 1 []), (zL hN59 rfl s59_0), (zL hN59 rfl s59_1), (zL hN59 rfl s59_3), (zL hN59 rfl s59_8), (zL hN59 rfl s59_9), (zL hN59 rfl s59_11), (zL hN59 rfl s59_12).trans (congrArg (Value.int .i64) zx), (by first | (exfalso; omega) | (rw [hp9, g56]; rfl)), hb, zx, hB10, hT11, hR11, hV11, hVR11, hB17, hB32, hB28⟩
   rw [g56]
   refine zR (j := 1) (dj := 56) (b := true) rfl rfl rfl (zA hN59 rfl) rfl rfl ?_
   refine zR (j := 1) (dj := 56) (b := true) rfl rfl rfl (zA hN59 rfl) rfl rfl ?_
   refine zd (zA hN59 rfl) rfl ?_
   refine zB ?_
   refine hK65 _ _ (wp_cond_false (zA hN59 rfl) (wp_skip (hK64 _ _ ?_)))
   exact hJ37 _ _ _ hN59 hd59 ⟨(PCol.mk ([107]) (1 + (((k.toNat % 2) : Nat) : Int)) (([[97], [98], [99]] : List (List UInt8)).getD (r.toNat % 3) [])), (PCol.mk ([120]) 1 []), (PCol.mk ([121]) 1 []), (zL hN59 rfl s59_0), (zL hN59 rfl s59_1), (zL hN59 rfl s59_3), (zL hN59 rfl s59_8), (zL hN59 rfl s59_9), (zL hN59 rfl s59_11), (zL hN59 rfl s59_12).trans (congrArg (Value.int .i64) zx), (by first | (exfalso; omega) | (rw [hp9, g56]; rfl)), hb, zx, hB10, hT11, hR11, hV11, hVR11, hB17, hB32, hB28⟩
  ·
   rw [hp9]
   refine zD (zA hN rfl) ?_
   refine zB ?_
   refine hK38 _ _ (zF fun K70 hK70 => ?_)
   refine zH ?_
   refine zM fld45_3 (zA hN rfl) ?_
   refine zN (v := (Value.slice (some ⟨b26, 0, none⟩) 3 3)) one41 (zA hN rfl) (hB32.cell rfl) ?_
   refine zG (zA hN rfl) ?_
   refine zG (zC hN rfl s0) ?_
   refine op_rem (r := ((k.toNat % 2 : Nat) : Int)) (zA hN rfl) rfl zz (by rw [Int.tmod_eq_emod_of_nonneg zx]; omega) ?_
   refine op_conv (r := (((k.toNat % 2) : Nat) : Int)) (zA hN rfl) us5 Try.underlying3 (wrap_i64 zx) ?_
   refine op_add rfl (zA hN rfl) (add64 zx) ?_
   refine op_index_lit (i := 1) (o := 3) slt41 (zA hN rfl) (zA hN rfl) rfl zz rfl ?_
   refine zM fld68_1 (zA hN rfl) ?_
   have hB28_old := hB28
   refine za (vs := [(.int .i64 (1 + (((k.toNat % 2) : Nat) : Int)))]) (cs' := [(.string (bs [107])), (.int .i64 2), (.string (bs [])), (.string (bs [120])), (.int .i64 (1 + (((k.toNat % 2) : Nat) : Int))), (.string (bs [])), (.string (bs [121])), (.int .i64 1), (.string (bs []))]) size3 (zA hN rfl) (zA hN rfl) rfl rfl rfl hB28 (zI rfl) rfl ?_
   intro w73 hB28 E74
   have := E74.size
   have hB10 := hB10.keep E74 sB
   have hT11 := hT11.keep E74 sO
   have hR11 := hR11.keep E74 sO
   have hV11 := hV11.keep E74 sO
   have hVR11 := hVR11.keep E74 sO
   have hB17 := hB17.keep E74 (sN hB17 hB28_old)
   have hB32 := hB32.keep E74 (sN hB32 hB28_old)
   have hb := below_step1 hb E74 hb.size zx
   refine zB ?_
   refine hK70 _ _ (zF fun K75 hK75 => ?_)
   refine reg_split (hd := [_, _, _, _, _, _, _, _]) (tl := _) 8 mixed zy rfl rfl ?_
   refine any_tree (φ := phiV [(fun uz => uz = (ptr b30 3)), (fun uz => uz = (.slice (some ⟨b26, 0, none⟩) 3 3)), (fun uz => uz = (.int .i64 ((1 : Nat) : Int))), (fun _ => True), (fun uz => uz = (.int .u8 (r.toNat : Int))), (fun uz => uz = (.int .u8 ((r.toNat % 3 : Nat) : Int))), (fun _ => True), (fun _ => True)]) (G := fun w' => Bx w' b30 45 [(.int .i64 1), (.string (bs [])), (.string (bs [98])), (.slice (some ⟨b26, 0, none⟩) 3 3), (.slice none 0 0), (.slice none 0 0), (.slice none 0 0), (.string (bs [])), (.slice none 0 0), (.slice none 0 0), (.slice none 0 0), (.bool false), (.slice none 0 0)]) [3, 6, 7] zy zy zy zy zy hN (fun w1 w2 E h => h.keep0 E) hB32 (ObRs9.cons ?_ (ObRs9.cons ?_ (ObRs9.cons ?_ (ObRs9.pass rfl (ObRs9.cons ?_ (ObRs9.cons ?_ (ObRs9.pass rfl (ObRs9.pass rfl (ObRs9.nil))))))))) (by simp only [putsL_defers]) ?_
   ·
    intro eA aA wA hNA hGA hbsA hdpA
    have qA_11 := (hbsA 11 rfl).trans (zU hN rfl)
    refine zM fld45_3 (zC hNA rfl qA_11) ?_
    exact obT_end rfl rfl
   ·
    intro eA aA wA hNA hGA hbsA hdpA
    have qA_45 : Sl aA 45 (ptr b30 3) := (hdpA 0 _ 45 zy rfl rfl).2 rfl
    refine zN (v := (Value.slice (some ⟨b26, 0, none⟩) 3 3)) one41 (zC hNA rfl qA_45) (hGA.cell rfl) ?_
    exact obT_end rfl rfl
   ·
    intro eA aA wA hNA hGA hbsA hdpA
    have qA_12 := (hbsA 12 rfl).trans (zU hN rfl)
    refine zG (zC hNA rfl qA_12) ?_
    exact obT_end rfl rfl
   ·
    intro eA aA wA hNA hGA hbsA hdpA
    have qA_1 := (hbsA 1 rfl).trans (zL hN rfl s1)
    refine zG (zC hNA rfl qA_1) ?_
    exact obT_end rfl rfl
   ·
    intro eA aA wA hNA hGA hbsA hdpA
    have qA_49 : Sl aA 49 (.int .u8 (r.toNat : Int)) := (hdpA 4 _ 49 zy rfl rfl).2 rfl
    refine op_rem (r := ((r.toNat % 3 : Nat) : Int)) (zC hNA rfl qA_49) rfl zz (by rw [Int.tmod_eq_emod_of_nonneg zx]; omega) ?_
    exact obT_end rfl rfl
   refine kt_step (rs := [3]) zy ?_
   refine one_mem ?_
   intro w77 E77 _ a77 hN77 hbs77 hdp77 o_ ho_; obtain rfl := zE ho_
   have := E77.size
   have hT11 := hT11.keep0 E77
   have hR11 := hR11.keep0 E77
   have hV11 := hV11.keep0 E77
   have hVR11 := hVR11.keep0 E77
   obtain ⟨hB10, hB17, hB32, hB28⟩ := kb4 E77 hB10 hB17 hB32 hB28
   have hb := zP hb E77 hb.size
   refine op_bslice (e := 9) (pv := [(0, (.string (bs [97]))), (1, (.string (bs [98]))), (2, (.string (bs [99])))]) (cs := [(.string (bs [97])), (.string (bs [98])), (.string (bs [99]))]) ⟨rfl, rfl, ⟨rfl, rfl, ⟨rfl, rfl, trivial⟩⟩⟩ zy ?_
   intro w78 b79 lo_b79 hi_b79 hB81 E80
   have := E80.size
   have hT11 := hT11.keep0 E80
   have hR11 := hR11.keep0 E80
   have hV11 := hV11.keep0 E80
   have hVR11 := hVR11.keep0 E80
   obtain ⟨hB10, hB17, hB32, hB28⟩ := kb4 E80 hB10 hB17 hB32 hB28
   have hb := zP hb E80 hb.size
   refine kt_end rfl hB32 ?_
   refine kt_step (rs := [6]) zy ?_
   refine one_mem ?_
   intro w83 E83 _ a83 hN83 hbs83 hdp83 o_ ho_; obtain rfl := zE ho_
   have := E83.size
   have hT11 := hT11.keep0 E83
   have hR11 := hR11.keep0 E83
   have hV11 := hV11.keep0 E83
   have hVR11 := hVR11.keep0 E83
   obtain ⟨hB10, hB17, hB32, hB28, hB81⟩ := kb5 E83 hB10 hB17 hB32 hB28 hB81
   have hb := zP hb E83 hb.size
   have q83_48 : Sl a83 48 (.slice (some ⟨b79, 0, none⟩) 3 3) := (zE ((hdp83 3 _ 48 zy rfl rfl).1 rfl)).symm
   have q83_50 : Sl a83 50 (.int .u8 ((r.toNat % 3 : Nat) : Int)) := (hdp83 5 _ 50 zy rfl rfl).2 rfl
   refine zh slt53 (zC hN83 rfl q83_48) (RdC.ofBx (sz := 1) (n := 3) hB81 rfl zz) (zC hN83 rfl q83_50) zx zx ?_
   intro b84 o85 h0b84 h1b84 hc86
   have hp87 : PtC w83 b79 (b79 + 1) b84 o85 [(.string (bs (([[97], [98], [99]] : List (List UInt8)).getD (r.toNat % 3) [])))] := ⟨by omega, by omega, fun j u hu => hc86 j u (by have := (List.getElem?_eq_some_iff.1 hu).1; simpa using this) ((fun j u hu => one_at (el_sv (l := ([[97], [98], [99]] : List (List UInt8))) (i := (r.toNat % 3)) rfl (show _ < 3 by omega)) hu) j u hu)⟩
   refine kt_end rfl hB32 ?_
   refine kt_step (rs := [7]) zy ?_
   refine one_mem ?_
   intro w89 E89 _ a89 hN89 hbs89 hdp89 o_ ho_; obtain rfl := zE ho_
   have := E89.size
   have hT11 := hT11.keep0 E89
   have hR11 := hR11.keep0 E89
   have hV11 := hV11.keep0 E89
   have hVR11 := hVR11.keep0 E89
   have hp87 := hp87.keep0 E89
   obtain ⟨hB10, hB17, hB32, hB28⟩ := kb4 E89 hB10 hB17 hB32 hB28
   have hb := zP hb E89 hb.size
   have q89_51 : Sl a89 51 (ptr b84 o85) := (zE ((hdp89 6 _ 51 zy rfl rfl).1 rfl)).symm
   refine zN (v := (Value.string (bs (([[97], [98], [99]] : List (List UInt8)).getD (r.toNat % 3) [])))) one9 (zC hN89 rfl q89_51) (hp87.2.2 0 _ rfl) ?_
   refine kt_end rfl hB32 ?_
   intro w90 E90 a90 hN90 hd90 hbs90 hph90
   have hd90 := hd90.trans ((by simp only [putsL_defers] : _ = _).trans hd)
   have := E90.size
   have hT11 := hT11.keep0 E90
   have hR11 := hR11.keep0 E90
   have hV11 := hV11.keep0 E90
   have hVR11 := hVR11.keep0 E90
   obtain ⟨hB10, hB17, hB32, hB28⟩ := kb4 E90 hB10 hB17 hB32 hB28
   have hb := zP hb E90 hb.size
   have s90_0 := (hbs90 0 rfl).trans (zL hN rfl s0)
   have s90_1 := (hbs90 1 rfl).trans (zL hN rfl s1)
   have s90_3 := (hbs90 3 rfl).trans (zL hN rfl s3)
   have s90_8 := (hbs90 8 rfl).trans (zU hN rfl)
   have s90_9 := (hbs90 9 rfl).trans (zU hN rfl)
   have s90_11 := (hbs90 11 rfl).trans (zU hN rfl)
   have s90_12 := (hbs90 12 rfl).trans (zU hN rfl)
   have s90_46 : Sl a90 46 (.slice (some ⟨b26, 0, none⟩) 3 3) := (hph90 1 _ 46 rfl rfl).2 rfl
   have s90_47 : Sl a90 47 (.int .i64 ((1 : Nat) : Int)) := (hph90 2 _ 47 rfl rfl).2 rfl
   have s90_52 : Sl a90 52 (.string (bs (([[97], [98], [99]] : List (List UInt8)).getD (r.toNat % 3) []))) := (zE ((hph90 7 _ 52 rfl rfl).1 rfl)).symm
   refine split_end ?_
   refine from_seq (tl := [_, _, _]) zz zy rfl ?_
   skip
   refine op_index_lit (i := 1) (o := 3) slt41 (zC hN90 rfl s90_46) (zC hN90 rfl s90_47) rfl zz rfl ?_
   refine zM fld68_2 (zA hN90 rfl) ?_
   have hB28_old := hB28
   refine za (vs := [(.string (bs (([[97], [98], [99]] : List (List UInt8)).getD (r.toNat % 3) [])))]) (cs' := [(.string (bs [107])), (.int .i64 2), (.string (bs [])), (.string (bs [120])), (.int .i64 (1 + (((k.toNat % 2) : Nat) : Int))), (.string (bs (([[97], [98], [99]] : List (List UInt8)).getD (r.toNat % 3) []))), (.string (bs [121])), (.int .i64 1), (.string (bs []))]) size9 (zA hN90 rfl) (zC hN90 rfl s90_52) rfl rfl rfl hB28 (zI rfl) rfl ?_
   intro w93 hB28 E94
   have := E94.size
   have hB10 := hB10.keep E94 sB
   have hT11 := hT11.keep E94 sO
   have hR11 := hR11.keep E94 sO
   have hV11 := hV11.keep E94 sO
   have hVR11 := hVR11.keep E94 sO
   have hB17 := hB17.keep E94 (sN hB17 hB28_old)
   have hB32 := hB32.keep E94 (sN hB32 hB28_old)
   have hb := below_step1 hb E94 hb.size zx
   refine zB ?_
   refine hK75 _ _ (zF fun K95 hK95 => ?_)
   refine zF fun K96 hK96 => ?_
   refine zH ?_
   refine zG (zC hN90 rfl s90_3) ?_
   refine zG (zA hN90 rfl) ?_
   rcases Bool.eq_false_or_eq_true (two) with g56 | g56
   ·
    rw [g56]
    refine zS (j := 1) (dj := 56) (b := true) rfl rfl rfl (zA hN90 rfl) ?_
    refine zG (zC hN90 rfl s90_12) ?_
    refine zS (j := 1) (dj := 56) (b := true) rfl rfl rfl (zA hN90 rfl) ?_
    refine op_eql (zA hN90 rfl) rfl (fun c58 => ?_) (fun c58 => ?_)
    ·
     refine zc (zA hN90 rfl) (zA hN90 rfl) ?_
     refine zB ?_
     refine hK96 _ _ (wp_cond_true (zA hN90 rfl) (zH ?_))
     refine zM fld45_3 (zC hN90 rfl s90_11) ?_
     refine zN (v := (Value.slice (some ⟨b26, 0, none⟩) 3 3)) one41 (zA hN90 rfl) (hB32.cell rfl) ?_
     refine op_index_lit (i := 2) (o := 6) slt41 (zA hN90 rfl) rfl rfl zz rfl ?_
     refine zM fld68_2 (zA hN90 rfl) ?_
     have hB28_old := hB28
     refine za (vs := [(.string (bs [97]))]) (cs' := [(.string (bs [107])), (.int .i64 2), (.string (bs [])), (.string (bs [120])), (.int .i64 (1 + (((k.toNat % 2) : Nat) : Int))), (.string (bs (([[97], [98], [99]] : List (List UInt8)).getD (r.toNat % 3) []))), (.string (bs [121])), (.int .i64 1), (.string (bs [97]))]) size9 (zA hN90 rfl) rfl rfl rfl rfl hB28 (zI rfl) rfl ?_
     intro w99 hB28 E100
     have := E100.size
     have hB10 := hB10.keep E100 sB
     have hT11 := hT11.keep E100 sO
     have hR11 := hR11.keep E100 sO
     have hV11 := hV11.keep E100 sO
     have hVR11 := hVR11.keep E100 sO
     have hB17 := hB17.keep E100 (sN hB17 hB28_old)
     have hB32 := hB32.keep E100 (sN hB32 hB28_old)
     have hb := below_step1 hb E100 hb.size zx
     refine zB ?_
     refine hK95 _ _ ?_
     exact hJ37 _ _ _ hN90 hd90 ⟨(PCol.mk ([107]) 2 []), (PCol.mk ([120]) (1 + (((k.toNat % 2) : Nat) : Int)) (([[97], [98], [99]] : List (List UInt8)).getD (r.toNat % 3) [])), (PCol.mk ([121]) 1 ([97])), (zL hN90 rfl s90_0), (zL hN90 rfl s90_1), (zL hN90 rfl s90_3), (zL hN90 rfl s90_8), (zL hN90 rfl s90_9), (zL hN90 rfl s90_11), (zL hN90 rfl s90_12).trans (congrArg (Value.int .i64) zx), (by first | (exfalso; omega) | (rw [hp9, g56]; rfl)), hb, zx, hB10, hT11, hR11, hV11, hVR11, hB17, hB32, hB28⟩
    refine zc (zA hN90 rfl) (zA hN90 rfl) ?_
    refine zB ?_
    refine hK96 _ _ (wp_cond_false (zA hN90 rfl) (wp_skip (hK95 _ _ ?_)))
    exact hJ37 _ _ _ hN90 hd90 ⟨(PCol.mk ([107]) 2 []), (PCol.mk ([120]) (1 + (((k.toNat % 2) : Nat) : Int)) (([[97], [98], [99]] : List (List UInt8)).getD (r.toNat % 3) [])), (PCol.mk ([121]) 1 []), (zL hN90 rfl s90_0), (zL hN90 rfl s90_1), (zL hN90 rfl s90_3), (zL hN90 rfl s90_8), (zL hN90 rfl s90_9), (zL hN90 rfl s90_11), (zL hN90 rfl s90_12).trans (congrArg (Value.int .i64) zx), (by first | (exfalso; omega) | (rw [hp9, g56]; rfl)), hb, zx, hB10, hT11, hR11, hV11, hVR11, hB17, hB32, hB28⟩
   rw [g56]
   refine zR (j := 1) (dj := 56) (b := true) rfl rfl rfl (zA hN90 rfl) rfl rfl ?_
   refine zR (j := 1) (dj := 56) (b := true) rfl rfl rfl (zA hN90 rfl) rfl rfl ?_
   refine zd (zA hN90 rfl) rfl ?_
   refine zB ?_
   refine hK96 _ _ (wp_cond_false (zA hN90 rfl) (wp_skip (hK95 _ _ ?_)))
   exact hJ37 _ _ _ hN90 hd90 ⟨(PCol.mk ([107]) 2 []), (PCol.mk ([120]) (1 + (((k.toNat % 2) : Nat) : Int)) (([[97], [98], [99]] : List (List UInt8)).getD (r.toNat % 3) [])), (PCol.mk ([121]) 1 []), (zL hN90 rfl s90_0), (zL hN90 rfl s90_1), (zL hN90 rfl s90_3), (zL hN90 rfl s90_8), (zL hN90 rfl s90_9), (zL hN90 rfl s90_11), (zL hN90 rfl s90_12).trans (congrArg (Value.int .i64) zx), (by first | (exfalso; omega) | (rw [hp9, g56]; rfl)), hb, zx, hB10, hT11, hR11, hV11, hVR11, hB17, hB32, hB28⟩
  rw [hp9]
  refine zD (zA hN rfl) ?_
  refine zB ?_
  refine hK38 _ _ (zF fun K101 hK101 => ?_)
  refine zH ?_
  refine zM fld45_3 (zA hN rfl) ?_
  refine zN (v := (Value.slice (some ⟨b26, 0, none⟩) 3 3)) one41 (zA hN rfl) (hB32.cell rfl) ?_
  refine zG (zA hN rfl) ?_
  refine zG (zC hN rfl s0) ?_
  refine op_rem (r := ((k.toNat % 2 : Nat) : Int)) (zA hN rfl) rfl zz (by rw [Int.tmod_eq_emod_of_nonneg zx]; omega) ?_
  refine op_conv (r := (((k.toNat % 2) : Nat) : Int)) (zA hN rfl) us5 Try.underlying3 (wrap_i64 zx) ?_
  refine op_add rfl (zA hN rfl) (add64 zx) ?_
  refine op_index_lit (i := 2) (o := 6) slt41 (zA hN rfl) (zA hN rfl) rfl zz rfl ?_
  refine zM fld68_1 (zA hN rfl) ?_
  have hB28_old := hB28
  refine za (vs := [(.int .i64 (1 + (((k.toNat % 2) : Nat) : Int)))]) (cs' := [(.string (bs [107])), (.int .i64 2), (.string (bs [])), (.string (bs [120])), (.int .i64 1), (.string (bs [])), (.string (bs [121])), (.int .i64 (1 + (((k.toNat % 2) : Nat) : Int))), (.string (bs []))]) size3 (zA hN rfl) (zA hN rfl) rfl rfl rfl hB28 (zI rfl) rfl ?_
  intro w104 hB28 E105
  have := E105.size
  have hB10 := hB10.keep E105 sB
  have hT11 := hT11.keep E105 sO
  have hR11 := hR11.keep E105 sO
  have hV11 := hV11.keep E105 sO
  have hVR11 := hVR11.keep E105 sO
  have hB17 := hB17.keep E105 (sN hB17 hB28_old)
  have hB32 := hB32.keep E105 (sN hB32 hB28_old)
  have hb := below_step1 hb E105 hb.size zx
  refine zB ?_
  refine hK101 _ _ (zF fun K106 hK106 => ?_)
  refine reg_split (hd := [_, _, _, _, _, _, _, _]) (tl := _) 8 mixed zy rfl rfl ?_
  refine any_tree (φ := phiV [(fun uz => uz = (ptr b30 3)), (fun uz => uz = (.slice (some ⟨b26, 0, none⟩) 3 3)), (fun uz => uz = (.int .i64 ((2 : Nat) : Int))), (fun _ => True), (fun uz => uz = (.int .u8 (r.toNat : Int))), (fun uz => uz = (.int .u8 ((r.toNat % 3 : Nat) : Int))), (fun _ => True), (fun _ => True)]) (G := fun w' => Bx w' b30 45 [(.int .i64 1), (.string (bs [])), (.string (bs [98])), (.slice (some ⟨b26, 0, none⟩) 3 3), (.slice none 0 0), (.slice none 0 0), (.slice none 0 0), (.string (bs [])), (.slice none 0 0), (.slice none 0 0), (.slice none 0 0), (.bool false), (.slice none 0 0)]) [3, 6, 7] zy zy zy zy zy hN (fun w1 w2 E h => h.keep0 E) hB32 (ObRs9.cons ?_ (ObRs9.cons ?_ (ObRs9.cons ?_ (ObRs9.pass rfl (ObRs9.cons ?_ (ObRs9.cons ?_ (ObRs9.pass rfl (ObRs9.pass rfl (ObRs9.nil))))))))) (by simp only [putsL_defers]) ?_
  ·
   intro eA aA wA hNA hGA hbsA hdpA
   have qA_11 := (hbsA 11 rfl).trans (zU hN rfl)
   refine zM fld45_3 (zC hNA rfl qA_11) ?_
   exact obT_end rfl rfl
  ·
   intro eA aA wA hNA hGA hbsA hdpA
   have qA_45 : Sl aA 45 (ptr b30 3) := (hdpA 0 _ 45 zy rfl rfl).2 rfl
   refine zN (v := (Value.slice (some ⟨b26, 0, none⟩) 3 3)) one41 (zC hNA rfl qA_45) (hGA.cell rfl) ?_
   exact obT_end rfl rfl
  ·
   intro eA aA wA hNA hGA hbsA hdpA
   have qA_12 := (hbsA 12 rfl).trans (zU hN rfl)
   refine zG (zC hNA rfl qA_12) ?_
   exact obT_end rfl rfl
  ·
   intro eA aA wA hNA hGA hbsA hdpA
   have qA_1 := (hbsA 1 rfl).trans (zL hN rfl s1)
   refine zG (zC hNA rfl qA_1) ?_
   exact obT_end rfl rfl
  ·
   intro eA aA wA hNA hGA hbsA hdpA
   have qA_49 : Sl aA 49 (.int .u8 (r.toNat : Int)) := (hdpA 4 _ 49 zy rfl rfl).2 rfl
   refine op_rem (r := ((r.toNat % 3 : Nat) : Int)) (zC hNA rfl qA_49) rfl zz (by rw [Int.tmod_eq_emod_of_nonneg zx]; omega) ?_
   exact obT_end rfl rfl
  refine kt_step (rs := [3]) zy ?_
  refine one_mem ?_
  intro w108 E108 _ a108 hN108 hbs108 hdp108 o_ ho_; obtain rfl := zE ho_
  have := E108.size
  have hT11 := hT11.keep0 E108
  have hR11 := hR11.keep0 E108
  have hV11 := hV11.keep0 E108
  have hVR11 := hVR11.keep0 E108
  obtain ⟨hB10, hB17, hB32, hB28⟩ := kb4 E108 hB10 hB17 hB32 hB28
  have hb := zP hb E108 hb.size
  refine op_bslice (e := 9) (pv := [(0, (.string (bs [97]))), (1, (.string (bs [98]))), (2, (.string (bs [99])))]) (cs := [(.string (bs [97])), (.string (bs [98])), (.string (bs [99]))]) ⟨rfl, rfl, ⟨rfl, rfl, ⟨rfl, rfl, trivial⟩⟩⟩ zy ?_
  intro w109 b110 lo_b110 hi_b110 hB112 E111
  have := E111.size
  have hT11 := hT11.keep0 E111
  have hR11 := hR11.keep0 E111
  have hV11 := hV11.keep0 E111
  have hVR11 := hVR11.keep0 E111
  obtain ⟨hB10, hB17, hB32, hB28⟩ := kb4 E111 hB10 hB17 hB32 hB28
  have hb := zP hb E111 hb.size
  refine kt_end rfl hB32 ?_
  refine kt_step (rs := [6]) zy ?_
  refine one_mem ?_
  intro w114 E114 _ a114 hN114 hbs114 hdp114 o_ ho_; obtain rfl := zE ho_
  have := E114.size
  have hT11 := hT11.keep0 E114
  have hR11 := hR11.keep0 E114
  have hV11 := hV11.keep0 E114
  have hVR11 := hVR11.keep0 E114
  obtain ⟨hB10, hB17, hB32, hB28, hB112⟩ := kb5 E114 hB10 hB17 hB32 hB28 hB112
  have hb := zP hb E114 hb.size
  have q114_48 : Sl a114 48 (.slice (some ⟨b110, 0, none⟩) 3 3) := (zE ((hdp114 3 _ 48 zy rfl rfl).1 rfl)).symm
  have q114_50 : Sl a114 50 (.int .u8 ((r.toNat % 3 : Nat) : Int)) := (hdp114 5 _ 50 zy rfl rfl).2 rfl
  refine zh slt53 (zC hN114 rfl q114_48) (RdC.ofBx (sz := 1) (n := 3) hB112 rfl zz) (zC hN114 rfl q114_50) zx zx ?_
  intro b115 o116 h0b115 h1b115 hc117
  have hp118 : PtC w114 b110 (b110 + 1) b115 o116 [(.string (bs (([[97], [98], [99]] : List (List UInt8)).getD (r.toNat % 3) [])))] := ⟨by omega, by omega, fun j u hu => hc117 j u (by have := (List.getElem?_eq_some_iff.1 hu).1; simpa using this) ((fun j u hu => one_at (el_sv (l := ([[97], [98], [99]] : List (List UInt8))) (i := (r.toNat % 3)) rfl (show _ < 3 by omega)) hu) j u hu)⟩
  refine kt_end rfl hB32 ?_
  refine kt_step (rs := [7]) zy ?_
  refine one_mem ?_
  intro w120 E120 _ a120 hN120 hbs120 hdp120 o_ ho_; obtain rfl := zE ho_
  have := E120.size
  have hT11 := hT11.keep0 E120
  have hR11 := hR11.keep0 E120
  have hV11 := hV11.keep0 E120
  have hVR11 := hVR11.keep0 E120
  have hp118 := hp118.keep0 E120
  obtain ⟨hB10, hB17, hB32, hB28⟩ := kb4 E120 hB10 hB17 hB32 hB28
  have hb := zP hb E120 hb.size
  have q120_51 : Sl a120 51 (ptr b115 o116) := (zE ((hdp120 6 _ 51 zy rfl rfl).1 rfl)).symm
  refine zN (v := (Value.string (bs (([[97], [98], [99]] : List (List UInt8)).getD (r.toNat % 3) [])))) one9 (zC hN120 rfl q120_51) (hp118.2.2 0 _ rfl) ?_
  refine kt_end rfl hB32 ?_
  intro w121 E121 a121 hN121 hd121 hbs121 hph121
  have hd121 := hd121.trans ((by simp only [putsL_defers] : _ = _).trans hd)
  have := E121.size
  have hT11 := hT11.keep0 E121
  have hR11 := hR11.keep0 E121
  have hV11 := hV11.keep0 E121
  have hVR11 := hVR11.keep0 E121
  obtain ⟨hB10, hB17, hB32, hB28⟩ := kb4 E121 hB10 hB17 hB32 hB28
  have hb := zP hb E121 hb.size
  have s121_0 := (hbs121 0 rfl).trans (zL hN rfl s0)
  have s121_1 := (hbs121 1 rfl).trans (zL hN rfl s1)
  have s121_3 := (hbs121 3 rfl).trans (zL hN rfl s3)
  have s121_8 := (hbs121 8 rfl).trans (zU hN rfl)
  have s121_9 := (hbs121 9 rfl).trans (zU hN rfl)
  have s121_11 := (hbs121 11 rfl).trans (zU hN rfl)
  have s121_12 := (hbs121 12 rfl).trans (zU hN rfl)
  have s121_46 : Sl a121 46 (.slice (some ⟨b26, 0, none⟩) 3 3) := (hph121 1 _ 46 rfl rfl).2 rfl
  have s121_47 : Sl a121 47 (.int .i64 ((2 : Nat) : Int)) := (hph121 2 _ 47 rfl rfl).2 rfl
  have s121_52 : Sl a121 52 (.string (bs (([[97], [98], [99]] : List (List UInt8)).getD (r.toNat % 3) []))) := (zE ((hph121 7 _ 52 rfl rfl).1 rfl)).symm
  refine split_end ?_
  refine from_seq (tl := [_, _, _]) zz zy rfl ?_
  skip
  refine op_index_lit (i := 2) (o := 6) slt41 (zC hN121 rfl s121_46) (zC hN121 rfl s121_47) rfl zz rfl ?_
  refine zM fld68_2 (zA hN121 rfl) ?_
  have hB28_old := hB28
  refine za (vs := [(.string (bs (([[97], [98], [99]] : List (List UInt8)).getD (r.toNat % 3) [])))]) (cs' := [(.string (bs [107])), (.int .i64 2), (.string (bs [])), (.string (bs [120])), (.int .i64 1), (.string (bs [])), (.string (bs [121])), (.int .i64 (1 + (((k.toNat % 2) : Nat) : Int))), (.string (bs (([[97], [98], [99]] : List (List UInt8)).getD (r.toNat % 3) [])))]) size9 (zA hN121 rfl) (zC hN121 rfl s121_52) rfl rfl rfl hB28 (zI rfl) rfl ?_
  intro w124 hB28 E125
  have := E125.size
  have hB10 := hB10.keep E125 sB
  have hT11 := hT11.keep E125 sO
  have hR11 := hR11.keep E125 sO
  have hV11 := hV11.keep E125 sO
  have hVR11 := hVR11.keep E125 sO
  have hB17 := hB17.keep E125 (sN hB17 hB28_old)
  have hB32 := hB32.keep E125 (sN hB32 hB28_old)
  have hb := below_step1 hb E125 hb.size zx
  refine zB ?_
  refine hK106 _ _ (zF fun K126 hK126 => ?_)
  refine zF fun K127 hK127 => ?_
  refine zH ?_
  refine zG (zC hN121 rfl s121_3) ?_
  refine zG (zA hN121 rfl) ?_
  rcases Bool.eq_false_or_eq_true (two) with g56 | g56
  ·
   rw [g56]
   refine zS (j := 1) (dj := 56) (b := true) rfl rfl rfl (zA hN121 rfl) ?_
   refine zG (zC hN121 rfl s121_12) ?_
   refine zS (j := 1) (dj := 56) (b := true) rfl rfl rfl (zA hN121 rfl) ?_
   refine op_eql (zA hN121 rfl) rfl (fun c58 => ?_) (fun c58 => ?_)
   ·
    refine zc (zA hN121 rfl) (zA hN121 rfl) ?_
    refine zB ?_
    refine hK127 _ _ (wp_cond_true (zA hN121 rfl) (zH ?_))
    refine zM fld45_3 (zC hN121 rfl s121_11) ?_
    refine zN (v := (Value.slice (some ⟨b26, 0, none⟩) 3 3)) one41 (zA hN121 rfl) (hB32.cell rfl) ?_
    refine op_index_lit (i := 2) (o := 6) slt41 (zA hN121 rfl) rfl rfl zz rfl ?_
    refine zM fld68_2 (zA hN121 rfl) ?_
    have hB28_old := hB28
    refine za (vs := [(.string (bs [97]))]) (cs' := [(.string (bs [107])), (.int .i64 2), (.string (bs [])), (.string (bs [120])), (.int .i64 1), (.string (bs [])), (.string (bs [121])), (.int .i64 (1 + (((k.toNat % 2) : Nat) : Int))), (.string (bs [97]))]) size9 (zA hN121 rfl) rfl rfl rfl rfl hB28 (zI rfl) rfl ?_
    intro w130 hB28 E131
    have := E131.size
    have hB10 := hB10.keep E131 sB
    have hT11 := hT11.keep E131 sO
    have hR11 := hR11.keep E131 sO
    have hV11 := hV11.keep E131 sO
    have hVR11 := hVR11.keep E131 sO
    have hB17 := hB17.keep E131 (sN hB17 hB28_old)
    have hB32 := hB32.keep E131 (sN hB32 hB28_old)
    have hb := below_step1 hb E131 hb.size zx
    refine zB ?_
    refine hK126 _ _ ?_
    exact hJ37 _ _ _ hN121 hd121 ⟨(PCol.mk ([107]) 2 []), (PCol.mk ([120]) 1 []), (PCol.mk ([121]) (1 + (((k.toNat % 2) : Nat) : Int)) ([97])), (zL hN121 rfl s121_0), (zL hN121 rfl s121_1), (zL hN121 rfl s121_3), (zL hN121 rfl s121_8), (zL hN121 rfl s121_9), (zL hN121 rfl s121_11), (zL hN121 rfl s121_12).trans (congrArg (Value.int .i64) zx), (by first | (exfalso; omega) | (rw [hp9, g56]; rfl)), hb, zx, hB10, hT11, hR11, hV11, hVR11, hB17, hB32, hB28⟩
   refine zc (zA hN121 rfl) (zA hN121 rfl) ?_
   refine zB ?_
   refine hK127 _ _ (wp_cond_false (zA hN121 rfl) (wp_skip (hK126 _ _ ?_)))
   exact hJ37 _ _ _ hN121 hd121 ⟨(PCol.mk ([107]) 2 []), (PCol.mk ([120]) 1 []), (PCol.mk ([121]) (1 + (((k.toNat % 2) : Nat) : Int)) (([[97], [98], [99]] : List (List UInt8)).getD (r.toNat % 3) [])), (zL hN121 rfl s121_0), (zL hN121 rfl s121_1), (zL hN121 rfl s121_3), (zL hN121 rfl s121_8), (zL hN121 rfl s121_9), (zL hN121 rfl s121_11), (zL hN121 rfl s121_12).trans (congrArg (Value.int .i64) zx), (by first | (exfalso; omega) | (rw [hp9, g56]; rfl)), hb, zx, hB10, hT11, hR11, hV11, hVR11, hB17, hB32, hB28⟩
  rw [g56]
  refine zR (j := 1) (dj := 56) (b := true) rfl rfl rfl (zA hN121 rfl) rfl rfl ?_
  refine zR (j := 1) (dj := 56) (b := true) rfl rfl rfl (zA hN121 rfl) rfl rfl ?_
  refine zd (zA hN121 rfl) rfl ?_
  refine zB ?_
  refine hK127 _ _ (wp_cond_false (zA hN121 rfl) (wp_skip (hK126 _ _ ?_)))
  exact hJ37 _ _ _ hN121 hd121 ⟨(PCol.mk ([107]) 2 []), (PCol.mk ([120]) 1 []), (PCol.mk ([121]) (1 + (((k.toNat % 2) : Nat) : Int)) (([[97], [98], [99]] : List (List UInt8)).getD (r.toNat % 3) [])), (zL hN121 rfl s121_0), (zL hN121 rfl s121_1), (zL hN121 rfl s121_3), (zL hN121 rfl s121_8), (zL hN121 rfl s121_9), (zL hN121 rfl s121_11), (zL hN121 rfl s121_12).trans (congrArg (Value.int .i64) zx), (by first | (exfalso; omega) | (rw [hp9, g56]; rfl)), hb, zx, hB10, hT11, hR11, hV11, hVR11, hB17, hB32, hB28⟩
 rintro a37 w37 hN37 hd37 ⟨c0, c1, c2, s37_0, s37_1, s37_3, s37_8, s37_9, s37_11, s37_12, hcs, hb, zl_w37, hB10, hT11, hR11, hV11, hVR11, hB17, hB32, hbc9⟩
 have := hb.size
 refine zF fun K132 hK132 => ?_
 refine zH ?_
 refine zY agg39 rfl (zC hN37 rfl s37_9) hB17 ?_
 refine zY agg45 rfl (zC hN37 rfl s37_11) hB32 ?_
 refine zj ok27 (AddN_ret (D := D11z) (V := V11z) (o := ([] : Lb)) (s := (XS.mk (StF.mk 1 [] ([98]) (.slice (some ⟨b26, 0, none⟩) 3 3) ([(PCol.mk c0.nm c0.kind c0.ref), (PCol.mk c1.nm c1.kind c1.ref), (PCol.mk c2.nm c2.kind c2.ref)]) (.slice none 0 0) [] (.slice none 0 0) [] (.slice none 0 0) [] [] (.slice none 0 0) [] (.slice none 0 0) [] (.slice none 0 0) [] false) (.slice none 0 0) [])) (hT11.rd.mono zx) hDz.1 hDz.2 (hV11.mono (Nat.zero_le _) zx) (SFr.flat (s := (XS.mk (StF.mk 1 [] ([98]) (.slice (some ⟨b26, 0, none⟩) 3 3) ([(PCol.mk c0.nm c0.kind c0.ref), (PCol.mk c1.nm c1.kind c1.ref), (PCol.mk c2.nm c2.kind c2.ref)]) (.slice none 0 0) [] (.slice none 0 0) [] (.slice none 0 0) [] [] (.slice none 0 0) [] (.slice none 0 0) [] (.slice none 0 0) [] false) (.slice none 0 0) [])) ⟨(((RdC.ofBx (sz := 3) (n := 3) hbc9 rfl zz).mono (Nat.zero_le _) hbc9.lt).cast rfl rfl), (RdC.nil _ _ _ _), XsFr.nil _ _ _, (RdC.nil _ _ _ _), XsFr.nil _ _ _, XsFr.nil _ _ _, XsFr.nil _ _ _⟩ ⟨(zI rfl), (zI rfl), (zI rfl)⟩ rfl rfl) (zI rfl) (RdC.nil _ _ _ _) (show (1 : Int) ≠ 2 by decide)) ⟨(zA hN37 rfl), ⟨(zA hN37 rfl), ⟨rfl, trivial⟩⟩⟩ ?_
 rintro _ w134 ⟨E135, tz133, vz133, D133z, V133z, rfl, hT133, hV133, hE133, hN133⟩
 have hR133 := hT133.1
 have hVR133 := hV133.1
 have E135 := zQ E135
 have := E135.size
 have hb := zP hb E135 hb.size
 refine zG (zA hN37 rfl) ?_
 refine zW (zA hN37 rfl) rfl ?_
 refine zW (zA hN37 rfl) rfl ?_
 refine op_alloc (cs := [(.slice none 0 0), (.slice none 0 0)]) zero39 rfl ?_
 intro w136 b137 lo_b137 hi_b137 hB139 E138
 have := E138.size
 have hR133 := hR133.keep0 E138
 have hV133 := hV133.keep0 E138
 have hb := zP hb E138 hb.size
 refine zZ size39 (zA hN37 rfl) (zA hN37 rfl) rfl (by simp only [List.all_cons, List.all_nil, Bool.true_and, Bool.and_true, hR133.one, hV133.rdc.one]; try rfl) hB139 rfl ?_
 intro w142 hB139 E143
 have := E143.size
 have hb := below_step1 hb E143 hb.size zx
 refine zD (zA hN37 rfl) ?_
 refine zB ?_
 refine hK132 _ _ (zF fun K144 hK144 => ?_)
 refine zH ?_
 refine zD rfl ?_
 refine zB ?_
 refine hK144 _ _ (zF fun K145 hK145 => ?_)
 refine wp_block ?_
 refine zF fun K146 hK146 => ?_
 refine zH ?_
 refine zG (zC hN37 rfl s37_12) ?_
 refine op_eql (zA hN37 rfl) rfl (fun c72 => ?_) (fun c72 => ?_)
 ·
  refine zD (zA hN37 rfl) ?_
  refine zB ?_
  refine hK146 _ _ (wp_cond_true (zA hN37 rfl) (zH ?_))
  refine zD rfl ?_
  refine zB ?_
  refine hK145 _ _ (zF fun K147 hK147 => ?_)
  refine zH ?_
  refine zG (zA hN37 rfl) ?_
  refine zG (zA hN37 rfl) ?_
  refine op_eql (zA hN37 rfl) (zA hN37 rfl) (fun c89 => ?_) (fun c89 => ?_)
  ·
   refine zD (zA hN37 rfl) ?_
   refine zB ?_
   refine hK147 _ _ (wp_ret ?_)
   refine ret1 rfl hd37 (zA hN37 rfl) ⟨_, rfl, ?_⟩
   exact ⟨hb, rfl⟩
  exact absurd (by rw [addE_1 (s := (XS.mk (StF.mk 1 [] ([98]) (.slice (some ⟨b26, 0, none⟩) 3 3) ([(PCol.mk c0.nm c0.kind c0.ref), (PCol.mk c1.nm c1.kind c1.ref), (PCol.mk c2.nm c2.kind c2.ref)]) (.slice none 0 0) [] (.slice none 0 0) [] (.slice none 0 0) [] [] (.slice none 0 0) [] (.slice none 0 0) [] (.slice none 0 0) [] false) (.slice none 0 0) [])) rfl, hM8]; show tabE [tabA] [98] [c0, c1, c2] = _; rw [hcs, refs_law zx zx zx]; unfold refsW; rw [if_pos zx]) c89
 refine zD (zA hN37 rfl) ?_
 refine zB ?_
 refine hK146 _ _ (wp_cond_false (zA hN37 rfl) (zF fun K148 hK148 => ?_))
 refine zH ?_
 refine zG (zC hN37 rfl s37_1) ?_
 refine op_rem (r := ((r.toNat % 3 : Nat) : Int)) (zA hN37 rfl) rfl zz (by rw [Int.tmod_eq_emod_of_nonneg zx]; omega) ?_
 refine op_neq (zA hN37 rfl) rfl (fun c76 => ?_) (fun c76 => ?_)
 ·
  refine zD (zA hN37 rfl) ?_
  refine zB ?_
  refine hK148 _ _ (wp_cond_true (zA hN37 rfl) (zH ?_))
  refine zD rfl ?_
  refine zB ?_
  refine hK145 _ _ (zF fun K149 hK149 => ?_)
  refine zH ?_
  refine zG (zA hN37 rfl) ?_
  refine zG (zA hN37 rfl) ?_
  refine op_eql (zA hN37 rfl) (zA hN37 rfl) (fun c89 => ?_) (fun c89 => ?_)
  ·
   refine zD (zA hN37 rfl) ?_
   refine zB ?_
   refine hK149 _ _ (wp_ret ?_)
   refine ret1 rfl hd37 (zA hN37 rfl) ⟨_, rfl, ?_⟩
   exact ⟨hb, rfl⟩
  exact absurd (by rw [addE_1 (s := (XS.mk (StF.mk 1 [] ([98]) (.slice (some ⟨b26, 0, none⟩) 3 3) ([(PCol.mk c0.nm c0.kind c0.ref), (PCol.mk c1.nm c1.kind c1.ref), (PCol.mk c2.nm c2.kind c2.ref)]) (.slice none 0 0) [] (.slice none 0 0) [] (.slice none 0 0) [] [] (.slice none 0 0) [] (.slice none 0 0) [] (.slice none 0 0) [] false) (.slice none 0 0) [])) rfl, hM8]; show tabE [tabA] [98] [c0, c1, c2] = _; rw [hcs, refs_law zx zx zx]; unfold refsW; rw [if_neg zx, if_pos zx]) c89
 refine zD (zA hN37 rfl) ?_
 refine zB ?_
 refine hK148 _ _ (wp_cond_false (zA hN37 rfl) (zF fun K150 hK150 => ?_))
 refine zH ?_
 refine zG (zC hN37 rfl s37_0) ?_
 refine op_rem (r := ((k.toNat % 2 : Nat) : Int)) (zA hN37 rfl) rfl zz (by rw [Int.tmod_eq_emod_of_nonneg zx]; omega) ?_
 refine op_eql (zA hN37 rfl) rfl (fun c80 => ?_) (fun c80 => ?_)
 ·
  refine zD (zA hN37 rfl) ?_
  refine zB ?_
  refine hK150 _ _ (wp_cond_true (zA hN37 rfl) (zH ?_))
  refine zD rfl ?_
  refine zB ?_
  refine hK145 _ _ (zF fun K151 hK151 => ?_)
  refine zH ?_
  refine zG (zA hN37 rfl) ?_
  refine zG (zA hN37 rfl) ?_
  refine op_eql (zA hN37 rfl) (zA hN37 rfl) (fun c89 => ?_) (fun c89 => ?_)
  ·
   refine zD (zA hN37 rfl) ?_
   refine zB ?_
   refine hK151 _ _ (wp_ret ?_)
   refine ret1 rfl hd37 (zA hN37 rfl) ⟨_, rfl, ?_⟩
   exact ⟨hb, rfl⟩
  exact absurd (by rw [addE_1 (s := (XS.mk (StF.mk 1 [] ([98]) (.slice (some ⟨b26, 0, none⟩) 3 3) ([(PCol.mk c0.nm c0.kind c0.ref), (PCol.mk c1.nm c1.kind c1.ref), (PCol.mk c2.nm c2.kind c2.ref)]) (.slice none 0 0) [] (.slice none 0 0) [] (.slice none 0 0) [] [] (.slice none 0 0) [] (.slice none 0 0) [] (.slice none 0 0) [] false) (.slice none 0 0) [])) rfl, hM8]; show tabE [tabA] [98] [c0, c1, c2] = _; rw [hcs, refs_law zx zx zx]; unfold refsW; rw [if_neg zx, if_neg zx, if_pos zx]) c89
 refine zD (zA hN37 rfl) ?_
 refine zB ?_
 refine hK150 _ _ (wp_cond_false (zA hN37 rfl) (zF fun K152 hK152 => ?_))
 refine zH ?_
 refine zG (zC hN37 rfl s37_3) ?_
 refine zG (zA hN37 rfl) ?_
 rcases Bool.eq_false_or_eq_true (two) with g83 | g83
 ·
  rw [g83]
  refine zS (j := 1) (dj := 83) (b := true) rfl rfl rfl (zA hN37 rfl) ?_
  refine zG (zC hN37 rfl s37_12) ?_
  refine zS (j := 1) (dj := 83) (b := true) rfl rfl rfl (zA hN37 rfl) ?_
  refine op_eql (zA hN37 rfl) rfl (fun c85 => ?_) (fun c85 => ?_)
  ·
   refine zc (zA hN37 rfl) (zA hN37 rfl) ?_
   refine zD (zA hN37 rfl) ?_
   refine zB ?_
   refine hK152 _ _ (wp_cond_true (zA hN37 rfl) (zH ?_))
   refine zD rfl ?_
   refine zB ?_
   refine hK145 _ _ (zF fun K153 hK153 => ?_)
   refine zH ?_
   refine zG (zA hN37 rfl) ?_
   refine zG (zA hN37 rfl) ?_
   refine op_eql (zA hN37 rfl) (zA hN37 rfl) (fun c89 => ?_) (fun c89 => ?_)
   ·
    refine zD (zA hN37 rfl) ?_
    refine zB ?_
    refine hK153 _ _ (wp_ret ?_)
    refine ret1 rfl hd37 (zA hN37 rfl) ⟨_, rfl, ?_⟩
    exact ⟨hb, rfl⟩
   exact absurd (by rw [addE_1 (s := (XS.mk (StF.mk 1 [] ([98]) (.slice (some ⟨b26, 0, none⟩) 3 3) ([(PCol.mk c0.nm c0.kind c0.ref), (PCol.mk c1.nm c1.kind c1.ref), (PCol.mk c2.nm c2.kind c2.ref)]) (.slice none 0 0) [] (.slice none 0 0) [] (.slice none 0 0) [] [] (.slice none 0 0) [] (.slice none 0 0) [] (.slice none 0 0) [] false) (.slice none 0 0) [])) rfl, hM8]; show tabE [tabA] [98] [c0, c1, c2] = _; rw [hcs, refs_law zx zx zx]; unfold refsW; rw [if_neg zx, if_neg zx, if_neg zx, if_pos ⟨g83, by omega⟩]) c89
  refine zc (zA hN37 rfl) (zA hN37 rfl) ?_
  refine zD (zA hN37 rfl) ?_
  refine zB ?_
  refine hK152 _ _ (wp_cond_false (zA hN37 rfl) (wp_skip (hK145 _ _ (zF fun K154 hK154 => ?_))))
  refine zH ?_
  refine zG (zA hN37 rfl) ?_
  refine zG (zA hN37 rfl) ?_
  refine op_eql (zA hN37 rfl) (zA hN37 rfl) (fun c89 => ?_) (fun c89 => ?_)
  ·
   refine zD (zA hN37 rfl) ?_
   refine zB ?_
   refine hK154 _ _ (wp_ret ?_)
   refine ret1 rfl hd37 (zA hN37 rfl) ⟨_, rfl, ?_⟩
   exact ⟨hb, rfl⟩
  exact absurd (by rw [addE_1 (s := (XS.mk (StF.mk 1 [] ([98]) (.slice (some ⟨b26, 0, none⟩) 3 3) ([(PCol.mk c0.nm c0.kind c0.ref), (PCol.mk c1.nm c1.kind c1.ref), (PCol.mk c2.nm c2.kind c2.ref)]) (.slice none 0 0) [] (.slice none 0 0) [] (.slice none 0 0) [] [] (.slice none 0 0) [] (.slice none 0 0) [] (.slice none 0 0) [] false) (.slice none 0 0) [])) rfl, hM8]; show tabE [tabA] [98] [c0, c1, c2] = _; rw [hcs, refs_law zx zx zx]; unfold refsW; rw [if_neg zx, if_neg zx, if_neg zx, if_neg (fun h => c85 zx)]) c89
 rw [g83]
 refine zR (j := 1) (dj := 83) (b := true) rfl rfl rfl (zA hN37 rfl) rfl rfl ?_
 refine zR (j := 1) (dj := 83) (b := true) rfl rfl rfl (zA hN37 rfl) rfl rfl ?_
 refine zd (zA hN37 rfl) rfl ?_
 refine zD (zA hN37 rfl) ?_
 refine zB ?_
 refine hK152 _ _ (wp_cond_false (zA hN37 rfl) (wp_skip (hK145 _ _ (zF fun K155 hK155 => ?_))))
 refine zH ?_
 refine zG (zA hN37 rfl) ?_
 refine zG (zA hN37 rfl) ?_
 refine op_eql (zA hN37 rfl) (zA hN37 rfl) (fun c89 => ?_) (fun c89 => ?_)
 ·
  refine zD (zA hN37 rfl) ?_
  refine zB ?_
  refine hK155 _ _ (wp_ret ?_)
  refine ret1 rfl hd37 (zA hN37 rfl) ⟨_, rfl, ?_⟩
  exact ⟨hb, rfl⟩
 exact absurd (by rw [addE_1 (s := (XS.mk (StF.mk 1 [] ([98]) (.slice (some ⟨b26, 0, none⟩) 3 3) ([(PCol.mk c0.nm c0.kind c0.ref), (PCol.mk c1.nm c1.kind c1.ref), (PCol.mk c2.nm c2.kind c2.ref)]) (.slice none 0 0) [] (.slice none 0 0) [] (.slice none 0 0) [] [] (.slice none 0 0) [] (.slice none 0 0) [] (.slice none 0 0) [] false) (.slice none 0 0) [])) rfl, hM8]; show tabE [tabA] [98] [c0, c1, c2] = _; rw [hcs, refs_law zx zx zx]; unfold refsW; rw [if_neg zx, if_neg zx, if_neg zx, if_neg (fun h => by rw [g83] at h; exact absurd h.1 zz)]) c89

end Go.Proofs.Ythflnkfghogaoaa

namespace Go.Gx
open Go.RowKit Go.WideShapes
section
variable {H : Type} {enc : TypeId × Value → H} {P : Program} {w : World} {base : Nat} {spare : Nat → Bool} {held : Bool} {t e : TypeId}
end
end Go.Gx

namespace Go.Proofs.Ythflnkfghogaoaa
open Go.Gx Go.RowKit
end Go.Proofs.Ythflnkfghogaoaa
