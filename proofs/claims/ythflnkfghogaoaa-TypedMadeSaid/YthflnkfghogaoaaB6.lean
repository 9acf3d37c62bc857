/- Walks, written by a program: what each function of the translation hands back. -/
import Derived.Test.YthflnkfghogaoaaB5
set_option linter.unusedVariables false
set_option linter.unusedSimpArgs false

namespace Go.Proofs.Ythflnkfghogaoaa
open Go.Gx Go.RowKit
attribute [local irreducible] wpList wpStill Code.wp Calls
def ExprP (m : Nat) : Prop := ∀ {base p n Bp : Nat} {lv : Value} {bl : List UInt8} {C : List PItm} {K : List Int} {vc vk : Value} {Lc Bc : Nat} {kd : Int} {deep : Nat} {w : World}, 2 * (4 - deep) + (if kd = 3 then 1 else 0) = m → PickR w base p lv bl n (fun k => k = p) → Bp ≤ p → RdC w 0 Bp 1 lv bl.length (bl.map u8v) → RdC w Lc Bc 3 vc C.length (C.flatMap cellsI) → RdC w Lc Bc 1 vk K.length (K.map (Value.int .i64)) → Bc ≤ w.heap.size → (p < Lc ∨ Bc ≤ p) → C.length ≤ 1000 → 1 ≤ kd → kd ≤ 3 → deep ≤ 5 → (kd = 3 → deep ≤ 4) →
  Ret Try.prog 22 #[ptr p 0, vc, vk, .int .i64 kd, .int .i64 ((deep : Nat) : Int)] w (fun v' w' => Gr w w' (fun k => k = p) ∧ ∃ e : XE, v' = (Value.agg #[(Value.int .i64 e.op), (Value.int .i64 e.vk), (Value.int .i64 e.vi), (Value.string (bs e.vt)), (Value.string (bs e.tb)), (Value.string (bs e.nm)), e.av]) ∧ XFr w' w.heap.size w'.heap.size e ∧ (GoodC C K → kindX C K e = (kd, 0)) ∧ ∃ n' : Nat, PickR w' base p lv bl n' (fun k => k = p) ∧ n ≤ n')

set_option maxHeartbeats 1600000 in
theorem Expr_in {base p n Bp : Nat} {lv : Value} {bl : List UInt8} {C : List PItm} {K : List Int} {vc vk : Value} {Lc Bc : Nat} {kd : Int} {deep : Nat} {w : World} (hpk : PickR w base p lv bl n (fun k => k = p)) (hBp : Bp ≤ p) (hbl : RdC w 0 Bp 1 lv bl.length (bl.map u8v)) (hC : RdC w Lc Bc 3 vc C.length (C.flatMap cellsI)) (hK : RdC w Lc Bc 1 vk K.length (K.map (Value.int .i64))) (hBc : Bc ≤ w.heap.size) (hcp : p < Lc ∨ Bc ≤ p) (hcl : C.length ≤ 1000) (hk1 : 1 ≤ kd) (hk2 : kd ≤ 3) (hd5 : deep ≤ 5) (hd4 : kd = 3 → deep ≤ 4) (ih : ∀ m, m < 2 * (4 - deep) + (if kd = 3 then 1 else 0) → ExprP m) : Ret Try.prog 22 #[(ptr p 0), vc, vk, (.int .i64 kd), (.int .i64 ((deep : Nat) : Int))] w (fun v' w' => Gr w w' (fun k => k = p) ∧ ∃ e : XE, v' = (.agg #[(.int .i64 e.op), (.int .i64 e.vk), (.int .i64 e.vi), (.string (bs e.vt)), (.string (bs e.tb)), (.string (bs e.nm)), e.av]) ∧ XFr w' w.heap.size w'.heap.size e ∧ (GoodC C K → kindX C K e = (kd, 0)) ∧ ∃ n' : Nat, PickR w' base p lv bl n' (fun k => k = p) ∧ n ≤ n') := by
 have hi_p : p < w.heap.size := (hpk.lt p rfl).2
 have hb := Gr.refl w (fun k => k = p)
 refine enter (N := 137) Try.func22 rfl rfl (by simp) fun a0 hN hd hA => ?_
 have s0 : a0.tmps.getD 0 undef = (ptr p 0) := hA 0 (by simp)
 have s1 : a0.tmps.getD 1 undef = vc := hA 1 (by simp)
 have s2 : a0.tmps.getD 2 undef = vk := hA 2 (by simp)
 have s3 : a0.tmps.getD 3 undef = (.int .i64 kd) := hA 3 (by simp)
 have s4 : a0.tmps.getD 4 undef = (.int .i64 ((deep : Nat) : Int)) := hA 4 (by simp)
 clear hA
 refine zF fun K1 hK1 => ?_
 refine zH ?_
 refine op_alloc (cs := [(.int .i64 0), (.int .i64 0), (.int .i64 0), (.string (bs [])), (.string (bs [])), (.string (bs [])), (.slice none 0 0)]) zero28 rfl ?_
 intro w2 b3 lo_b3 hi_b3 hB5 E4
 have dj6 : ¬ (fun k => k = p) b3 := fun hf => by have := (hpk.lt _ hf).2; omega
 have := E4.size
 have hpk := hpk.keepG (zi E4 NoB) (fun _ _ h => h)
 have hbl := hbl.keep0 E4
 have hC := hC.keep0 E4
 have hK := hK.keep0 E4
 have hb := hb.step0 E4
 refine zB ?_
 refine hK1 _ _ (zF fun K7 hK7 => ?_)
 refine zH ?_
 refine zG (zC hN rfl s0) ?_
 refine zj ok35 (Num_ret (m := 8) hpk zx hbl zx zx) ⟨(zA hN rfl), ⟨rfl, trivial⟩⟩ ?_
 rintro _ w9 ⟨E10, r8, rfl, hr8, n8, hk8, hn8, hn8x⟩
 have hpk_old := hpk
 have := E10.size
 have hbl := hbl.keepG E10 (fun k hk => .inr (by have := hpk_old.lt k hk; omega))
 have hC := hC.keepG E10 sP
 have hK := hK.keepG E10 sP
 have hB5 := hB5.keepG E10 dj6
 have hb := hb.stepF E10 (fun _ _ h => h)
 refine zD (zA hN rfl) ?_
 refine zB ?_
 refine hK7 _ _ (zF fun K11 hK11 => ?_)
 refine zF fun K12 hK12 => ?_
 refine zH ?_
 refine zG (zC hN rfl s3) ?_
 refine op_eql (zA hN rfl) rfl (fun c18 => ?_) (fun c18 => ?_)
 ·
  refine zB ?_
  refine hK12 _ _ (wp_cond_true (zA hN rfl) (zF fun K13 hK13 => ?_))
  refine wp_block ?_
  refine zF fun K14 hK14 => ?_
  refine zH ?_
  refine zG (zC hN rfl s4) ?_
  refine op_gtr (zA hN rfl) rfl (fun c21 => ?_) (fun c21 => ?_)
  ·
   refine zG (zA hN rfl) ?_
   refine zR (j := 2) (dj := 22) (b := false) rfl rfl rfl (zA hN rfl) rfl rfl ?_
   refine zR (j := 2) (dj := 22) (b := false) rfl rfl rfl (zA hN rfl) rfl rfl ?_
   refine zc (zA hN rfl) rfl ?_
   refine zD (zA hN rfl) ?_
   refine zB ?_
   refine hK14 _ _ (wp_cond_true (zA hN rfl) (zF fun K15 hK15 => ?_))
   refine zH ?_
   refine zG (zC hN rfl s0) ?_
   refine zj ok35 (Num_ret (m := 2) hk8 zx hbl zx zx) ⟨(zA hN rfl), ⟨rfl, trivial⟩⟩ ?_
   rintro _ w17 ⟨E18, r16, rfl, hr16, n16, hk16, hn16, hn16x⟩
   have hk8_old := hk8
   have := E18.size
   have hbl := hbl.keepG E18 (fun k hk => .inr (by have := hk8_old.lt k hk; omega))
   have hC := hC.keepG E18 sP
   have hK := hK.keepG E18 sP
   have hB5 := hB5.keepG E18 dj6
   have hb := hb.stepF E18 (fun _ _ h => h)
   refine op_add rfl (zA hN rfl) (add64 zx) ?_
   refine zD (zA hN rfl) ?_
   refine zB ?_
   refine hK15 _ _ (zF fun K19 hK19 => ?_)
   refine zH ?_
   refine zG (zC hN rfl s0) ?_
   refine zj ok35 (Num_ret (m := 6) hk16 zx hbl zx zx) ⟨(zA hN rfl), ⟨rfl, trivial⟩⟩ ?_
   rintro _ w21 ⟨E22, r20, rfl, hr20, n20, hk20, hn20, hn20x⟩
   have hk16_old := hk16
   have := E22.size
   have hbl := hbl.keepG E22 (fun k hk => .inr (by have := hk16_old.lt k hk; omega))
   have hC := hC.keepG E22 sP
   have hK := hK.keepG E22 sP
   have hB5 := hB5.keepG E22 dj6
   have hb := hb.stepF E22 (fun _ _ h => h)
   refine op_add rfl (zA hN rfl) (add64 zx) ?_
   refine zG (zC hN rfl s0) ?_
   refine zG (zC hN rfl s1) ?_
   refine zG (zC hN rfl s2) ?_
   refine zG (zA hN rfl) ?_
   refine zG (zC hN rfl s4) ?_
   refine op_add (zA hN rfl) rfl (add64 zx) ?_
   refine zj ok22 (ih _ (by split <;> omega) (kd := (1 + ((r16 : Nat) : Int))) (deep := (deep + 1)) rfl hk20 zx hbl (C := C) (K := K) hC hK zx zx zx zx zx zx zx) ⟨(zA hN rfl), ⟨(zA hN rfl), ⟨(zA hN rfl), ⟨(zA hN rfl), ⟨(zA hN rfl), trivial⟩⟩⟩⟩⟩ ?_
   rintro _ w24 ⟨E25, e23, rfl, he23, hg23, n23, hk23, hn23⟩
   have hk20_old := hk20
   have := E25.size
   have hbl := hbl.keepG E25 (fun k hk => .inr (by have := hk20_old.lt k hk; omega))
   have hC := hC.keepG E25 sP
   have hK := hK.keepG E25 sP
   have hB5 := hB5.keepG E25 dj6
   have hb := hb.stepF E25 (fun _ _ h => h)
   refine zG (zC hN rfl s0) ?_
   refine zG (zC hN rfl s1) ?_
   refine zG (zC hN rfl s2) ?_
   refine zG (zA hN rfl) ?_
   refine zG (zC hN rfl s4) ?_
   refine op_add (zA hN rfl) rfl (add64 zx) ?_
   refine zj ok22 (ih _ (by split <;> omega) (kd := (1 + ((r16 : Nat) : Int))) (deep := (deep + 1)) rfl hk23 zx hbl (C := C) (K := K) hC hK zx zx zx zx zx zx zx) ⟨(zA hN rfl), ⟨(zA hN rfl), ⟨(zA hN rfl), ⟨(zA hN rfl), ⟨(zA hN rfl), trivial⟩⟩⟩⟩⟩ ?_
   rintro _ w27 ⟨E28, e26, rfl, he26, hg26, n26, hk26, hn26⟩
   have := E28.size
   have hB5 := hB5.keepG E28 dj6
   have he23 := he23.keepG E28 sP
   have hb := hb.stepF E28 (fun _ _ h => h)
   refine zj ok53 (two_ret (L := w21.heap.size) (8 + ((r20 : Nat) : Int)) e23 e26 _ zx (he23.mono zx zx) (he26.mono zx zx)) ⟨(zA hN rfl), ⟨(zA hN rfl), ⟨(zA hN rfl), trivial⟩⟩⟩ ?_
   rintro _ w30 ⟨E31, av29, rfl, hv29⟩
   have E31 := zQ E31
   have := E31.size
   have hB5 := hB5.keep0 E31
   have hk26 := hk26.keepG (zi E31 NoB) (fun _ _ h => h)
   have hb := hb.step0 E31
   refine zZ size28 (zA hN rfl) (zA hN rfl) rfl (by simp only [List.all_cons, List.all_nil, Bool.true_and, Bool.and_true, hv29.1.one]; try rfl) hB5 rfl ?_
   intro w34 hB5 E35
   have := E35.size
   have hk26 := hk26.keepG (Gr.of E35) (Dj.one dj6)
   have hv29 := hv29.keep E35 sO
   have hb := hb.step1 E35 zx
   refine zB ?_
   refine hK19 _ _ (wp_ret (zb (zO (zO ( ?_)))))
   refine retC rfl hd (zA hN rfl) agg28 rfl hB5 ⟨_, rfl, ?_⟩
   refine ⟨hb, (XE.mk (8 + ((r20 : Nat) : Int)) 0 0 [] [] [] av29 [e23, e26]), rfl, (hv29.mono zx zx).node, fun hg => (kind_two (a := e23) (b := e26) rfl (hg23 hg) (hg26 hg) ?_).trans ?_, n26, hk26, by omega⟩
   · show (5 ≤ (8 + ((r20 : Nat) : Int)) ∧ (8 + ((r20 : Nat) : Int)) ≤ 7 ∧ (1 + ((r16 : Nat) : Int)) = 1) ∨ (8 ≤ (8 + ((r20 : Nat) : Int)) ∧ (8 + ((r20 : Nat) : Int)) ≤ 13 ∧ ((1 + ((r16 : Nat) : Int)) = 1 ∨ (1 + ((r16 : Nat) : Int)) = 2)) ∨ (((8 + ((r20 : Nat) : Int)) = 14 ∨ (8 + ((r20 : Nat) : Int)) = 15) ∧ (1 + ((r16 : Nat) : Int)) = 3); omega
   · show ((if 5 ≤ (8 + ((r20 : Nat) : Int)) ∧ (8 + ((r20 : Nat) : Int)) ≤ 7 then (1 : Int) else 3), (0 : Int)) = _; rw [if_neg zx, show kd = 3 by omega]
  refine zG (zA hN rfl) ?_
  refine zS (j := 2) (dj := 22) (b := false) rfl rfl rfl (zA hN rfl) ?_
  refine zG (zA hN rfl) ?_
  refine zS (j := 2) (dj := 22) (b := false) rfl rfl rfl (zA hN rfl) ?_
  refine op_lss (zA hN rfl) rfl (fun c24 => ?_) (fun c24 => ?_)
  ·
   refine zd (zA hN rfl) (zA hN rfl) ?_
   refine zD (zA hN rfl) ?_
   refine zB ?_
   refine hK14 _ _ (wp_cond_true (zA hN rfl) (zF fun K36 hK36 => ?_))
   refine zH ?_
   refine zG (zC hN rfl s0) ?_
   refine zj ok35 (Num_ret (m := 2) hk8 zx hbl zx zx) ⟨(zA hN rfl), ⟨rfl, trivial⟩⟩ ?_
   rintro _ w38 ⟨E39, r37, rfl, hr37, n37, hk37, hn37, hn37x⟩
   have hk8_old := hk8
   have := E39.size
   have hbl := hbl.keepG E39 (fun k hk => .inr (by have := hk8_old.lt k hk; omega))
   have hC := hC.keepG E39 sP
   have hK := hK.keepG E39 sP
   have hB5 := hB5.keepG E39 dj6
   have hb := hb.stepF E39 (fun _ _ h => h)
   refine op_add rfl (zA hN rfl) (add64 zx) ?_
   refine zD (zA hN rfl) ?_
   refine zB ?_
   refine hK36 _ _ (zF fun K40 hK40 => ?_)
   refine zH ?_
   refine zG (zC hN rfl s0) ?_
   refine zj ok35 (Num_ret (m := 6) hk37 zx hbl zx zx) ⟨(zA hN rfl), ⟨rfl, trivial⟩⟩ ?_
   rintro _ w42 ⟨E43, r41, rfl, hr41, n41, hk41, hn41, hn41x⟩
   have hk37_old := hk37
   have := E43.size
   have hbl := hbl.keepG E43 (fun k hk => .inr (by have := hk37_old.lt k hk; omega))
   have hC := hC.keepG E43 sP
   have hK := hK.keepG E43 sP
   have hB5 := hB5.keepG E43 dj6
   have hb := hb.stepF E43 (fun _ _ h => h)
   refine op_add rfl (zA hN rfl) (add64 zx) ?_
   refine zG (zC hN rfl s0) ?_
   refine zG (zC hN rfl s1) ?_
   refine zG (zC hN rfl s2) ?_
   refine zG (zA hN rfl) ?_
   refine zG (zC hN rfl s4) ?_
   refine op_add (zA hN rfl) rfl (add64 zx) ?_
   refine zj ok22 (ih _ (by split <;> omega) (kd := (1 + ((r37 : Nat) : Int))) (deep := (deep + 1)) rfl hk41 zx hbl (C := C) (K := K) hC hK zx zx zx zx zx zx zx) ⟨(zA hN rfl), ⟨(zA hN rfl), ⟨(zA hN rfl), ⟨(zA hN rfl), ⟨(zA hN rfl), trivial⟩⟩⟩⟩⟩ ?_
   rintro _ w45 ⟨E46, e44, rfl, he44, hg44, n44, hk44, hn44⟩
   have hk41_old := hk41
   have := E46.size
   have hbl := hbl.keepG E46 (fun k hk => .inr (by have := hk41_old.lt k hk; omega))
   have hC := hC.keepG E46 sP
   have hK := hK.keepG E46 sP
   have hB5 := hB5.keepG E46 dj6
   have hb := hb.stepF E46 (fun _ _ h => h)
   refine zG (zC hN rfl s0) ?_
   refine zG (zC hN rfl s1) ?_
   refine zG (zC hN rfl s2) ?_
   refine zG (zA hN rfl) ?_
   refine zG (zC hN rfl s4) ?_
   refine op_add (zA hN rfl) rfl (add64 zx) ?_
   refine zj ok22 (ih _ (by split <;> omega) (kd := (1 + ((r37 : Nat) : Int))) (deep := (deep + 1)) rfl hk44 zx hbl (C := C) (K := K) hC hK zx zx zx zx zx zx zx) ⟨(zA hN rfl), ⟨(zA hN rfl), ⟨(zA hN rfl), ⟨(zA hN rfl), ⟨(zA hN rfl), trivial⟩⟩⟩⟩⟩ ?_
   rintro _ w48 ⟨E49, e47, rfl, he47, hg47, n47, hk47, hn47⟩
   have := E49.size
   have hB5 := hB5.keepG E49 dj6
   have he44 := he44.keepG E49 sP
   have hb := hb.stepF E49 (fun _ _ h => h)
   refine zj ok53 (two_ret (L := w42.heap.size) (8 + ((r41 : Nat) : Int)) e44 e47 _ zx (he44.mono zx zx) (he47.mono zx zx)) ⟨(zA hN rfl), ⟨(zA hN rfl), ⟨(zA hN rfl), trivial⟩⟩⟩ ?_
   rintro _ w51 ⟨E52, av50, rfl, hv50⟩
   have E52 := zQ E52
   have := E52.size
   have hB5 := hB5.keep0 E52
   have hk47 := hk47.keepG (zi E52 NoB) (fun _ _ h => h)
   have hb := hb.step0 E52
   refine zZ size28 (zA hN rfl) (zA hN rfl) rfl (by simp only [List.all_cons, List.all_nil, Bool.true_and, Bool.and_true, hv50.1.one]; try rfl) hB5 rfl ?_
   intro w55 hB5 E56
   have := E56.size
   have hk47 := hk47.keepG (Gr.of E56) (Dj.one dj6)
   have hv50 := hv50.keep E56 sO
   have hb := hb.step1 E56 zx
   refine zB ?_
   refine hK40 _ _ (wp_ret (zb (zO (zO ( ?_)))))
   refine retC rfl hd (zA hN rfl) agg28 rfl hB5 ⟨_, rfl, ?_⟩
   refine ⟨hb, (XE.mk (8 + ((r41 : Nat) : Int)) 0 0 [] [] [] av50 [e44, e47]), rfl, (hv50.mono zx zx).node, fun hg => (kind_two (a := e44) (b := e47) rfl (hg44 hg) (hg47 hg) ?_).trans ?_, n47, hk47, by omega⟩
   · show (5 ≤ (8 + ((r41 : Nat) : Int)) ∧ (8 + ((r41 : Nat) : Int)) ≤ 7 ∧ (1 + ((r37 : Nat) : Int)) = 1) ∨ (8 ≤ (8 + ((r41 : Nat) : Int)) ∧ (8 + ((r41 : Nat) : Int)) ≤ 13 ∧ ((1 + ((r37 : Nat) : Int)) = 1 ∨ (1 + ((r37 : Nat) : Int)) = 2)) ∨ (((8 + ((r41 : Nat) : Int)) = 14 ∨ (8 + ((r41 : Nat) : Int)) = 15) ∧ (1 + ((r37 : Nat) : Int)) = 3); omega
   · show ((if 5 ≤ (8 + ((r41 : Nat) : Int)) ∧ (8 + ((r41 : Nat) : Int)) ≤ 7 then (1 : Int) else 3), (0 : Int)) = _; rw [if_neg zx, show kd = 3 by omega]
  refine zd (zA hN rfl) (zA hN rfl) ?_
  refine zD (zA hN rfl) ?_
  refine zB ?_
  refine hK14 _ _ (wp_cond_false (zA hN rfl) (zF fun K57 hK57 => ?_))
  refine zH ?_
  refine zG (zA hN rfl) ?_
  refine op_eql (zA hN rfl) rfl (fun c49 => ?_) (fun c49 => ?_)
  ·
   refine zD (zA hN rfl) ?_
   refine zB ?_
   refine hK57 _ _ (wp_cond_true (zA hN rfl) (zF fun K58 hK58 => ?_))
   refine zH ?_
   refine zG (zC hN rfl s0) ?_
   refine zG (zC hN rfl s1) ?_
   refine zG (zC hN rfl s2) ?_
   refine zG (zC hN rfl s3) ?_
   refine zG (zC hN rfl s4) ?_
   refine op_add (zA hN rfl) rfl (add64 zx) ?_
   refine zj ok22 (ih _ (by split <;> omega) (kd := kd) (deep := (deep + 1)) rfl hk8 zx hbl (C := C) (K := K) hC hK zx zx zx zx zx zx zx) ⟨(zA hN rfl), ⟨(zA hN rfl), ⟨(zA hN rfl), ⟨(zA hN rfl), ⟨(zA hN rfl), trivial⟩⟩⟩⟩⟩ ?_
   rintro _ w60 ⟨E61, e59, rfl, he59, hg59, n59, hk59, hn59⟩
   have := E61.size
   have hB5 := hB5.keepG E61 dj6
   have hb := hb.stepF E61 (fun _ _ h => h)
   refine op_bslice (e := 28) (pv := [(0, (.agg #[(.int .i64 e59.op), (.int .i64 e59.vk), (.int .i64 e59.vi), (.string (bs e59.vt)), (.string (bs e59.tb)), (.string (bs e59.nm)), e59.av]))]) (cs := [(.int .i64 e59.op), (.int .i64 e59.vk), (.int .i64 e59.vi), (.string (bs e59.vt)), (.string (bs e59.tb)), (.string (bs e59.nm)), e59.av]) ⟨rfl, (zA hN rfl), trivial⟩ zy ?_
   intro w62 b63 lo_b63 hi_b63 hB65 E64
   have dj66 : ¬ (fun k => k = p) b63 := fun hf => by have := (hk59.lt _ hf).2; omega
   have := E64.size
   have hB5 := hB5.keep0 E64
   have hk59 := hk59.keepG (zi E64 NoB) (fun _ _ h => h)
   have he59 := he59.keep0 E64
   have hb := hb.step0 E64
   refine zf (pv := [(0, (.int .i64 4)), (4, (.slice (some ⟨b63, 0, none⟩) 1 1))]) (v := (Value.agg #[(.int .i64 4), (.int .i64 0), (.int .i64 0), (.string (bs [])), (.string (bs [])), (.string (bs [])), (.slice (some ⟨b63, 0, none⟩) 1 1)])) ⟨rfl, rfl, ⟨rfl, (zA hN rfl), trivial⟩⟩ zy ?_
   refine zZ size28 (zA hN rfl) (zA hN rfl) rfl rfl hB5 rfl ?_
   intro w69 hB5 E70
   have := E70.size
   have hk59 := hk59.keepG (Gr.of E70) (Dj.one dj6)
   have he59 := he59.keep E70 sO
   have hB65 := hB65.keep E70 sB
   have hb := hb.step1 E70 zx
   refine zB ?_
   refine hK58 _ _ (wp_ret (zb (zO (zO ( ?_)))))
   refine retC rfl hd (zA hN rfl) agg28 rfl hB5 ⟨_, rfl, ?_⟩
   exact ⟨hb, (XE.mk 4 0 0 [] [] [] (.slice (some ⟨b63, 0, none⟩) 1 1) [e59]), rfl, (XsFr.lit1 (x := e59) hB65 zx hB65.lt (he59.mono zx zx)).node, fun hg => kind_one rfl (hg59 hg) (by first | (left; exact ⟨rfl, by omega⟩) | (right; exact ⟨rfl, by omega⟩)), n59, hk59, by omega⟩
  refine zD (zA hN rfl) ?_
  refine zB ?_
  refine hK57 _ _ (wp_cond_false (zA hN rfl) (wp_skip (hK13 _ _ (zF fun K71 hK71 => ?_))))
  refine zH ?_
  refine zG (zC hN rfl s0) ?_
  refine zj ok35 (Num_ret (m := 2) hk8 zx hbl zx zx) ⟨(zA hN rfl), ⟨rfl, trivial⟩⟩ ?_
  rintro _ w73 ⟨E74, r72, rfl, hr72, n72, hk72, hn72, hn72x⟩
  have hk8_old := hk8
  have := E74.size
  have hbl := hbl.keepG E74 (fun k hk => .inr (by have := hk8_old.lt k hk; omega))
  have hC := hC.keepG E74 sP
  have hK := hK.keepG E74 sP
  have hB5 := hB5.keepG E74 dj6
  have hb := hb.stepF E74 (fun _ _ h => h)
  refine op_add rfl (zA hN rfl) (add64 zx) ?_
  refine zG (zC hN rfl s0) ?_
  refine zG (zC hN rfl s1) ?_
  refine zG (zC hN rfl s2) ?_
  refine zG (zC hN rfl s3) ?_
  refine zG (zC hN rfl s4) ?_
  refine op_add (zA hN rfl) rfl (add64 zx) ?_
  refine zj ok22 (ih _ (by split <;> omega) (kd := kd) (deep := (deep + 1)) rfl hk72 zx hbl (C := C) (K := K) hC hK zx zx zx zx zx zx zx) ⟨(zA hN rfl), ⟨(zA hN rfl), ⟨(zA hN rfl), ⟨(zA hN rfl), ⟨(zA hN rfl), trivial⟩⟩⟩⟩⟩ ?_
  rintro _ w76 ⟨E77, e75, rfl, he75, hg75, n75, hk75, hn75⟩
  have hk72_old := hk72
  have := E77.size
  have hbl := hbl.keepG E77 (fun k hk => .inr (by have := hk72_old.lt k hk; omega))
  have hC := hC.keepG E77 sP
  have hK := hK.keepG E77 sP
  have hB5 := hB5.keepG E77 dj6
  have hb := hb.stepF E77 (fun _ _ h => h)
  refine zG (zC hN rfl s0) ?_
  refine zG (zC hN rfl s1) ?_
  refine zG (zC hN rfl s2) ?_
  refine zG (zC hN rfl s3) ?_
  refine zG (zC hN rfl s4) ?_
  refine op_add (zA hN rfl) rfl (add64 zx) ?_
  refine zj ok22 (ih _ (by split <;> omega) (kd := kd) (deep := (deep + 1)) rfl hk75 zx hbl (C := C) (K := K) hC hK zx zx zx zx zx zx zx) ⟨(zA hN rfl), ⟨(zA hN rfl), ⟨(zA hN rfl), ⟨(zA hN rfl), ⟨(zA hN rfl), trivial⟩⟩⟩⟩⟩ ?_
  rintro _ w79 ⟨E80, e78, rfl, he78, hg78, n78, hk78, hn78⟩
  have := E80.size
  have hB5 := hB5.keepG E80 dj6
  have he75 := he75.keepG E80 sP
  have hb := hb.stepF E80 (fun _ _ h => h)
  refine zj ok53 (two_ret (L := w73.heap.size) (14 + ((r72 : Nat) : Int)) e75 e78 _ zx (he75.mono zx zx) (he78.mono zx zx)) ⟨(zA hN rfl), ⟨(zA hN rfl), ⟨(zA hN rfl), trivial⟩⟩⟩ ?_
  rintro _ w82 ⟨E83, av81, rfl, hv81⟩
  have E83 := zQ E83
  have := E83.size
  have hB5 := hB5.keep0 E83
  have hk78 := hk78.keepG (zi E83 NoB) (fun _ _ h => h)
  have hb := hb.step0 E83
  refine zZ size28 (zA hN rfl) (zA hN rfl) rfl (by simp only [List.all_cons, List.all_nil, Bool.true_and, Bool.and_true, hv81.1.one]; try rfl) hB5 rfl ?_
  intro w86 hB5 E87
  have := E87.size
  have hk78 := hk78.keepG (Gr.of E87) (Dj.one dj6)
  have hv81 := hv81.keep E87 sO
  have hb := hb.step1 E87 zx
  refine zB ?_
  refine hK71 _ _ (wp_ret (zO ( ?_)))
  refine retC rfl hd (zA hN rfl) agg28 rfl hB5 ⟨_, rfl, ?_⟩
  refine ⟨hb, (XE.mk (14 + ((r72 : Nat) : Int)) 0 0 [] [] [] av81 [e75, e78]), rfl, (hv81.mono zx zx).node, fun hg => (kind_two (a := e75) (b := e78) rfl (hg75 hg) (hg78 hg) ?_).trans ?_, n78, hk78, by omega⟩
  · show (5 ≤ (14 + ((r72 : Nat) : Int)) ∧ (14 + ((r72 : Nat) : Int)) ≤ 7 ∧ kd = 1) ∨ (8 ≤ (14 + ((r72 : Nat) : Int)) ∧ (14 + ((r72 : Nat) : Int)) ≤ 13 ∧ (kd = 1 ∨ kd = 2)) ∨ (((14 + ((r72 : Nat) : Int)) = 14 ∨ (14 + ((r72 : Nat) : Int)) = 15) ∧ kd = 3); omega
  · show ((if 5 ≤ (14 + ((r72 : Nat) : Int)) ∧ (14 + ((r72 : Nat) : Int)) ≤ 7 then (1 : Int) else 3), (0 : Int)) = _; rw [if_neg zx, show kd = 3 by omega]
 refine zB ?_
 refine hK12 _ _ (wp_cond_false (zA hN rfl) (wp_skip (hK11 _ _ (zF fun K88 hK88 => ?_))))
 refine zH ?_
 refine zG (zC hN rfl s0) ?_
 refine zG (zC hN rfl s1) ?_
 refine zG (zC hN rfl s2) ?_
 refine zG (zC hN rfl s3) ?_
 refine zj ok54 (pcol_ret (k := kd) hk8 zx hbl (C := C) (K := K) hC hK zx zx zx) ⟨(zA hN rfl), ⟨(zA hN rfl), ⟨(zA hN rfl), ⟨(zA hN rfl), trivial⟩⟩⟩⟩ ?_
 rintro _ w90 ⟨E91, e89, bb89, rfl, he89, hg89, n89, hk89, hn89⟩
 have hk8_old := hk8
 have := E91.size
 have hbl := hbl.keepG E91 (fun k hk => .inr (by have := hk8_old.lt k hk; omega))
 have hC := hC.keepG E91 sP
 have hK := hK.keepG E91 sP
 have hB5 := hB5.keepG E91 dj6
 have hb := hb.stepF E91 (fun _ _ h => h)
 refine zG (zA hN rfl) ?_
 refine zW (zA hN rfl) rfl ?_
 refine zW (zA hN rfl) rfl ?_
 refine op_alloc (cs := [(.int .i64 0), (.int .i64 0), (.int .i64 0), (.string (bs [])), (.string (bs [])), (.string (bs [])), (.slice none 0 0)]) zero28 rfl ?_
 intro w92 b93 lo_b93 hi_b93 hB95 E94
 have dj96 : ¬ (fun k => k = p) b93 := fun hf => by have := (hk89.lt _ hf).2; omega
 have := E94.size
 have hbl := hbl.keep0 E94
 have hC := hC.keep0 E94
 have hK := hK.keep0 E94
 have hB5 := hB5.keep0 E94
 have hk89 := hk89.keepG (zi E94 NoB) (fun _ _ h => h)
 have he89 := he89.keep0 E94
 have hb := hb.step0 E94
 refine zZ size28 (zA hN rfl) (zA hN rfl) rfl (by simp only [List.all_cons, List.all_nil, Bool.true_and, Bool.and_true, he89.list.1.one]; try rfl) hB95 rfl ?_
 intro w99 hB95 E100
 have := E100.size
 have hbl := hbl.keep E100 sR
 have hC := hC.keep E100 sO
 have hK := hK.keep E100 sO
 have hB5 := hB5.keep E100 sB
 have hk89 := hk89.keepG (Gr.of E100) (Dj.one dj96)
 have he89 := he89.keep E100 sO
 have hb := hb.step1 E100 zx
 refine zD (zA hN rfl) ?_
 refine zB ?_
 refine hK88 _ _ (zF fun K101 hK101 => ?_)
 refine wp_block ?_
 refine zF fun K102 hK102 => ?_
 refine zH ?_
 refine zG (zA hN rfl) ?_
 refine zG (zA hN rfl) ?_
 rcases Bool.eq_false_or_eq_true (bb89) with g87 | g87
 ·
  rw [g87]
  refine zS (j := 1) (dj := 87) (b := true) rfl rfl rfl (zA hN rfl) ?_
  refine zG (zA hN rfl) ?_
  refine zS (j := 1) (dj := 87) (b := true) rfl rfl rfl (zA hN rfl) ?_
  refine op_lss (zA hN rfl) rfl (fun c89 => ?_) (fun c89 => ?_)
  ·
   refine zc (zA hN rfl) (zA hN rfl) ?_
   refine zD (zA hN rfl) ?_
   refine zB ?_
   refine hK102 _ _ (wp_cond_true (zA hN rfl) (zF fun K103 hK103 => ?_))
   refine zH ?_
   refine zY agg28 rfl (zA hN rfl) hB95 ?_
   refine zZ size28 (zA hN rfl) (zA hN rfl) rfl (by simp only [List.all_cons, List.all_nil, Bool.true_and, Bool.and_true, he89.list.1.one]; try rfl) hB5 rfl ?_
   intro w106 hB5 E107
   have := E107.size
   have hk89 := hk89.keepG (Gr.of E107) (Dj.one dj6)
   have he89 := he89.keep E107 sO
   have hb := hb.step1 E107 zx
   refine zB ?_
   refine hK103 _ _ (wp_ret (zb (zO ( ?_))))
   refine retC rfl hd (zA hN rfl) agg28 rfl hB5 ⟨_, rfl, ?_⟩
   exact ⟨hb, e89, rfl, (he89.mono zx zx), hg89 (by first | assumption | simp_all), n89, hk89, by omega⟩
  refine zc (zA hN rfl) (zA hN rfl) ?_
  refine zD (zA hN rfl) ?_
  refine zB ?_
  refine hK102 _ _ (wp_cond_false (zA hN rfl) (zF fun K108 hK108 => ?_))
  refine zH ?_
  refine zG (zC hN rfl s3) ?_
  refine op_eql (zA hN rfl) rfl (fun c94 => ?_) (fun c94 => ?_)
  ·
   refine zG (zA hN rfl) ?_
   refine zR (j := 2) (dj := 95) (b := false) rfl rfl rfl (zA hN rfl) rfl rfl ?_
   refine zR (j := 2) (dj := 95) (b := false) rfl rfl rfl (zA hN rfl) rfl rfl ?_
   refine zc (zA hN rfl) rfl ?_
   refine zG (zA hN rfl) ?_
   refine zR (j := 6) (dj := 99) (b := false) rfl rfl rfl (zA hN rfl) rfl rfl ?_
   refine zR (j := 6) (dj := 99) (b := false) rfl rfl rfl (zA hN rfl) rfl rfl ?_
   refine zc (zA hN rfl) rfl ?_
   refine zD (zA hN rfl) ?_
   refine zB ?_
   refine hK108 _ _ (wp_cond_true (zA hN rfl) (zF fun K109 hK109 => ?_))
   refine zH ?_
   refine zG (zC hN rfl s0) ?_
   refine zG (zC hN rfl s3) ?_
   refine zj ok56 (Value_ret (kd := kd) hk89 zx hbl) ⟨(zA hN rfl), ⟨(zA hN rfl), trivial⟩⟩ ?_
   rintro _ w111 ⟨E112, vi110, vs110, rfl, n110, hk110, hn110⟩
   have := E112.size
   have hB5 := hB5.keepG E112 dj6
   have hb := hb.stepF E112 (fun _ _ h => h)
   refine zj ok55 (lit_ret (if kd = 2 then (2 : Int) else 1) vi110 vs110 _) ⟨(zA hN rfl), trivial⟩ ?_
   rintro _ w113 ⟨E114, rfl⟩
   have E114 := zQ E114
   have := E114.size
   have hB5 := hB5.keep0 E114
   have hk110 := hk110.keepG (zi E114 NoB) (fun _ _ h => h)
   have hb := hb.step0 E114
   refine zZ size28 (zA hN rfl) (zA hN rfl) rfl rfl hB5 rfl ?_
   intro w117 hB5 E118
   have := E118.size
   have hk110 := hk110.keepG (Gr.of E118) (Dj.one dj6)
   have hb := hb.step1 E118 zx
   refine zB ?_
   refine hK109 _ _ (wp_ret (zb (zO ( ?_))))
   refine retC rfl hd (zA hN rfl) agg28 rfl hB5 ⟨_, rfl, ?_⟩
   exact ⟨hb, (XE.mk 1 (if kd = 2 then (2 : Int) else 1) vi110 vs110 [] [] (.slice none 0 0) []), rfl, .leaf rfl rfl, fun _ => (kind_lit rfl rfl).trans (by show ((if kd = 2 then (2 : Int) else 1), (0 : Int)) = _; (repeat' split) <;> first | rfl | (congr 1; omega)), n110, hk110, by omega⟩
  refine zG (zA hN rfl) ?_
  refine zS (j := 2) (dj := 95) (b := false) rfl rfl rfl (zA hN rfl) ?_
  refine zG (zC hN rfl s4) ?_
  refine zS (j := 2) (dj := 95) (b := false) rfl rfl rfl (zA hN rfl) ?_
  refine op_gtr (zA hN rfl) rfl (fun c97 => ?_) (fun c97 => ?_)
  ·
   refine zd (zA hN rfl) (zA hN rfl) ?_
   refine zG (zA hN rfl) ?_
   refine zR (j := 6) (dj := 99) (b := false) rfl rfl rfl (zA hN rfl) rfl rfl ?_
   refine zR (j := 6) (dj := 99) (b := false) rfl rfl rfl (zA hN rfl) rfl rfl ?_
   refine zc (zA hN rfl) rfl ?_
   refine zD (zA hN rfl) ?_
   refine zB ?_
   refine hK108 _ _ (wp_cond_true (zA hN rfl) (zF fun K119 hK119 => ?_))
   refine zH ?_
   refine zG (zC hN rfl s0) ?_
   refine zG (zC hN rfl s3) ?_
   refine zj ok56 (Value_ret (kd := kd) hk89 zx hbl) ⟨(zA hN rfl), ⟨(zA hN rfl), trivial⟩⟩ ?_
   rintro _ w121 ⟨E122, vi120, vs120, rfl, n120, hk120, hn120⟩
   have := E122.size
   have hB5 := hB5.keepG E122 dj6
   have hb := hb.stepF E122 (fun _ _ h => h)
   refine zj ok55 (lit_ret (if kd = 2 then (2 : Int) else 1) vi120 vs120 _) ⟨(zA hN rfl), trivial⟩ ?_
   rintro _ w123 ⟨E124, rfl⟩
   have E124 := zQ E124
   have := E124.size
   have hB5 := hB5.keep0 E124
   have hk120 := hk120.keepG (zi E124 NoB) (fun _ _ h => h)
   have hb := hb.step0 E124
   refine zZ size28 (zA hN rfl) (zA hN rfl) rfl rfl hB5 rfl ?_
   intro w127 hB5 E128
   have := E128.size
   have hk120 := hk120.keepG (Gr.of E128) (Dj.one dj6)
   have hb := hb.step1 E128 zx
   refine zB ?_
   refine hK119 _ _ (wp_ret (zb (zO ( ?_))))
   refine retC rfl hd (zA hN rfl) agg28 rfl hB5 ⟨_, rfl, ?_⟩
   exact ⟨hb, (XE.mk 1 (if kd = 2 then (2 : Int) else 1) vi120 vs120 [] [] (.slice none 0 0) []), rfl, .leaf rfl rfl, fun _ => (kind_lit rfl rfl).trans (by show ((if kd = 2 then (2 : Int) else 1), (0 : Int)) = _; (repeat' split) <;> first | rfl | (congr 1; omega)), n120, hk120, by omega⟩
  refine zd (zA hN rfl) (zA hN rfl) ?_
  refine zG (zA hN rfl) ?_
  refine zS (j := 6) (dj := 99) (b := false) rfl rfl rfl (zA hN rfl) ?_
  refine zG (zA hN rfl) ?_
  refine zS (j := 6) (dj := 99) (b := false) rfl rfl rfl (zA hN rfl) ?_
  refine op_lss (zA hN rfl) rfl (fun c101 => ?_) (fun c101 => ?_)
  ·
   refine zd (zA hN rfl) (zA hN rfl) ?_
   refine zD (zA hN rfl) ?_
   refine zB ?_
   refine hK108 _ _ (wp_cond_true (zA hN rfl) (zF fun K129 hK129 => ?_))
   refine zH ?_
   refine zG (zC hN rfl s0) ?_
   refine zG (zC hN rfl s3) ?_
   refine zj ok56 (Value_ret (kd := kd) hk89 zx hbl) ⟨(zA hN rfl), ⟨(zA hN rfl), trivial⟩⟩ ?_
   rintro _ w131 ⟨E132, vi130, vs130, rfl, n130, hk130, hn130⟩
   have := E132.size
   have hB5 := hB5.keepG E132 dj6
   have hb := hb.stepF E132 (fun _ _ h => h)
   refine zj ok55 (lit_ret (if kd = 2 then (2 : Int) else 1) vi130 vs130 _) ⟨(zA hN rfl), trivial⟩ ?_
   rintro _ w133 ⟨E134, rfl⟩
   have E134 := zQ E134
   have := E134.size
   have hB5 := hB5.keep0 E134
   have hk130 := hk130.keepG (zi E134 NoB) (fun _ _ h => h)
   have hb := hb.step0 E134
   refine zZ size28 (zA hN rfl) (zA hN rfl) rfl rfl hB5 rfl ?_
   intro w137 hB5 E138
   have := E138.size
   have hk130 := hk130.keepG (Gr.of E138) (Dj.one dj6)
   have hb := hb.step1 E138 zx
   refine zB ?_
   refine hK129 _ _ (wp_ret (zb (zO ( ?_))))
   refine retC rfl hd (zA hN rfl) agg28 rfl hB5 ⟨_, rfl, ?_⟩
   exact ⟨hb, (XE.mk 1 (if kd = 2 then (2 : Int) else 1) vi130 vs130 [] [] (.slice none 0 0) []), rfl, .leaf rfl rfl, fun _ => (kind_lit rfl rfl).trans (by show ((if kd = 2 then (2 : Int) else 1), (0 : Int)) = _; (repeat' split) <;> first | rfl | (congr 1; omega)), n130, hk130, by omega⟩
  refine zd (zA hN rfl) (zA hN rfl) ?_
  refine zD (zA hN rfl) ?_
  refine zB ?_
  refine hK108 _ _ (wp_cond_false (zA hN rfl) (zF fun K139 hK139 => ?_))
  refine zH ?_
  refine zG (zA hN rfl) ?_
  refine op_eql (zA hN rfl) rfl (fun c109 => ?_) (fun c109 => ?_)
  ·
   refine zD (zA hN rfl) ?_
   refine zB ?_
   refine hK139 _ _ (wp_cond_true (zA hN rfl) (zF fun K140 hK140 => ?_))
   refine zH ?_
   refine zG (zC hN rfl s0) ?_
   refine zG (zC hN rfl s1) ?_
   refine zG (zC hN rfl s2) ?_
   refine zG (zC hN rfl s3) ?_
   refine zG (zC hN rfl s4) ?_
   refine op_add (zA hN rfl) rfl (add64 zx) ?_
   refine zj ok22 (ih _ (by split <;> omega) (kd := kd) (deep := (deep + 1)) rfl hk89 zx hbl (C := C) (K := K) hC hK zx zx zx zx zx zx zx) ⟨(zA hN rfl), ⟨(zA hN rfl), ⟨(zA hN rfl), ⟨(zA hN rfl), ⟨(zA hN rfl), trivial⟩⟩⟩⟩⟩ ?_
   rintro _ w142 ⟨E143, e141, rfl, he141, hg141, n141, hk141, hn141⟩
   have := E143.size
   have hB5 := hB5.keepG E143 dj6
   have hb := hb.stepF E143 (fun _ _ h => h)
   refine op_bslice (e := 28) (pv := [(0, (.agg #[(.int .i64 e141.op), (.int .i64 e141.vk), (.int .i64 e141.vi), (.string (bs e141.vt)), (.string (bs e141.tb)), (.string (bs e141.nm)), e141.av]))]) (cs := [(.int .i64 e141.op), (.int .i64 e141.vk), (.int .i64 e141.vi), (.string (bs e141.vt)), (.string (bs e141.tb)), (.string (bs e141.nm)), e141.av]) ⟨rfl, (zA hN rfl), trivial⟩ zy ?_
   intro w144 b145 lo_b145 hi_b145 hB147 E146
   have dj148 : ¬ (fun k => k = p) b145 := fun hf => by have := (hk141.lt _ hf).2; omega
   have := E146.size
   have hB5 := hB5.keep0 E146
   have hk141 := hk141.keepG (zi E146 NoB) (fun _ _ h => h)
   have he141 := he141.keep0 E146
   have hb := hb.step0 E146
   refine zf (pv := [(0, (.int .i64 3)), (4, (.slice (some ⟨b145, 0, none⟩) 1 1))]) (v := (Value.agg #[(.int .i64 3), (.int .i64 0), (.int .i64 0), (.string (bs [])), (.string (bs [])), (.string (bs [])), (.slice (some ⟨b145, 0, none⟩) 1 1)])) ⟨rfl, rfl, ⟨rfl, (zA hN rfl), trivial⟩⟩ zy ?_
   refine zZ size28 (zA hN rfl) (zA hN rfl) rfl rfl hB5 rfl ?_
   intro w151 hB5 E152
   have := E152.size
   have hk141 := hk141.keepG (Gr.of E152) (Dj.one dj6)
   have he141 := he141.keep E152 sO
   have hB147 := hB147.keep E152 sB
   have hb := hb.step1 E152 zx
   refine zB ?_
   refine hK140 _ _ (wp_ret (zb (zO ( ?_))))
   refine retC rfl hd (zA hN rfl) agg28 rfl hB5 ⟨_, rfl, ?_⟩
   exact ⟨hb, (XE.mk 3 0 0 [] [] [] (.slice (some ⟨b145, 0, none⟩) 1 1) [e141]), rfl, (XsFr.lit1 (x := e141) hB147 zx hB147.lt (he141.mono zx zx)).node, fun hg => kind_one rfl (hg141 hg) (by first | (left; exact ⟨rfl, by omega⟩) | (right; exact ⟨rfl, by omega⟩)), n141, hk141, by omega⟩
  refine zD (zA hN rfl) ?_
  refine zB ?_
  refine hK139 _ _ (wp_cond_false (zA hN rfl) (wp_skip (hK101 _ _ (zF fun K153 hK153 => ?_))))
  refine zH ?_
  refine zG (zC hN rfl s0) ?_
  refine zj ok35 (Num_ret (m := 3) hk89 zx hbl zx zx) ⟨(zA hN rfl), ⟨rfl, trivial⟩⟩ ?_
  rintro _ w155 ⟨E156, r154, rfl, hr154, n154, hk154, hn154, hn154x⟩
  have hk89_old := hk89
  have := E156.size
  have hbl := hbl.keepG E156 (fun k hk => .inr (by have := hk89_old.lt k hk; omega))
  have hC := hC.keepG E156 sP
  have hK := hK.keepG E156 sP
  have hB5 := hB5.keepG E156 dj6
  have hb := hb.stepF E156 (fun _ _ h => h)
  refine op_add rfl (zA hN rfl) (add64 zx) ?_
  refine zG (zC hN rfl s0) ?_
  refine zG (zC hN rfl s1) ?_
  refine zG (zC hN rfl s2) ?_
  refine zG (zC hN rfl s3) ?_
  refine zG (zC hN rfl s4) ?_
  refine op_add (zA hN rfl) rfl (add64 zx) ?_
  refine zj ok22 (ih _ (by split <;> omega) (kd := kd) (deep := (deep + 1)) rfl hk154 zx hbl (C := C) (K := K) hC hK zx zx zx zx zx zx zx) ⟨(zA hN rfl), ⟨(zA hN rfl), ⟨(zA hN rfl), ⟨(zA hN rfl), ⟨(zA hN rfl), trivial⟩⟩⟩⟩⟩ ?_
  rintro _ w158 ⟨E159, e157, rfl, he157, hg157, n157, hk157, hn157⟩
  have hk154_old := hk154
  have := E159.size
  have hbl := hbl.keepG E159 (fun k hk => .inr (by have := hk154_old.lt k hk; omega))
  have hC := hC.keepG E159 sP
  have hK := hK.keepG E159 sP
  have hB5 := hB5.keepG E159 dj6
  have hb := hb.stepF E159 (fun _ _ h => h)
  refine zG (zC hN rfl s0) ?_
  refine zG (zC hN rfl s1) ?_
  refine zG (zC hN rfl s2) ?_
  refine zG (zC hN rfl s3) ?_
  refine zG (zC hN rfl s4) ?_
  refine op_add (zA hN rfl) rfl (add64 zx) ?_
  refine zj ok22 (ih _ (by split <;> omega) (kd := kd) (deep := (deep + 1)) rfl hk157 zx hbl (C := C) (K := K) hC hK zx zx zx zx zx zx zx) ⟨(zA hN rfl), ⟨(zA hN rfl), ⟨(zA hN rfl), ⟨(zA hN rfl), ⟨(zA hN rfl), trivial⟩⟩⟩⟩⟩ ?_
  rintro _ w161 ⟨E162, e160, rfl, he160, hg160, n160, hk160, hn160⟩
  have := E162.size
  have hB5 := hB5.keepG E162 dj6
  have he157 := he157.keepG E162 sP
  have hb := hb.stepF E162 (fun _ _ h => h)
  refine zj ok53 (two_ret (L := w155.heap.size) (5 + ((r154 : Nat) : Int)) e157 e160 _ zx (he157.mono zx zx) (he160.mono zx zx)) ⟨(zA hN rfl), ⟨(zA hN rfl), ⟨(zA hN rfl), trivial⟩⟩⟩ ?_
  rintro _ w164 ⟨E165, av163, rfl, hv163⟩
  have E165 := zQ E165
  have := E165.size
  have hB5 := hB5.keep0 E165
  have hk160 := hk160.keepG (zi E165 NoB) (fun _ _ h => h)
  have hb := hb.step0 E165
  refine zZ size28 (zA hN rfl) (zA hN rfl) rfl (by simp only [List.all_cons, List.all_nil, Bool.true_and, Bool.and_true, hv163.1.one]; try rfl) hB5 rfl ?_
  intro w168 hB5 E169
  have := E169.size
  have hk160 := hk160.keepG (Gr.of E169) (Dj.one dj6)
  have hv163 := hv163.keep E169 sO
  have hb := hb.step1 E169 zx
  refine zB ?_
  refine hK153 _ _ (wp_ret ?_)
  refine retC rfl hd (zA hN rfl) agg28 rfl hB5 ⟨_, rfl, ?_⟩
  refine ⟨hb, (XE.mk (5 + ((r154 : Nat) : Int)) 0 0 [] [] [] av163 [e157, e160]), rfl, (hv163.mono zx zx).node, fun hg => (kind_two (a := e157) (b := e160) rfl (hg157 hg) (hg160 hg) ?_).trans ?_, n160, hk160, by omega⟩
  · show (5 ≤ (5 + ((r154 : Nat) : Int)) ∧ (5 + ((r154 : Nat) : Int)) ≤ 7 ∧ kd = 1) ∨ (8 ≤ (5 + ((r154 : Nat) : Int)) ∧ (5 + ((r154 : Nat) : Int)) ≤ 13 ∧ (kd = 1 ∨ kd = 2)) ∨ (((5 + ((r154 : Nat) : Int)) = 14 ∨ (5 + ((r154 : Nat) : Int)) = 15) ∧ kd = 3); omega
  · show ((if 5 ≤ (5 + ((r154 : Nat) : Int)) ∧ (5 + ((r154 : Nat) : Int)) ≤ 7 then (1 : Int) else 3), (0 : Int)) = _; rw [if_pos zx, show kd = 1 by omega]
 rw [g87]
 refine zR (j := 1) (dj := 87) (b := true) rfl rfl rfl (zA hN rfl) rfl rfl ?_
 refine zR (j := 1) (dj := 87) (b := true) rfl rfl rfl (zA hN rfl) rfl rfl ?_
 refine zd (zA hN rfl) rfl ?_
 refine zD (zA hN rfl) ?_
 refine zB ?_
 refine hK102 _ _ (wp_cond_false (zA hN rfl) (zF fun K170 hK170 => ?_))
 refine zH ?_
 refine zG (zC hN rfl s3) ?_
 refine op_eql (zA hN rfl) rfl (fun c94 => ?_) (fun c94 => ?_)
 ·
  refine zG (zA hN rfl) ?_
  refine zR (j := 2) (dj := 95) (b := false) rfl rfl rfl (zA hN rfl) rfl rfl ?_
  refine zR (j := 2) (dj := 95) (b := false) rfl rfl rfl (zA hN rfl) rfl rfl ?_
  refine zc (zA hN rfl) rfl ?_
  refine zG (zA hN rfl) ?_
  refine zR (j := 6) (dj := 99) (b := false) rfl rfl rfl (zA hN rfl) rfl rfl ?_
  refine zR (j := 6) (dj := 99) (b := false) rfl rfl rfl (zA hN rfl) rfl rfl ?_
  refine zc (zA hN rfl) rfl ?_
  refine zD (zA hN rfl) ?_
  refine zB ?_
  refine hK170 _ _ (wp_cond_true (zA hN rfl) (zF fun K171 hK171 => ?_))
  refine zH ?_
  refine zG (zC hN rfl s0) ?_
  refine zG (zC hN rfl s3) ?_
  refine zj ok56 (Value_ret (kd := kd) hk89 zx hbl) ⟨(zA hN rfl), ⟨(zA hN rfl), trivial⟩⟩ ?_
  rintro _ w173 ⟨E174, vi172, vs172, rfl, n172, hk172, hn172⟩
  have := E174.size
  have hB5 := hB5.keepG E174 dj6
  have hb := hb.stepF E174 (fun _ _ h => h)
  refine zj ok55 (lit_ret (if kd = 2 then (2 : Int) else 1) vi172 vs172 _) ⟨(zA hN rfl), trivial⟩ ?_
  rintro _ w175 ⟨E176, rfl⟩
  have E176 := zQ E176
  have := E176.size
  have hB5 := hB5.keep0 E176
  have hk172 := hk172.keepG (zi E176 NoB) (fun _ _ h => h)
  have hb := hb.step0 E176
  refine zZ size28 (zA hN rfl) (zA hN rfl) rfl rfl hB5 rfl ?_
  intro w179 hB5 E180
  have := E180.size
  have hk172 := hk172.keepG (Gr.of E180) (Dj.one dj6)
  have hb := hb.step1 E180 zx
  refine zB ?_
  refine hK171 _ _ (wp_ret (zb (zO ( ?_))))
  refine retC rfl hd (zA hN rfl) agg28 rfl hB5 ⟨_, rfl, ?_⟩
  exact ⟨hb, (XE.mk 1 (if kd = 2 then (2 : Int) else 1) vi172 vs172 [] [] (.slice none 0 0) []), rfl, .leaf rfl rfl, fun _ => (kind_lit rfl rfl).trans (by show ((if kd = 2 then (2 : Int) else 1), (0 : Int)) = _; (repeat' split) <;> first | rfl | (congr 1; omega)), n172, hk172, by omega⟩
 refine zG (zA hN rfl) ?_
 refine zS (j := 2) (dj := 95) (b := false) rfl rfl rfl (zA hN rfl) ?_
 refine zG (zC hN rfl s4) ?_
 refine zS (j := 2) (dj := 95) (b := false) rfl rfl rfl (zA hN rfl) ?_
 refine op_gtr (zA hN rfl) rfl (fun c97 => ?_) (fun c97 => ?_)
 ·
  refine zd (zA hN rfl) (zA hN rfl) ?_
  refine zG (zA hN rfl) ?_
  refine zR (j := 6) (dj := 99) (b := false) rfl rfl rfl (zA hN rfl) rfl rfl ?_
  refine zR (j := 6) (dj := 99) (b := false) rfl rfl rfl (zA hN rfl) rfl rfl ?_
  refine zc (zA hN rfl) rfl ?_
  refine zD (zA hN rfl) ?_
  refine zB ?_
  refine hK170 _ _ (wp_cond_true (zA hN rfl) (zF fun K181 hK181 => ?_))
  refine zH ?_
  refine zG (zC hN rfl s0) ?_
  refine zG (zC hN rfl s3) ?_
  refine zj ok56 (Value_ret (kd := kd) hk89 zx hbl) ⟨(zA hN rfl), ⟨(zA hN rfl), trivial⟩⟩ ?_
  rintro _ w183 ⟨E184, vi182, vs182, rfl, n182, hk182, hn182⟩
  have := E184.size
  have hB5 := hB5.keepG E184 dj6
  have hb := hb.stepF E184 (fun _ _ h => h)
  refine zj ok55 (lit_ret (if kd = 2 then (2 : Int) else 1) vi182 vs182 _) ⟨(zA hN rfl), trivial⟩ ?_
  rintro _ w185 ⟨E186, rfl⟩
  have E186 := zQ E186
  have := E186.size
  have hB5 := hB5.keep0 E186
  have hk182 := hk182.keepG (zi E186 NoB) (fun _ _ h => h)
  have hb := hb.step0 E186
  refine zZ size28 (zA hN rfl) (zA hN rfl) rfl rfl hB5 rfl ?_
  intro w189 hB5 E190
  have := E190.size
  have hk182 := hk182.keepG (Gr.of E190) (Dj.one dj6)
  have hb := hb.step1 E190 zx
  refine zB ?_
  refine hK181 _ _ (wp_ret (zb (zO ( ?_))))
  refine retC rfl hd (zA hN rfl) agg28 rfl hB5 ⟨_, rfl, ?_⟩
  exact ⟨hb, (XE.mk 1 (if kd = 2 then (2 : Int) else 1) vi182 vs182 [] [] (.slice none 0 0) []), rfl, .leaf rfl rfl, fun _ => (kind_lit rfl rfl).trans (by show ((if kd = 2 then (2 : Int) else 1), (0 : Int)) = _; (repeat' split) <;> first | rfl | (congr 1; omega)), n182, hk182, by omega⟩
 refine zd (zA hN rfl) (zA hN rfl) ?_
 refine zG (zA hN rfl) ?_
 refine zS (j := 6) (dj := 99) (b := false) rfl rfl rfl (zA hN rfl) ?_
 refine zG (zA hN rfl) ?_
 refine zS (j := 6) (dj := 99) (b := false) rfl rfl rfl (zA hN rfl) ?_
 refine op_lss (zA hN rfl) rfl (fun c101 => ?_) (fun c101 => ?_)
 ·
  refine zd (zA hN rfl) (zA hN rfl) ?_
  refine zD (zA hN rfl) ?_
  refine zB ?_
  refine hK170 _ _ (wp_cond_true (zA hN rfl) (zF fun K191 hK191 => ?_))
  refine zH ?_
  refine zG (zC hN rfl s0) ?_
  refine zG (zC hN rfl s3) ?_
  refine zj ok56 (Value_ret (kd := kd) hk89 zx hbl) ⟨(zA hN rfl), ⟨(zA hN rfl), trivial⟩⟩ ?_
  rintro _ w193 ⟨E194, vi192, vs192, rfl, n192, hk192, hn192⟩
  have := E194.size
  have hB5 := hB5.keepG E194 dj6
  have hb := hb.stepF E194 (fun _ _ h => h)
  refine zj ok55 (lit_ret (if kd = 2 then (2 : Int) else 1) vi192 vs192 _) ⟨(zA hN rfl), trivial⟩ ?_
  rintro _ w195 ⟨E196, rfl⟩
  have E196 := zQ E196
  have := E196.size
  have hB5 := hB5.keep0 E196
  have hk192 := hk192.keepG (zi E196 NoB) (fun _ _ h => h)
  have hb := hb.step0 E196
  refine zZ size28 (zA hN rfl) (zA hN rfl) rfl rfl hB5 rfl ?_
  intro w199 hB5 E200
  have := E200.size
  have hk192 := hk192.keepG (Gr.of E200) (Dj.one dj6)
  have hb := hb.step1 E200 zx
  refine zB ?_
  refine hK191 _ _ (wp_ret (zb (zO ( ?_))))
  refine retC rfl hd (zA hN rfl) agg28 rfl hB5 ⟨_, rfl, ?_⟩
  exact ⟨hb, (XE.mk 1 (if kd = 2 then (2 : Int) else 1) vi192 vs192 [] [] (.slice none 0 0) []), rfl, .leaf rfl rfl, fun _ => (kind_lit rfl rfl).trans (by show ((if kd = 2 then (2 : Int) else 1), (0 : Int)) = _; (repeat' split) <;> first | rfl | (congr 1; omega)), n192, hk192, by omega⟩
 refine zd (zA hN rfl) (zA hN rfl) ?_
 refine zD (zA hN rfl) ?_
 refine zB ?_
 refine hK170 _ _ (wp_cond_false (zA hN rfl) (zF fun K201 hK201 => ?_))
 refine zH ?_
 refine zG (zA hN rfl) ?_
 refine op_eql (zA hN rfl) rfl (fun c109 => ?_) (fun c109 => ?_)
 ·
  refine zD (zA hN rfl) ?_
  refine zB ?_
  refine hK201 _ _ (wp_cond_true (zA hN rfl) (zF fun K202 hK202 => ?_))
  refine zH ?_
  refine zG (zC hN rfl s0) ?_
  refine zG (zC hN rfl s1) ?_
  refine zG (zC hN rfl s2) ?_
  refine zG (zC hN rfl s3) ?_
  refine zG (zC hN rfl s4) ?_
  refine op_add (zA hN rfl) rfl (add64 zx) ?_
  refine zj ok22 (ih _ (by split <;> omega) (kd := kd) (deep := (deep + 1)) rfl hk89 zx hbl (C := C) (K := K) hC hK zx zx zx zx zx zx zx) ⟨(zA hN rfl), ⟨(zA hN rfl), ⟨(zA hN rfl), ⟨(zA hN rfl), ⟨(zA hN rfl), trivial⟩⟩⟩⟩⟩ ?_
  rintro _ w204 ⟨E205, e203, rfl, he203, hg203, n203, hk203, hn203⟩
  have := E205.size
  have hB5 := hB5.keepG E205 dj6
  have hb := hb.stepF E205 (fun _ _ h => h)
  refine op_bslice (e := 28) (pv := [(0, (.agg #[(.int .i64 e203.op), (.int .i64 e203.vk), (.int .i64 e203.vi), (.string (bs e203.vt)), (.string (bs e203.tb)), (.string (bs e203.nm)), e203.av]))]) (cs := [(.int .i64 e203.op), (.int .i64 e203.vk), (.int .i64 e203.vi), (.string (bs e203.vt)), (.string (bs e203.tb)), (.string (bs e203.nm)), e203.av]) ⟨rfl, (zA hN rfl), trivial⟩ zy ?_
  intro w206 b207 lo_b207 hi_b207 hB209 E208
  have dj210 : ¬ (fun k => k = p) b207 := fun hf => by have := (hk203.lt _ hf).2; omega
  have := E208.size
  have hB5 := hB5.keep0 E208
  have hk203 := hk203.keepG (zi E208 NoB) (fun _ _ h => h)
  have he203 := he203.keep0 E208
  have hb := hb.step0 E208
  refine zf (pv := [(0, (.int .i64 3)), (4, (.slice (some ⟨b207, 0, none⟩) 1 1))]) (v := (Value.agg #[(.int .i64 3), (.int .i64 0), (.int .i64 0), (.string (bs [])), (.string (bs [])), (.string (bs [])), (.slice (some ⟨b207, 0, none⟩) 1 1)])) ⟨rfl, rfl, ⟨rfl, (zA hN rfl), trivial⟩⟩ zy ?_
  refine zZ size28 (zA hN rfl) (zA hN rfl) rfl rfl hB5 rfl ?_
  intro w213 hB5 E214
  have := E214.size
  have hk203 := hk203.keepG (Gr.of E214) (Dj.one dj6)
  have he203 := he203.keep E214 sO
  have hB209 := hB209.keep E214 sB
  have hb := hb.step1 E214 zx
  refine zB ?_
  refine hK202 _ _ (wp_ret (zb (zO ( ?_))))
  refine retC rfl hd (zA hN rfl) agg28 rfl hB5 ⟨_, rfl, ?_⟩
  exact ⟨hb, (XE.mk 3 0 0 [] [] [] (.slice (some ⟨b207, 0, none⟩) 1 1) [e203]), rfl, (XsFr.lit1 (x := e203) hB209 zx hB209.lt (he203.mono zx zx)).node, fun hg => kind_one rfl (hg203 hg) (by first | (left; exact ⟨rfl, by omega⟩) | (right; exact ⟨rfl, by omega⟩)), n203, hk203, by omega⟩
 refine zD (zA hN rfl) ?_
 refine zB ?_
 refine hK201 _ _ (wp_cond_false (zA hN rfl) (wp_skip (hK101 _ _ (zF fun K215 hK215 => ?_))))
 refine zH ?_
 refine zG (zC hN rfl s0) ?_
 refine zj ok35 (Num_ret (m := 3) hk89 zx hbl zx zx) ⟨(zA hN rfl), ⟨rfl, trivial⟩⟩ ?_
 rintro _ w217 ⟨E218, r216, rfl, hr216, n216, hk216, hn216, hn216x⟩
 have hk89_old := hk89
 have := E218.size
 have hbl := hbl.keepG E218 (fun k hk => .inr (by have := hk89_old.lt k hk; omega))
 have hC := hC.keepG E218 sP
 have hK := hK.keepG E218 sP
 have hB5 := hB5.keepG E218 dj6
 have hb := hb.stepF E218 (fun _ _ h => h)
 refine op_add rfl (zA hN rfl) (add64 zx) ?_
 refine zG (zC hN rfl s0) ?_
 refine zG (zC hN rfl s1) ?_
 refine zG (zC hN rfl s2) ?_
 refine zG (zC hN rfl s3) ?_
 refine zG (zC hN rfl s4) ?_
 refine op_add (zA hN rfl) rfl (add64 zx) ?_
 refine zj ok22 (ih _ (by split <;> omega) (kd := kd) (deep := (deep + 1)) rfl hk216 zx hbl (C := C) (K := K) hC hK zx zx zx zx zx zx zx) ⟨(zA hN rfl), ⟨(zA hN rfl), ⟨(zA hN rfl), ⟨(zA hN rfl), ⟨(zA hN rfl), trivial⟩⟩⟩⟩⟩ ?_
 rintro _ w220 ⟨E221, e219, rfl, he219, hg219, n219, hk219, hn219⟩
 have hk216_old := hk216
 have := E221.size
 have hbl := hbl.keepG E221 (fun k hk => .inr (by have := hk216_old.lt k hk; omega))
 have hC := hC.keepG E221 sP
 have hK := hK.keepG E221 sP
 have hB5 := hB5.keepG E221 dj6
 have hb := hb.stepF E221 (fun _ _ h => h)
 refine zG (zC hN rfl s0) ?_
 refine zG (zC hN rfl s1) ?_
 refine zG (zC hN rfl s2) ?_
 refine zG (zC hN rfl s3) ?_
 refine zG (zC hN rfl s4) ?_
 refine op_add (zA hN rfl) rfl (add64 zx) ?_
 refine zj ok22 (ih _ (by split <;> omega) (kd := kd) (deep := (deep + 1)) rfl hk219 zx hbl (C := C) (K := K) hC hK zx zx zx zx zx zx zx) ⟨(zA hN rfl), ⟨(zA hN rfl), ⟨(zA hN rfl), ⟨(zA hN rfl), ⟨(zA hN rfl), trivial⟩⟩⟩⟩⟩ ?_
 rintro _ w223 ⟨E224, e222, rfl, he222, hg222, n222, hk222, hn222⟩
 have := E224.size
 have hB5 := hB5.keepG E224 dj6
 have he219 := he219.keepG E224 sP
 have hb := hb.stepF E224 (fun _ _ h => h)
 refine zj ok53 (two_ret (L := w217.heap.size) (5 + ((r216 : Nat) : Int)) e219 e222 _ zx (he219.mono zx zx) (he222.mono zx zx)) ⟨(zA hN rfl), ⟨(zA hN rfl), ⟨(zA hN rfl), trivial⟩⟩⟩ ?_
 rintro _ w226 ⟨E227, av225, rfl, hv225⟩
 have E227 := zQ E227
 have := E227.size
 have hB5 := hB5.keep0 E227
 have hk222 := hk222.keepG (zi E227 NoB) (fun _ _ h => h)
 have hb := hb.step0 E227
 refine zZ size28 (zA hN rfl) (zA hN rfl) rfl (by simp only [List.all_cons, List.all_nil, Bool.true_and, Bool.and_true, hv225.1.one]; try rfl) hB5 rfl ?_
 intro w230 hB5 E231
 have := E231.size
 have hk222 := hk222.keepG (Gr.of E231) (Dj.one dj6)
 have hv225 := hv225.keep E231 sO
 have hb := hb.step1 E231 zx
 refine zB ?_
 refine hK215 _ _ (wp_ret ?_)
 refine retC rfl hd (zA hN rfl) agg28 rfl hB5 ⟨_, rfl, ?_⟩
 refine ⟨hb, (XE.mk (5 + ((r216 : Nat) : Int)) 0 0 [] [] [] av225 [e219, e222]), rfl, (hv225.mono zx zx).node, fun hg => (kind_two (a := e219) (b := e222) rfl (hg219 hg) (hg222 hg) ?_).trans ?_, n222, hk222, by omega⟩
 · show (5 ≤ (5 + ((r216 : Nat) : Int)) ∧ (5 + ((r216 : Nat) : Int)) ≤ 7 ∧ kd = 1) ∨ (8 ≤ (5 + ((r216 : Nat) : Int)) ∧ (5 + ((r216 : Nat) : Int)) ≤ 13 ∧ (kd = 1 ∨ kd = 2)) ∨ (((5 + ((r216 : Nat) : Int)) = 14 ∨ (5 + ((r216 : Nat) : Int)) = 15) ∧ kd = 3); omega
 · show ((if 5 ≤ (5 + ((r216 : Nat) : Int)) ∧ (5 + ((r216 : Nat) : Int)) ≤ 7 then (1 : Int) else 3), (0 : Int)) = _; rw [if_pos zx, show kd = 1 by omega]

theorem Expr_all (m : Nat) : ExprP m := by
  induction m using Nat.strongRecOn with
  | _ m ih =>
    intro base p n Bp lv bl C K vc vk Lc Bc kd deep w hm hpk hBp hbl hC hK hBc hcp hcl h1 h2 h3 h4
    subst hm
    exact Expr_in hpk hBp hbl hC hK hBc hcp hcl h1 h2 h3 h4 ih
end Go.Proofs.Ythflnkfghogaoaa

namespace Go.Gx
theorem sch_0 {D : List DTab} (h : D.map DTab.t = schT) : D.length = 2 ∧ (D.getD 0 default).t = tabT := by
  have h2 : D.length = 2 := by have := congrArg List.length h; simpa [schT] using this
  refine ⟨h2, ?_⟩
  match D, h, h2 with
  | [a, b], h, _ => exact (List.cons.inj h).1
section
variable {C : List PItm} {K : List Int} {e a : XE} {k : Int}
theorem one9 {l : List Int} (op : Int) (h : l = [k]) (hk : k = takesX op [k]) : ∀ j, j < l.length → l.getD j 0 = takesX op l := by
  subst h; intro j hj
  have : j = 0 := by simp at hj; exact hj
  subst this; exact hk
end
end Go.Gx

namespace Go.Proofs.Ythflnkfghogaoaa
open Go.Gx Go.RowKit
attribute [local irreducible] wpList wpStill Code.wp Calls

theorem Made_ret {lv : Value} {bl : List UInt8} {B0 : Nat} {w : World} (hB0 : B0 ≤ w.heap.size) (hbl : RdC w 0 w.heap.size 1 lv bl.length (bl.map u8v)) (hl9 : bl.length ≤ 1000) : Ret Try.prog 17 #[lv] w (fun v' w' => Below w.heap.size w w' ∧ ∃ p : Nat, v' = ptr p 0 ∧ w.heap.size ≤ p ∧ PickR w' B0 p lv bl 0 (fun k => k = p)) := by
 have hb := Below.refl w.heap.size w
 refine enter (N := 6) Try.func17 rfl rfl (by simp) fun a0 hN hd hA => ?_
 have s0 : a0.tmps.getD 0 undef = lv := hA 0 (by simp)
 clear hA
 refine zF fun K1 hK1 => ?_
 refine zH ?_
 refine zD rfl ?_
 refine zB ?_
 refine hK1 _ _ (zF fun K2 hK2 => ?_)
 refine zH ?_
 refine zG (zC hN rfl s0) ?_
 refine zf (pv := [(0, lv)]) (v := (Value.agg #[lv, (.int .i64 0)])) ⟨rfl, (zA hN rfl), trivial⟩ (by obtain ⟨_, _, _, rfl⟩ := hbl.sl; kernel_rfl) ?_
 refine op_box (cs := [lv, (.int .i64 0)]) (zA hN rfl) rfl ?_
 intro w3 b4 lo_b4 hi_b4 hB6 E5
 have := E5.size
 have hb := zP hb E5 hb.size
 refine zD (zA hN rfl) ?_
 refine zB ?_
 refine hK2 _ _ (wp_ret ?_)
 refine ret1 rfl hd (zA hN rfl) ⟨_, rfl, ?_⟩
 exact ⟨hb, _, rfl, by omega, rfl, by omega, Nat.zero_le _, hl9, hB6⟩

end Go.Proofs.Ythflnkfghogaoaa

namespace Go.Gx
def FFr (w : World) (L B : Nat) (f : StF) : Prop :=
  RdC w L B 3 f.cv f.cols.length (f.cols.flatMap cellsC) ∧ RdC w L B 1 f.gv f.tags.length (f.tags.map u16v) ∧ XsFr w L B f.vv f.vals ∧ RdC w L B 3 f.iv f.items.length (f.items.flatMap cellsI) ∧ XsFr w L B f.ov f.on ∧ XsFr w L B f.wv f.wh ∧ XsFr w L B f.rv f.ord
inductive SFr (w : World) (L B : Nat) : XS → Prop
  | mk {s : XS} (hf : FFr w L B s.f) (h : RdC w L B 13 s.nv s.inner.length (s.inner.flatMap cellsS)) (hs : ∀ a ∈ s.inner, SFr w L B a) : SFr w L B s
section
variable {w w' : World} {base e sz n L B L' B' b : Nat} {u v : Value} {f : StF} {s : XS} {row : Option Nat} {F : Nat → Prop} {ws : List Value}
theorem FFr.keep (h : FFr w L B f) (E : w.grownBy w' row) (hne : ∀ k, row = some k → k < L ∨ B ≤ k) : FFr w' L B f :=
  ⟨h.1.keep E hne, h.2.1.keep E hne, h.2.2.1.keep E hne, h.2.2.2.1.keep E hne, h.2.2.2.2.1.keep E hne, h.2.2.2.2.2.1.keep E hne, h.2.2.2.2.2.2.keep E hne⟩
theorem FFr.keepG (h : FFr w L B f) (E : Gr w w' F) (hn : ∀ k, F k → k < L ∨ B ≤ k) : FFr w' L B f :=
  ⟨h.1.keepG E hn, h.2.1.keepG E hn, h.2.2.1.keepG E hn, h.2.2.2.1.keepG E hn, h.2.2.2.2.1.keepG E hn, h.2.2.2.2.2.1.keepG E hn, h.2.2.2.2.2.2.keepG E hn⟩
theorem FFr.mono (h : FFr w L B f) (hL : L' ≤ L) (hB : B ≤ B') : FFr w L' B' f :=
  ⟨h.1.mono hL hB, h.2.1.mono hL hB, h.2.2.1.mono hL hB, h.2.2.2.1.mono hL hB, h.2.2.2.2.1.mono hL hB, h.2.2.2.2.2.1.mono hL hB, h.2.2.2.2.2.2.mono hL hB⟩
theorem FFr.rd (h : FFr w L B f) : FRd w B f :=
  ⟨h.1.mono (Nat.zero_le _) (Nat.le_refl _), h.2.1.mono (Nat.zero_le _) (Nat.le_refl _), h.2.2.1.rd, h.2.2.2.1.mono (Nat.zero_le _) (Nat.le_refl _), h.2.2.2.2.1.rd, h.2.2.2.2.2.1.rd, h.2.2.2.2.2.2.rd⟩
theorem SFr.keep (h : SFr w L B s) (E : w.grownBy w' row) (hne : ∀ k, row = some k → k < L ∨ B ≤ k) : SFr w' L B s := by
  induction h with | mk hf h _ ih => exact .mk (hf.keep E hne) (h.keep E hne) ih
theorem SFr.keep0 (h : SFr w L B s) (E : w.grownBy w' none) : SFr w' L B s := h.keep E (by simp)
theorem SFr.keepG (h : SFr w L B s) (E : Gr w w' F) (hn : ∀ k, F k → k < L ∨ B ≤ k) : SFr w' L B s := by
  induction h with | mk hf h _ ih => exact .mk (hf.keepG E hn) (h.keepG E hn) ih
theorem SFr.mono (h : SFr w L B s) (hL : L' ≤ L) (hB : B ≤ B') : SFr w L' B' s := by
  induction h with | mk hf h _ ih => exact .mk (hf.mono hL hB) (h.mono hL hB) ih
theorem SFr.rd (h : SFr w L B s) : SRd w B s := by
  induction h with | mk hf h _ ih => exact .mk hf.rd (h.mono (Nat.zero_le _) (Nat.le_refl _)) ih
theorem SFr.flat (hf : FFr w L B s.f) (h1 : s.nv = .slice none 0 0) (h2 : s.inner = []) : SFr w L B s := .mk hf (by rw [h1, h2]; exact RdC.nil _ _ _ _) (by rw [h2]; exact fun _ h => (by cases h))
theorem SFr.one {a : XS} (hf : FFr w L B s.f) (hx : Bx w b 45 (cellsS a)) (h1 : s.nv = .slice (some ⟨b, 0, none⟩) 1 1) (h2 : s.inner = [a]) (hb : L ≤ b) (hb2 : b < B) (ha : SFr w L B a) : SFr w L B s :=
  .mk hf (by rw [h1, h2]; exact ((RdC.ofBx (sz := 13) (n := 1) hx rfl (by decide)).mono hb hb2).cast rfl (List.append_nil _).symm) (by rw [h2]; intro x hx; rw [List.mem_singleton] at hx; subst hx; exact ha)
theorem SFr.ff (h : SFr w L B s) : FFr w L B s.f := by cases h with | mk hf _ _ => exact hf
theorem SFr.nvr (h : SFr w L B s) : RdC w L B 13 s.nv s.inner.length (s.inner.flatMap cellsS) := by cases h with | mk _ h _ => exact h
theorem rdN (w : World) (L B sz : Nat) : RdC w L B sz (.slice none 0 0) 0 [] := RdC.nil _ _ _ _
end
theorem wrap_tag {r : Nat} (h : r < 3) : IntKind.u16.wrap (1 + (r : Int)) = ((UInt16.ofNat (1 + r)).toNat : Int) := by
  have : r = 0 ∨ r = 1 ∨ r = 2 := by omega
  rcases this with rfl | rfl | rfl <;> rfl
end Go.Gx

namespace Go.Proofs.Ythflnkfghogaoaa
open Go.Gx Go.RowKit
attribute [local irreducible] wpList wpStill Code.wp Calls

theorem pwhere_ret {base p n Bp : Nat} {lv : Value} {bl : List UInt8} {C : List PItm} {K : List Int} {vc vk : Value} {Lc Bc : Nat} {w : World} (hpk : PickR w base p lv bl n (fun k => k = p)) (hBp : Bp ≤ p) (hbl : RdC w 0 Bp 1 lv bl.length (bl.map u8v)) (hC : RdC w Lc Bc 3 vc C.length (C.flatMap cellsI)) (hK : RdC w Lc Bc 1 vk K.length (K.map (Value.int .i64))) (hBc : Bc ≤ w.heap.size) (hcp : p < Lc ∨ Bc ≤ p) (hcl : C.length ≤ 1000) : Ret Try.prog 67 #[(ptr p 0), vc, vk] w (fun v' w' => Gr w w' (fun k => k = p) ∧ ∃ wh : List XE, XsFr w' w.heap.size w'.heap.size v' wh ∧ ∃ n' : Nat, PickR w' base p lv bl n' (fun k => k = p) ∧ n ≤ n') := by
 have hi_p : p < w.heap.size := (hpk.lt p rfl).2
 have hEx9 := Expr_all
 have hb := Gr.refl w (fun k => k = p)
 refine enter (N := 15) Try.func67 rfl rfl (by simp) fun a0 hN hd hA => ?_
 have s0 : a0.tmps.getD 0 undef = (ptr p 0) := hA 0 (by simp)
 have s1 : a0.tmps.getD 1 undef = vc := hA 1 (by simp)
 have s2 : a0.tmps.getD 2 undef = vk := hA 2 (by simp)
 clear hA
 refine zF fun K1 hK1 => ?_
 refine zH ?_
 refine zD rfl ?_
 refine zB ?_
 refine hK1 _ _ (zF fun K2 hK2 => ?_)
 refine zF fun K3 hK3 => ?_
 refine zH ?_
 refine zG (zC hN rfl s0) ?_
 refine zj ok35 (Num_ret (m := 3) hpk zx hbl zx zx) ⟨(zA hN rfl), ⟨rfl, trivial⟩⟩ ?_
 rintro _ w5 ⟨E6, r4, rfl, hr4, n4, hk4, hn4, hn4x⟩
 have hpk_old := hpk
 have := E6.size
 have hbl := hbl.keepG E6 (fun k hk => .inr (by have := hpk_old.lt k hk; omega))
 have hC := hC.keepG E6 sP
 have hK := hK.keepG E6 sP
 have hb := hb.stepF E6 (fun _ _ h => h)
 refine op_eql (zA hN rfl) rfl (fun c9 => ?_) (fun c9 => ?_)
 ·
  refine zB ?_
  refine hK3 _ _ (wp_cond_true (zA hN rfl) (zF fun K7 hK7 => ?_))
  refine zH ?_
  refine zD rfl ?_
  refine zB ?_
  refine hK7 _ _ (wp_ret (zO ( ?_)))
  refine ret1 rfl hd (zA hN rfl) ⟨_, rfl, ?_⟩
  exact ⟨hb, [], XsFr.nil _ _ _, n4, hk4, by omega⟩
 refine zB ?_
 refine hK3 _ _ (wp_cond_false (zA hN rfl) (wp_skip (hK2 _ _ (zF fun K8 hK8 => ?_))))
 refine zH ?_
 refine zG (zC hN rfl s0) ?_
 refine zG (zC hN rfl s1) ?_
 refine zG (zC hN rfl s2) ?_
 refine ze (vs := [(ptr p 0), vc, vk, (.int .i64 3), (.int .i64 0)]) ok22 ⟨(zA hN rfl), ⟨(zA hN rfl), ⟨(zA hN rfl), ⟨rfl, ⟨rfl, trivial⟩⟩⟩⟩⟩ (hEx9 _ (kd := 3) (deep := 0) rfl hk4 zx hbl (C := C) (K := K) hC hK zx zx zx zx zx zx zx) ?_
 rintro _ w10 ⟨E11, e9, rfl, he9, hg9, n9, hk9, hn9⟩
 have := E11.size
 have hb := hb.stepF E11 (fun _ _ h => h)
 refine op_bslice (e := 28) (pv := [(0, (.agg #[(.int .i64 e9.op), (.int .i64 e9.vk), (.int .i64 e9.vi), (.string (bs e9.vt)), (.string (bs e9.tb)), (.string (bs e9.nm)), e9.av]))]) (cs := [(.int .i64 e9.op), (.int .i64 e9.vk), (.int .i64 e9.vi), (.string (bs e9.vt)), (.string (bs e9.tb)), (.string (bs e9.nm)), e9.av]) ⟨rfl, (zA hN rfl), trivial⟩ zy ?_
 intro w12 b13 lo_b13 hi_b13 hB15 E14
 have dj16 : ¬ (fun k => k = p) b13 := fun hf => by have := (hk9.lt _ hf).2; omega
 have := E14.size
 have hk9 := hk9.keepG (zi E14 NoB) (fun _ _ h => h)
 have he9 := he9.keep0 E14
 have hb := hb.step0 E14
 refine zD (zA hN rfl) ?_
 refine zB ?_
 refine hK8 _ _ (wp_ret ?_)
 refine ret1 rfl hd (zA hN rfl) ⟨_, rfl, ?_⟩
 exact ⟨hb, [e9], XsFr.lit1 (x := e9) hB15 zx hB15.lt (he9.mono zx zx), n9, hk9, by omega⟩

theorem Tags_ret {base p n Bp : Nat} {lv : Value} {bl : List UInt8} {w : World} (hpk : PickR w base p lv bl n (fun k => k = p)) (hBp : Bp ≤ p) (hbl : RdC w 0 Bp 1 lv bl.length (bl.map u8v)) : Ret Try.prog 37 #[(ptr p 0)] w (fun v' w' => Gr w w' (fun k => k = p) ∧ ∃ tags : List UInt16, tags.length ≤ 2 ∧ RdC w' w.heap.size w'.heap.size 1 v' tags.length (tags.map u16v) ∧ ∃ n' : Nat, PickR w' base p lv bl n' (fun k => k = p) ∧ n ≤ n') := by
 have hi_p : p < w.heap.size := (hpk.lt p rfl).2
 have hb := Gr.refl w (fun k => k = p)
 refine enter (N := 19) Try.func37 rfl rfl (by simp) fun a0 hN hd hA => ?_
 have s0 : a0.tmps.getD 0 undef = (ptr p 0) := hA 0 (by simp)
 clear hA
 refine zF fun K17 hK17 => ?_
 refine zH ?_
 refine zD rfl ?_
 refine zB ?_
 refine hK17 _ _ (zF fun K18 hK18 => ?_)
 refine zH ?_
 refine zD rfl ?_
 refine zB ?_
 refine hK18 _ _ (zF fun K19 hK19 => ?_)
 refine zF fun K20 hK20 => ?_
 refine zH ?_
 refine zG (zC hN rfl s0) ?_
 refine zj ok35 (Num_ret (m := 3) hpk zx hbl zx zx) ⟨(zA hN rfl), ⟨rfl, trivial⟩⟩ ?_
 rintro _ w22 ⟨E23, r21, rfl, hr21, n21, hk21, hn21, hn21x⟩
 have hpk_old := hpk
 have := E23.size
 have hbl := hbl.keepG E23 (fun k hk => .inr (by have := hpk_old.lt k hk; omega))
 have hb := hb.stepF E23 (fun _ _ h => h)
 refine zD (zA hN rfl) ?_
 refine zB ?_
 refine hK20 _ _ (wp_block ?_)
 refine loop_m (fun mz_ az_ w' => ∃ (i n2 : Nat) (lv2 : Value) (tags : List UInt16), mz_ = (i + 1) ∧ (az_.tmps.getD 0 undef = (ptr p 0)) ∧ (az_.tmps.getD 2 undef = (.slice none 0 0)) ∧ (az_.tmps.getD 4 undef = (.int .i64 ((i : Nat) : Int))) ∧ (az_.tmps.getD 3 undef = lv2) ∧ (tags.length + i ≤ 2) ∧ (n ≤ n2) ∧ (Gr w w' (fun k => k = p)) ∧ (w22.heap.size ≤ w'.heap.size) ∧ (RdC w' 0 Bp 1 lv bl.length (bl.map u8v)) ∧ (PickR w' base p lv bl n2 (fun k => k = p)) ∧ (Own w' w.heap.size 74 1 lv2 tags.length (tags.map u16v))) _ hN hd ⟨_, _, (.slice none 0 0), [], rfl, (zL hN rfl s0), (zU hN rfl), (zU hN rfl), (zU hN rfl), (by simp; omega), zx, hb, (Nat.le_refl _), hbl, hk21, (Own.nil _ _ _ _)⟩ ?_
 rintro _ a24 w24 hN24 hd24 ⟨i, n2, lv2, tags, rfl, s24_0, s24_2, s24_4, s24_3, htl, hn2, hb, zl_w24, hbl, hpk, hO25⟩
 have := hb.size
 refine zF fun K26 hK26 => ?_
 refine zF fun K27 hK27 => ?_
 refine zH ?_
 refine zG (zC hN24 rfl s24_4) ?_
 refine op_gtr (zA hN24 rfl) rfl (fun c8 => ?_) (fun c8 => ?_)
 ·
  refine zB ?_
  refine hK27 _ _ (wp_cond_true (zA hN24 rfl) (wp_skip (hK26 _ _ (zF fun K28 hK28 => ?_))))
  refine wp_block ?_
  refine zH ?_
  refine zG (zC hN24 rfl s24_3) ?_
  refine zG (zC hN24 rfl s24_0) ?_
  refine zj ok35 (Num_ret (m := 3) hpk zx hbl zx zx) ⟨(zA hN24 rfl), ⟨rfl, trivial⟩⟩ ?_
  rintro _ w30 ⟨E31, r29, rfl, hr29, n29, hk29, hn29, hn29x⟩
  have hpk_old := hpk
  have := E31.size
  have hbl := hbl.keepG E31 (fun k hk => .inr (by have := hpk_old.lt k hk; omega))
  have hO25 := hO25.keepG E31 (hpk_old.notOwn hO25 zz)
  have hb := hb.stepF E31 (fun _ _ h => h)
  refine op_add rfl (zA hN24 rfl) (add64 zx) ?_
  refine op_conv (r := ((UInt16.ofNat (1 + r29)).toNat : Int)) (zA hN24 rfl) us3 Try.underlying74 (wrap_tag zx) ?_
  refine op_bslice (e := 74) (pv := [(0, (.int .u16 ((UInt16.ofNat (1 + r29)).toNat : Int)))]) (cs := [(.int .u16 ((UInt16.ofNat (1 + r29)).toNat : Int))]) ⟨rfl, (zA hN24 rfl), trivial⟩ zy ?_
  intro w32 b33 lo_b33 hi_b33 hB35 E34
  have dj36 : ¬ (fun k => k = p) b33 := fun hf => by have := (hk29.lt _ hf).2; omega
  have := E34.size
  have hbl := hbl.keep0 E34
  have hO25 := hO25.keep0 E34
  have hk29 := hk29.keepG (zi E34 NoB) (fun _ _ h => h)
  have hb := hb.step0 E34
  have hP42 := hO25
  refine op_append slt42 (zA hN24 rfl) hP42 (zA hN24 rfl) (Src.ofRd Try.underlying42 zz (RdC.ofBx (sz := 1) (n := 1) hB35 rfl zz) (by simp [Value.oneCell', u8v])) (by unfold maxLen; omega) zx hb.size ?_
  intro v37 w38 hO40 E39 hm41
  have := E39.size
  have hbl := hbl.keepO hP42 E39 zx
  have hk29 := hk29.keepG (Gr.of E39) (hk29.notOwn hP42 zz).symm
  have hb := hb.stepO hP42 E39 zx
  have hO40 : Own w38 w.heap.size 74 1 v37 (tags.length + 1) (((tags ++ [(UInt16.ofNat (1 + r29))])).map u16v) := by simpa [u8v, u16v, sv, cellsI] using hO40
  refine zD (zA hN24 rfl) ?_
  refine zB ?_
  refine hK28 _ _ (zH ?_)
  refine zG (zC hN24 rfl s24_4) ?_
  refine op_sub (zA hN24 rfl) rfl (sub64 zx) ?_
  refine zD (zA hN24 rfl) ?_
  refine zB ?_
  -- round 8T
  exact zg _ hN24 hd24 ⟨(i - 1), n29, v37, (tags ++ [(UInt16.ofNat (1 + r29))]), rfl, (zL hN24 rfl s24_0), (zL hN24 rfl s24_2), (zU hN24 rfl).trans (congrArg (Value.int .i64) zx), (zU hN24 rfl), (by simp; omega), zx, hb, zx, hbl, hk29, (hO40.cast (by simp) rfl)⟩ zx
 refine zB ?_
 refine hK27 _ _ (wp_cond_false (zA hN24 rfl) (wp_exit (then_exit (then_exit (blk_hit ?_)))))
 refine hK19 _ _ (zF fun K44 hK44 => ?_)
 refine zH ?_
 refine zG (zC hN24 rfl s24_3) ?_
 refine zD (zA hN24 rfl) ?_
 refine zB ?_
 refine hK44 _ _ (wp_ret ?_)
 refine ret1 rfl hd24 (zA hN24 rfl) ⟨_, rfl, ?_⟩
 exact ⟨hb, tags, by omega, hO25.rdw, n2, hpk, by omega⟩

theorem pview_ret {base p n Bp : Nat} {lv : Value} {bl : List UInt8} {w : World} (hpk : PickR w base p lv bl n (fun k => k = p)) (hBp : Bp ≤ p) (hbl : RdC w 0 Bp 1 lv bl.length (bl.map u8v)) : Ret Try.prog 36 #[(ptr p 0)] w (fun v' w' => Gr w w' (fun k => k = p) ∧ ∃ s : List UInt8, v' = .string (bs s) ∧ ∃ n' : Nat, PickR w' base p lv bl n' (fun k => k = p) ∧ n ≤ n') := by
 have hi_p : p < w.heap.size := (hpk.lt p rfl).2
 have hb := Gr.refl w (fun k => k = p)
 refine enter (N := 8) Try.func36 rfl rfl (by simp) fun a0 hN hd hA => ?_
 have s0 : a0.tmps.getD 0 undef = (ptr p 0) := hA 0 (by simp)
 clear hA
 refine zF fun K45 hK45 => ?_
 refine zH ?_
 refine zD rfl ?_
 refine zB ?_
 refine hK45 _ _ (zF fun K46 hK46 => ?_)
 refine zH ?_
 refine op_bslice (e := 9) (pv := [(0, (.string (bs [100]))), (1, (.string (bs [101]))), (2, (.string (bs [102]))), (3, (.string (bs [103])))]) (cs := [(.string (bs [100])), (.string (bs [101])), (.string (bs [102])), (.string (bs [103]))]) ⟨rfl, rfl, ⟨rfl, rfl, ⟨rfl, rfl, ⟨rfl, rfl, trivial⟩⟩⟩⟩ zy ?_
 intro w47 b48 lo_b48 hi_b48 hB50 E49
 have dj51 : ¬ (fun k => k = p) b48 := fun hf => by have := (hpk.lt _ hf).2; omega
 have := E49.size
 have hpk := hpk.keepG (zi E49 NoB) (fun _ _ h => h)
 have hbl := hbl.keep0 E49
 have hb := hb.step0 E49
 refine zG (zC hN rfl s0) ?_
 refine zj ok35 (Num_ret (m := 4) hpk zx hbl zx zx) ⟨(zA hN rfl), ⟨rfl, trivial⟩⟩ ?_
 rintro _ w53 ⟨E54, r52, rfl, hr52, n52, hk52, hn52, hn52x⟩
 have := E54.size
 have hB50 := hB50.keepG E54 dj51
 have hb := hb.stepF E54 (fun _ _ h => h)
 refine zh slt53 (zA hN rfl) (RdC.ofBx (sz := 1) (n := 4) hB50 rfl zz) (zA hN rfl) zx zx ?_
 intro b55 o56 h0b55 h1b55 hc57
 refine zN (v := (Value.string (bs (([[100], [101], [102], [103]] : List (List UInt8)).getD r52 [])))) one9 (zA hN rfl) (by have := hc57 0 (.string (bs (([[100], [101], [102], [103]] : List (List UInt8)).getD r52 []))) zz (el_sv (l := ([[100], [101], [102], [103]] : List (List UInt8))) (i := r52) rfl (show _ < 4 by omega)); simpa using this) ?_
 refine zD (zA hN rfl) ?_
 refine zB ?_
 refine hK46 _ _ (wp_ret ?_)
 refine ret1 rfl hd (zA hN rfl) ⟨_, rfl, ?_⟩
 exact ⟨hb, (([[100], [101], [102], [103]] : List (List UInt8)).getD r52 []), rfl, n52, hk52, by omega⟩

end Go.Proofs.Ythflnkfghogaoaa

namespace Go.Gx
def TsFr (w : World) (L B : Nat) (v : Value) (D : List DTab) : Prop := RdC w L B 3 v D.length (D.flatMap cellsT) ∧ ∀ d ∈ D, RdC w L B 3 d.cv d.t.cols.length (d.t.cols.flatMap cellsC) ∧ RdC w L B 1 d.iv d.t.idx.length (d.t.idx.map sv)
section
variable {w w' : World} {base e sz n L B L' B' : Nat} {u v : Value} {D : List DTab} {row : Option Nat} {F : Nat → Prop} {ws : List Value}
theorem TsFr.keep (h : TsFr w L B v D) (E : w.grownBy w' row) (hne : ∀ k, row = some k → k < L ∨ B ≤ k) : TsFr w' L B v D := ⟨h.1.keep E hne, fun a ha => ⟨(h.2 a ha).1.keep E hne, (h.2 a ha).2.keep E hne⟩⟩
theorem TsFr.keep0 (h : TsFr w L B v D) (E : w.grownBy w' none) : TsFr w' L B v D := h.keep E (by simp)
theorem TsFr.keepG (h : TsFr w L B v D) (E : Gr w w' F) (hn : ∀ k, F k → k < L ∨ B ≤ k) : TsFr w' L B v D := ⟨h.1.keepG E hn, fun a ha => ⟨(h.2 a ha).1.keepG E hn, (h.2 a ha).2.keepG E hn⟩⟩
theorem TsFr.keepO (h : TsFr w L B v D) (O : Own w base e sz u n ws) (E : w.grownBy w' u.ownBlock) (hne : B ≤ base) : TsFr w' L B v D := h.keep E fun k hk => .inr (Nat.le_trans hne (O.lt k hk).1)
end
theorem rd_cols3L {w : World} {b L B : Nat} {c1 c2 c3 : PCol} (h : Bx w b 68 (cellsC c1 ++ cellsC c2 ++ cellsC c3)) (h1 : L ≤ b) (h2 : b < B) : RdC w L B 3 (.slice (some ⟨b, 0, none⟩) 3 3) 3 ([c1, c2, c3].flatMap cellsC) :=
  ((RdC.ofBx (sz := 3) (n := 3) h rfl (by decide)).mono h1 h2).cast rfl (by simp)
theorem rd_str1L {w : World} {b L B : Nat} {s : List UInt8} (h : Bx w b 9 [.string (bs s)]) (h1 : L ≤ b) (h2 : b < B) : RdC w L B 1 (.slice (some ⟨b, 0, none⟩) 1 1) 1 ([s].map sv) :=
  ((RdC.ofBx (sz := 1) (n := 1) h rfl (by decide)).mono h1 h2).cast rfl rfl
theorem sch_mkL {w : World} {L B b1 b2 b3 b4 : Nat} (h1 : Bx w b1 68 [.string (bs [107]), .int .i64 1, .string (bs []), .string (bs [118]), .int .i64 2, .string (bs []), .string (bs [110]), .int .i64 1, .string (bs [])]) (h2 : Bx w b2 9 [.string (bs [110])])
    (h3 : Bx w b3 68 [.string (bs [107]), .int .i64 2, .string (bs []), .string (bs [114]), .int .i64 1, .string (bs [116]), .string (bs [110]), .int .i64 1, .string (bs [])])
    (h4 : Bx w b4 55 [.string (bs [116]), .slice (some ⟨b1, 0, none⟩) 3 3, .slice (some ⟨b2, 0, none⟩) 1 1, .string (bs [117]), .slice (some ⟨b3, 0, none⟩) 3 3, .slice none 0 0]) (g1 : b1 < B) (g2 : b2 < B) (g3 : b3 < B) (g4 : b4 < B) (l1 : L ≤ b1) (l2 : L ≤ b2) (l3 : L ≤ b3) (l4 : L ≤ b4) :
    ∃ D : List DTab, D.map DTab.t = schT ∧ TsFr w L B (.slice (some ⟨b4, 0, none⟩) 2 2) D :=
  ⟨[⟨tabT, .slice (some ⟨b1, 0, none⟩) 3 3, .slice (some ⟨b2, 0, none⟩) 1 1⟩, ⟨tabU, .slice (some ⟨b3, 0, none⟩) 3 3, .slice none 0 0⟩], rfl,
    ((RdC.ofBx (sz := 3) (n := 2) h4 rfl (by decide)).mono l4 g4).cast rfl (by simp [cellsT, tabT, tabU]), fun d hd => by
      rcases List.mem_cons.1 hd with rfl | hd
      · exact ⟨rd_cols3L (c1 := ⟨[107], 1, []⟩) (c2 := ⟨[118], 2, []⟩) (c3 := ⟨[110], 1, []⟩) h1 l1 g1, rd_str1L h2 l2 g2⟩
      · rw [List.mem_singleton] at hd; subst hd
        exact ⟨rd_cols3L (c1 := ⟨[107], 2, []⟩) (c2 := ⟨[114], 1, [116]⟩) (c3 := ⟨[110], 1, []⟩) h3 l3 g3, RdC.nil _ _ _ _⟩⟩
theorem sch_3 {D : List DTab} (h : D.map DTab.t = schT) : D.length = 2 ∧ ∀ d ∈ D, d.t.cols.length = 3 := by
  refine ⟨(sch_0 h).1, fun d hd => ?_⟩
  have : d.t ∈ schT := by rw [← h]; exact List.mem_map.2 ⟨d, hd, rfl⟩
  rcases List.mem_cons.1 this with h | h
  · rw [h]; rfl
  · rw [List.mem_singleton] at h; rw [h]; rfl
end Go.Gx

namespace Go.Proofs.Ythflnkfghogaoaa
open Go.Gx Go.RowKit
attribute [local irreducible] wpList wpStill Code.wp Calls

theorem SchemaL_ret (w : World) : Ret Try.prog 16 #[] w (fun v' w' => Below w.heap.size w w' ∧ ∃ (tv : Value) (D : List DTab), v' = .agg #[tv, .slice none 0 0] ∧ D.map DTab.t = schT ∧ TsFr w' w.heap.size w'.heap.size tv D) := by
 have hb := Below.refl w.heap.size w
 refine enter (N := 14) Try.func16 rfl rfl (by simp) fun a0 hN hd hA => ?_
 clear hA
 refine zF fun K1 hK1 => ?_
 refine zH ?_
 refine op_alloc (cs := [(.slice none 0 0), (.slice none 0 0)]) zero39 rfl ?_
 intro w2 b3 lo_b3 hi_b3 hB5 E4
 have := E4.size
 have hb := zP hb E4 hb.size
 refine zB ?_
 refine hK1 _ _ (zF fun K6 hK6 => ?_)
 refine zH ?_
 refine zf (pv := [(0, (.string (bs [107]))), (1, (.int .i64 1))]) (v := (Value.agg #[(.string (bs [107])), (.int .i64 1), (.string (bs []))])) ⟨rfl, rfl, ⟨rfl, rfl, trivial⟩⟩ zy ?_
 refine zf (pv := [(0, (.string (bs [118]))), (1, (.int .i64 2))]) (v := (Value.agg #[(.string (bs [118])), (.int .i64 2), (.string (bs []))])) ⟨rfl, rfl, ⟨rfl, rfl, trivial⟩⟩ zy ?_
 refine zf (pv := [(0, (.string (bs [110]))), (1, (.int .i64 1))]) (v := (Value.agg #[(.string (bs [110])), (.int .i64 1), (.string (bs []))])) ⟨rfl, rfl, ⟨rfl, rfl, trivial⟩⟩ zy ?_
 refine op_bslice (e := 68) (pv := [(0, (.agg #[(.string (bs [107])), (.int .i64 1), (.string (bs []))])), (1, (.agg #[(.string (bs [118])), (.int .i64 2), (.string (bs []))])), (2, (.agg #[(.string (bs [110])), (.int .i64 1), (.string (bs []))]))]) (cs := [(.string (bs [107])), (.int .i64 1), (.string (bs [])), (.string (bs [118])), (.int .i64 2), (.string (bs [])), (.string (bs [110])), (.int .i64 1), (.string (bs []))]) ⟨rfl, (zA hN rfl), ⟨rfl, (zA hN rfl), ⟨rfl, (zA hN rfl), trivial⟩⟩⟩ zy ?_
 intro w7 b8 lo_b8 hi_b8 hB10 E9
 have := E9.size
 have hB5 := hB5.keep0 E9
 have hb := zP hb E9 hb.size
 refine op_bslice (e := 9) (pv := [(0, (.string (bs [110])))]) (cs := [(.string (bs [110]))]) ⟨rfl, rfl, trivial⟩ zy ?_
 intro w11 b12 lo_b12 hi_b12 hB14 E13
 have := E13.size
 obtain ⟨hB5, hB10⟩ := kb2 E13 hB5 hB10
 have hb := zP hb E13 hb.size
 refine zf (pv := [(0, (.string (bs [116]))), (1, (.slice (some ⟨b8, 0, none⟩) 3 3)), (2, (.slice (some ⟨b12, 0, none⟩) 1 1))]) (v := (Value.agg #[(.string (bs [116])), (.slice (some ⟨b8, 0, none⟩) 3 3), (.slice (some ⟨b12, 0, none⟩) 1 1)])) ⟨rfl, rfl, ⟨rfl, (zA hN rfl), ⟨rfl, (zA hN rfl), trivial⟩⟩⟩ zy ?_
 refine zf (pv := [(0, (.string (bs [107]))), (1, (.int .i64 2))]) (v := (Value.agg #[(.string (bs [107])), (.int .i64 2), (.string (bs []))])) ⟨rfl, rfl, ⟨rfl, rfl, trivial⟩⟩ zy ?_
 refine zf (pv := [(0, (.string (bs [114]))), (1, (.int .i64 1)), (2, (.string (bs [116])))]) (v := (Value.agg #[(.string (bs [114])), (.int .i64 1), (.string (bs [116]))])) ⟨rfl, rfl, ⟨rfl, rfl, ⟨rfl, rfl, trivial⟩⟩⟩ zy ?_
 refine zf (pv := [(0, (.string (bs [110]))), (1, (.int .i64 1))]) (v := (Value.agg #[(.string (bs [110])), (.int .i64 1), (.string (bs []))])) ⟨rfl, rfl, ⟨rfl, rfl, trivial⟩⟩ zy ?_
 refine op_bslice (e := 68) (pv := [(0, (.agg #[(.string (bs [107])), (.int .i64 2), (.string (bs []))])), (1, (.agg #[(.string (bs [114])), (.int .i64 1), (.string (bs [116]))])), (2, (.agg #[(.string (bs [110])), (.int .i64 1), (.string (bs []))]))]) (cs := [(.string (bs [107])), (.int .i64 2), (.string (bs [])), (.string (bs [114])), (.int .i64 1), (.string (bs [116])), (.string (bs [110])), (.int .i64 1), (.string (bs []))]) ⟨rfl, (zA hN rfl), ⟨rfl, (zA hN rfl), ⟨rfl, (zA hN rfl), trivial⟩⟩⟩ zy ?_
 intro w15 b16 lo_b16 hi_b16 hB18 E17
 have := E17.size
 obtain ⟨hB5, hB10, hB14⟩ := kb3 E17 hB5 hB10 hB14
 have hb := zP hb E17 hb.size
 refine zf (pv := [(0, (.string (bs [117]))), (1, (.slice (some ⟨b16, 0, none⟩) 3 3))]) (v := (Value.agg #[(.string (bs [117])), (.slice (some ⟨b16, 0, none⟩) 3 3), (.slice none 0 0)])) ⟨rfl, rfl, ⟨rfl, (zA hN rfl), trivial⟩⟩ zy ?_
 refine op_bslice (e := 55) (pv := [(0, (.agg #[(.string (bs [116])), (.slice (some ⟨b8, 0, none⟩) 3 3), (.slice (some ⟨b12, 0, none⟩) 1 1)])), (1, (.agg #[(.string (bs [117])), (.slice (some ⟨b16, 0, none⟩) 3 3), (.slice none 0 0)]))]) (cs := [(.string (bs [116])), (.slice (some ⟨b8, 0, none⟩) 3 3), (.slice (some ⟨b12, 0, none⟩) 1 1), (.string (bs [117])), (.slice (some ⟨b16, 0, none⟩) 3 3), (.slice none 0 0)]) ⟨rfl, (zA hN rfl), ⟨rfl, (zA hN rfl), trivial⟩⟩ zy ?_
 intro w19 b20 lo_b20 hi_b20 hB22 E21
 have := E21.size
 obtain ⟨hB5, hB10, hB14, hB18⟩ := kb4 E21 hB5 hB10 hB14 hB18
 have hb := zP hb E21 hb.size
 refine zf (pv := [(0, (.slice (some ⟨b20, 0, none⟩) 2 2))]) (v := (Value.agg #[(.slice (some ⟨b20, 0, none⟩) 2 2), (.slice none 0 0)])) ⟨rfl, (zA hN rfl), trivial⟩ zy ?_
 have hB5_old := hB5
 refine zZ size39 (zA hN rfl) (zA hN rfl) rfl rfl hB5 rfl ?_
 intro w25 hB5 E26
 have := E26.size
 have hB10 := hB10.keep E26 (sN hB10 hB5_old)
 have hB14 := hB14.keep E26 (sN hB14 hB5_old)
 have hB18 := hB18.keep E26 (sN hB18 hB5_old)
 have hB22 := hB22.keep E26 (sN hB22 hB5_old)
 have hb := below_step1 hb E26 hb.size zx
 refine zB ?_
 refine hK6 _ _ (wp_ret ?_)
 refine retC rfl hd (zA hN rfl) agg39 rfl hB5 ⟨_, rfl, ?_⟩
 obtain ⟨D, hM, hT⟩ := sch_mkL (L := w.heap.size) (B := w25.heap.size) hB10 hB14 hB18 hB22 zx zx zx zx zx zx zx zx
 exact ⟨hb, _, D, rfl, hM, hT⟩

set_option maxHeartbeats 8000000 in
theorem selected_ret {base p n Bp : Nat} {lv : Value} {bl : List UInt8} {tv : Value} {D : List DTab} {Ls Bs r : Nat} {w : World} (hpk : PickR w base p lv bl n (fun k => k = p)) (hBp : Bp ≤ p) (hbl : RdC w 0 Bp 1 lv bl.length (bl.map u8v)) (hT : TsFr w Ls Bs tv D) (hM : D.map DTab.t = schT) (hBs : Bs ≤ w.heap.size) (hsp : p < Ls ∨ Bs ≤ p) (hr : r < D.length) : Ret Try.prog 38 #[(ptr p 0), (.agg #[tv, (.slice none 0 0)]), (.agg #[(.string (bs (D.getD r default).t.nm)), (D.getD r default).cv, (D.getD r default).iv])] w (fun v' w' => Gr w w' (fun k => k = p) ∧ ∃ s : XS, v' = (.agg #[(.int .i64 s.f.kind), (.string (bs s.f.tb)), (.string (bs s.f.nm)), s.f.cv, s.f.gv, s.f.vv, s.f.iv, (.string (bs s.f.join)), s.f.ov, s.f.wv, s.f.rv, (.bool s.f.desc), s.nv]) ∧ SFr w' w.heap.size w'.heap.size s ∧ ∃ n' : Nat, PickR w' base p lv bl n' (fun k => k = p) ∧ n ≤ n') := by
 have hi_p : p < w.heap.size := (hpk.lt p rfl).2
 obtain ⟨hl2, hl3⟩ := sch_3 hM
 have hR := hT.1
 have htcr := (hT.2 (D.getD r default) (getD_mem zx)).1
 have hlr : (D.getD r default).t.cols.length = 3 := hl3 _ (getD_mem zx)
 have hlcr : (colsOf (D.getD r default).t.nm (D.getD r default).t.cols).length = 3 := by rw [cols_len, hlr]
 have hlkr : (kindsOf (D.getD r default).t.cols).length = 3 := by rw [kinds_len, hlr]
 have htc0 := (hT.2 (D.getD 0 default) (getD_mem zx)).1
 have hl0 : (D.getD 0 default).t.cols.length = 3 := hl3 _ (getD_mem zx)
 have hlc0 : (colsOf (D.getD 0 default).t.nm (D.getD 0 default).t.cols).length = 3 := by rw [cols_len, hl0]
 have hlk0 : (kindsOf (D.getD 0 default).t.cols).length = 3 := by rw [kinds_len, hl0]
 have htc1 := (hT.2 (D.getD 1 default) (getD_mem zx)).1
 have hl1 : (D.getD 1 default).t.cols.length = 3 := hl3 _ (getD_mem zx)
 have hlc1 : (colsOf (D.getD 1 default).t.nm (D.getD 1 default).t.cols).length = 3 := by rw [cols_len, hl1]
 have hlk1 : (kindsOf (D.getD 1 default).t.cols).length = 3 := by rw [kinds_len, hl1]
 have hb := Gr.refl w (fun k => k = p)
 refine enter (N := 173) Try.func38 rfl rfl (by simp) fun a0 hN hd hA => ?_
 have s0 : a0.tmps.getD 0 undef = (ptr p 0) := hA 0 (by simp)
 have s1 : a0.tmps.getD 1 undef = (.agg #[tv, (.slice none 0 0)]) := hA 1 (by simp)
 have s2 : a0.tmps.getD 2 undef = (.agg #[(.string (bs (D.getD r default).t.nm)), (D.getD r default).cv, (D.getD r default).iv]) := hA 2 (by simp)
 clear hA
 refine zF fun K1 hK1 => ?_
 refine zH ?_
 refine op_box (cs := [tv, (.slice none 0 0)]) (zC hN rfl s1) rfl ?_
 intro w2 b3 lo_b3 hi_b3 hB5 E4
 have dj6 : ¬ (fun k => k = p) b3 := fun hf => by have := (hpk.lt _ hf).2; omega
 have := E4.size
 have hpk := hpk.keepG (zi E4 NoB) (fun _ _ h => h)
 have hbl := hbl.keep0 E4
 have hT := hT.keep0 E4
 have hR := hR.keep0 E4
 have htcr := htcr.keep0 E4
 have htc0 := htc0.keep0 E4
 have htc1 := htc1.keep0 E4
 have hb := hb.step0 E4
 refine op_box (cs := [(.string (bs (D.getD r default).t.nm)), (D.getD r default).cv, (D.getD r default).iv]) (zC hN rfl s2) rfl ?_
 intro w7 b8 lo_b8 hi_b8 hB10 E9
 have dj11 : ¬ (fun k => k = p) b8 := fun hf => by have := (hpk.lt _ hf).2; omega
 have := E9.size
 have hpk := hpk.keepG (zi E9 NoB) (fun _ _ h => h)
 have hbl := hbl.keep0 E9
 have hT := hT.keep0 E9
 have hR := hR.keep0 E9
 have htcr := htcr.keep0 E9
 have htc0 := htc0.keep0 E9
 have htc1 := htc1.keep0 E9
 have hB5 := hB5.keep0 E9
 have hb := hb.step0 E9
 refine op_alloc (cs := [(.int .i64 0), (.string (bs [])), (.string (bs [])), (.slice none 0 0), (.slice none 0 0), (.slice none 0 0), (.slice none 0 0), (.string (bs [])), (.slice none 0 0), (.slice none 0 0), (.slice none 0 0), (.bool false), (.slice none 0 0)]) zero45 rfl ?_
 intro w12 b13 lo_b13 hi_b13 hB15 E14
 have dj16 : ¬ (fun k => k = p) b13 := fun hf => by have := (hpk.lt _ hf).2; omega
 have := E14.size
 have hpk := hpk.keepG (zi E14 NoB) (fun _ _ h => h)
 have hbl := hbl.keep0 E14
 have hT := hT.keep0 E14
 have hR := hR.keep0 E14
 have htcr := htcr.keep0 E14
 have htc0 := htc0.keep0 E14
 have htc1 := htc1.keep0 E14
 obtain ⟨hB5, hB10⟩ := kb2 E14 hB5 hB10
 have hb := hb.step0 E14
 refine zB ?_
 refine hK1 _ _ (zF fun K17 hK17 => ?_)
 refine zH ?_
 refine zM fld55_0 (zA hN rfl) ?_
 refine zN (v := (Value.string (bs (D.getD r default).t.nm))) one9 (zA hN rfl) (hB10.cell rfl) ?_
 refine zf (pv := [(0, (.int .i64 6)), (1, (.string (bs (D.getD r default).t.nm)))]) (v := (Value.agg #[(.int .i64 6), (.string (bs (D.getD r default).t.nm)), (.string (bs [])), (.slice none 0 0), (.slice none 0 0), (.slice none 0 0), (.slice none 0 0), (.string (bs [])), (.slice none 0 0), (.slice none 0 0), (.slice none 0 0), (.bool false), (.slice none 0 0)])) ⟨rfl, rfl, ⟨rfl, (zA hN rfl), trivial⟩⟩ zy ?_
 refine op_alloc (cs := [(.int .i64 0), (.string (bs [])), (.string (bs [])), (.slice none 0 0), (.slice none 0 0), (.slice none 0 0), (.slice none 0 0), (.string (bs [])), (.slice none 0 0), (.slice none 0 0), (.slice none 0 0), (.bool false), (.slice none 0 0)]) zero45 rfl ?_
 intro w18 b19 lo_b19 hi_b19 hB21 E20
 have dj22 : ¬ (fun k => k = p) b19 := fun hf => by have := (hpk.lt _ hf).2; omega
 have := E20.size
 have hpk := hpk.keepG (zi E20 NoB) (fun _ _ h => h)
 have hbl := hbl.keep0 E20
 have hT := hT.keep0 E20
 have hR := hR.keep0 E20
 have htcr := htcr.keep0 E20
 have htc0 := htc0.keep0 E20
 have htc1 := htc1.keep0 E20
 obtain ⟨hB5, hB10, hB15⟩ := kb3 E20 hB5 hB10 hB15
 have hb := hb.step0 E20
 have hB21_old := hB21
 refine zZ size45 (zA hN rfl) (zA hN rfl) rfl rfl hB21 rfl ?_
 intro w25 hB21 E26
 have := E26.size
 have hpk := hpk.keepG (Gr.of E26) (Dj.one dj22)
 have hbl := hbl.keep E26 sR
 have hT := hT.keep E26 sO
 have hR := hR.keep E26 sO
 have htcr := htcr.keep E26 sO
 have htc0 := htc0.keep E26 sO
 have htc1 := htc1.keep E26 sO
 have hB5 := hB5.keep E26 (sN hB5 hB21_old)
 have hB10 := hB10.keep E26 (sN hB10 hB21_old)
 have hB15 := hB15.keep E26 sB
 have hb := hb.step1 E26 zx
 refine zB ?_
 refine hK17 _ _ (zF fun K27 hK27 => ?_)
 refine zH ?_
 refine zY agg55 rfl (zA hN rfl) hB10 ?_
 refine zj ok21 (Cols_own (nm := ((D.getD r default).t.nm)) zx (htcr.mono (Nat.zero_le _) zx)) ⟨(zA hN rfl), trivial⟩ ?_
 rintro _ w29 ⟨E30, av28, bv28, rfl, hc28, hk28⟩
 have dj31 : Dj (fun k => k = p) (Bl av28) := Dj.fresh (fun k hk => (hpk.lt k hk).2) (fun k hk => (hc28.lt k hk).1)
 have dj32 : Dj (fun k => k = p) (Bl bv28) := Dj.fresh (fun k hk => (hpk.lt k hk).2) (fun k hk => (hk28.lt k hk).1)
 have E30 := zQ E30
 have := E30.size
 have hpk := hpk.keepG (zi E30 NoB) (fun _ _ h => h)
 have hbl := hbl.keep0 E30
 have hT := hT.keep0 E30
 have hR := hR.keep0 E30
 have htcr := htcr.keep0 E30
 have htc0 := htc0.keep0 E30
 have htc1 := htc1.keep0 E30
 obtain ⟨hB5, hB10, hB15, hB21⟩ := kb4 E30 hB5 hB10 hB15 hB21
 have hb := hb.step0 E30
 refine zG (zA hN rfl) ?_
 refine zW (zA hN rfl) rfl ?_
 refine zW (zA hN rfl) rfl ?_
 refine zD (zA hN rfl) ?_
 refine zD (zA hN rfl) ?_
 refine zB ?_
 refine hK27 _ _ ?_
 refine seq_join1 (N := 173) (fun az_ w' => ∃ (jo9 : List UInt8) (ov9 cv9 kv9 : Value) (on9 : List XE) (C9 : List PItm) (K9 : List Int) (B9 n9 : Nat), (az_.tmps.getD 0 undef = (ptr p 0)) ∧ (az_.tmps.getD 6 undef = (ptr b13 0)) ∧ (az_.tmps.getD 7 undef = (ptr b19 0)) ∧ (az_.tmps.getD 8 undef = cv9) ∧ (az_.tmps.getD 9 undef = kv9) ∧ (C9.length ≤ 6) ∧ (B9 ≤ w'.heap.size) ∧ (w.heap.size ≤ B9) ∧ (n ≤ n9) ∧ (Gr w w' (fun k => k = p)) ∧ (w29.heap.size ≤ w'.heap.size) ∧ (RdC w' 0 Bp 1 lv bl.length (bl.map u8v)) ∧ (TsFr w' Ls Bs tv D) ∧ (RdC w' Ls Bs 3 tv D.length (D.flatMap cellsT)) ∧ (RdC w' Ls Bs 3 (D.getD r default).cv ((D.getD r default).t.cols).length (((D.getD r default).t.cols).flatMap cellsC)) ∧ (RdC w' Ls Bs 3 (D.getD 0 default).cv ((D.getD 0 default).t.cols).length (((D.getD 0 default).t.cols).flatMap cellsC)) ∧ (RdC w' Ls Bs 3 (D.getD 1 default).cv ((D.getD 1 default).t.cols).length (((D.getD 1 default).t.cols).flatMap cellsC)) ∧ (Bx w' b3 39 [tv, (.slice none 0 0)]) ∧ (Bx w' b8 55 [(.string (bs (D.getD r default).t.nm)), (D.getD r default).cv, (D.getD r default).iv]) ∧ (Bx w' b13 45 [(.int .i64 0), (.string (bs [])), (.string (bs [])), (.slice none 0 0), (.slice none 0 0), (.slice none 0 0), (.slice none 0 0), (.string (bs [])), (.slice none 0 0), (.slice none 0 0), (.slice none 0 0), (.bool false), (.slice none 0 0)]) ∧ (RdC w' w25.heap.size B9 3 cv9 C9.length (C9.flatMap cellsI)) ∧ (RdC w' w25.heap.size B9 1 kv9 K9.length (K9.map (Value.int .i64))) ∧ (Bx w' b19 45 [(.int .i64 6), (.string (bs (D.getD r default).t.nm)), (.string (bs [])), (.slice none 0 0), (.slice none 0 0), (.slice none 0 0), (.slice none 0 0), (.string (bs jo9)), ov9, (.slice none 0 0), (.slice none 0 0), (.bool false), (.slice none 0 0)]) ∧ (PickR w' base p lv bl n9 (fun k => k = p)) ∧ (XsFr w' w25.heap.size B9 ov9 on9)) (fun hJ33 => ?_) ?_
 ·
  refine zF fun K34 hK34 => ?_
  refine zF fun K35 hK35 => ?_
  refine zH ?_
  refine zG (zC hN rfl s0) ?_
  refine zj ok35 (Num_ret (m := 4) hpk zx hbl zx zx) ⟨(zA hN rfl), ⟨rfl, trivial⟩⟩ ?_
  rintro _ w37 ⟨E38, r36, rfl, hr36, n36, hk36, hn36, hn36x⟩
  have hpk_old := hpk
  have := E38.size
  have hbl := hbl.keepG E38 (fun k hk => .inr (by have := hpk_old.lt k hk; omega))
  have hT := hT.keepG E38 sP
  have hR := hR.keepG E38 sP
  have htcr := htcr.keepG E38 sP
  have htc0 := htc0.keepG E38 sP
  have htc1 := htc1.keepG E38 sP
  have hB5 := hB5.keepG E38 dj6
  have hB10 := hB10.keepG E38 dj11
  have hB15 := hB15.keepG E38 dj16
  have hB21 := hB21.keepG E38 dj22
  have hc28 := hc28.keepG E38 dj31.symm
  have hk28 := hk28.keepG E38 dj32.symm
  have hb := hb.stepF E38 (fun _ _ h => h)
  refine op_eql (zA hN rfl) rfl (fun c36 => ?_) (fun c36 => ?_)
  ·
   refine zB ?_
   refine hK35 _ _ (wp_cond_true (zA hN rfl) (zF fun K39 hK39 => ?_))
   refine zH ?_
   refine zM fld39_0 (zA hN rfl) ?_
   refine zN (v := tv) one36 (zA hN rfl) (hB5.cell rfl) ?_
   refine zh slt36 (zA hN rfl) hR rfl zx zx ?_
   intro b40 o41 h0b40 h1b40 hc42
   refine zX (cs := [(.string (bs (D.getD 0 default).t.nm)), (D.getD 0 default).cv, (D.getD 0 default).iv]) agg55 rfl (zA hN rfl) (fun j u hu => hc42 j u (by have := (List.getElem?_eq_some_iff.1 hu).1; simpa using this) ((el_dt (i := 0) zx zx) j u hu)) ?_
   refine op_alloc (cs := [(.string (bs [])), (.slice none 0 0), (.slice none 0 0)]) zero55 rfl ?_
   intro w43 b44 lo_b44 hi_b44 hB46 E45
   have dj47 : ¬ (fun k => k = p) b44 := fun hf => by have := (hk36.lt _ hf).2; omega
   have := E45.size
   have hbl := hbl.keep0 E45
   have hT := hT.keep0 E45
   have hR := hR.keep0 E45
   have htcr := htcr.keep0 E45
   have htc0 := htc0.keep0 E45
   have htc1 := htc1.keep0 E45
   have hc28 := hc28.keep0 E45
   have hk28 := hk28.keep0 E45
   obtain ⟨hB5, hB10, hB15, hB21⟩ := kb4 E45 hB5 hB10 hB15 hB21
   have hk36 := hk36.keepG (zi E45 NoB) (fun _ _ h => h)
   have hb := hb.step0 E45
   have hB46_old := hB46
   refine zZ size55 (zA hN rfl) (zA hN rfl) rfl (by simp only [List.all_cons, List.all_nil, Bool.true_and, Bool.and_true, (hT.2 (D.getD 0 default) (getD_mem zx)).1.one, (hT.2 (D.getD 0 default) (getD_mem zx)).2.one]; try rfl) hB46 rfl ?_
   intro w50 hB46 E51
   have := E51.size
   have hbl := hbl.keep E51 sR
   have hT := hT.keep E51 sO
   have hR := hR.keep E51 sO
   have htcr := htcr.keep E51 sO
   have htc0 := htc0.keep E51 sO
   have htc1 := htc1.keep E51 sO
   have hB5 := hB5.keep E51 (sN hB5 hB46_old)
   have hB10 := hB10.keep E51 sB
   have hB15 := hB15.keep E51 (sN hB15 hB46_old)
   have hB21 := hB21.keep E51 (sN hB21 hB46_old)
   have hc28 := hc28.keepX hB46_old E51 zz
   have hk28 := hk28.keepX hB46_old E51 zz
   have hk36 := hk36.keepG (Gr.of E51) (Dj.one dj47)
   have hb := hb.step1 E51 zx
   refine zB ?_
   refine hK39 _ _ ?_
   refine seq_join1 (N := 173) (fun az_ w' => ∃ (o9 : Nat), (az_.tmps.getD 0 undef = (ptr p 0)) ∧ (az_.tmps.getD 6 undef = (ptr b13 0)) ∧ (az_.tmps.getD 7 undef = (ptr b19 0)) ∧ (az_.tmps.getD 8 undef = av28) ∧ (az_.tmps.getD 9 undef = bv28) ∧ (az_.tmps.getD 10 undef = (ptr b44 0)) ∧ (o9 < D.length) ∧ ((D.getD o9 default).t.cols.length = 3) ∧ ((colsOf (D.getD o9 default).t.nm (D.getD o9 default).t.cols).length = 3) ∧ ((kindsOf (D.getD o9 default).t.cols).length = 3) ∧ (Gr w w' (fun k => k = p)) ∧ (w50.heap.size ≤ w'.heap.size) ∧ (RdC w' 0 Bp 1 lv bl.length (bl.map u8v)) ∧ (TsFr w' Ls Bs tv D) ∧ (RdC w' Ls Bs 3 tv D.length (D.flatMap cellsT)) ∧ (RdC w' Ls Bs 3 (D.getD r default).cv ((D.getD r default).t.cols).length (((D.getD r default).t.cols).flatMap cellsC)) ∧ (RdC w' Ls Bs 3 (D.getD 0 default).cv ((D.getD 0 default).t.cols).length (((D.getD 0 default).t.cols).flatMap cellsC)) ∧ (RdC w' Ls Bs 3 (D.getD 1 default).cv ((D.getD 1 default).t.cols).length (((D.getD 1 default).t.cols).flatMap cellsC)) ∧ (Bx w' b3 39 [tv, (.slice none 0 0)]) ∧ (Bx w' b8 55 [(.string (bs (D.getD r default).t.nm)), (D.getD r default).cv, (D.getD r default).iv]) ∧ (Bx w' b13 45 [(.int .i64 0), (.string (bs [])), (.string (bs [])), (.slice none 0 0), (.slice none 0 0), (.slice none 0 0), (.slice none 0 0), (.string (bs [])), (.slice none 0 0), (.slice none 0 0), (.slice none 0 0), (.bool false), (.slice none 0 0)]) ∧ (Bx w' b19 45 [(.int .i64 6), (.string (bs (D.getD r default).t.nm)), (.string (bs [])), (.slice none 0 0), (.slice none 0 0), (.slice none 0 0), (.slice none 0 0), (.string (bs [])), (.slice none 0 0), (.slice none 0 0), (.slice none 0 0), (.bool false), (.slice none 0 0)]) ∧ (Own w' w25.heap.size 63 3 av28 (colsOf ((D.getD r default).t.nm) ((D.getD r default).t.cols)).length ((colsOf ((D.getD r default).t.nm) ((D.getD r default).t.cols)).flatMap cellsI)) ∧ (Own w' w25.heap.size 3 1 bv28 (kindsOf ((D.getD r default).t.cols)).length ((kindsOf ((D.getD r default).t.cols)).map (Value.int .i64))) ∧ (PickR w' base p lv bl n36 (fun k => k = p)) ∧ (Bx w' b44 55 [(.string (bs (D.getD o9 default).t.nm)), (D.getD o9 default).cv, (D.getD o9 default).iv]) ∧ (RdC w' Ls Bs 3 (D.getD o9 default).cv ((D.getD o9 default).t.cols).length (((D.getD o9 default).t.cols).flatMap cellsC))) (fun hJ52 => ?_) ?_
   ·
    refine zF fun K53 hK53 => ?_
    refine zF fun K54 hK54 => ?_
    refine zH ?_
    refine zM fld55_0 (zA hN rfl) ?_
    refine zN (v := (Value.string (bs (D.getD r default).t.nm))) one9 (zA hN rfl) (hB10.cell rfl) ?_
    refine op_seql (zA hN rfl) rfl (fun c43 => ?_) (fun c43 => ?_)
    ·
     refine zB ?_
     refine hK54 _ _ (wp_cond_true (zA hN rfl) (zH ?_))
     refine zM fld39_0 (zA hN rfl) ?_
     refine zN (v := tv) one36 (zA hN rfl) (hB5.cell rfl) ?_
     refine zh slt36 (zA hN rfl) hR rfl zx zx ?_
     intro b55 o56 h0b55 h1b55 hc57
     refine zX (cs := [(.string (bs (D.getD 1 default).t.nm)), (D.getD 1 default).cv, (D.getD 1 default).iv]) agg55 rfl (zA hN rfl) (fun j u hu => hc57 j u (by have := (List.getElem?_eq_some_iff.1 hu).1; simpa using this) ((el_dt (i := 1) zx zx) j u hu)) ?_
     have hB46_old := hB46
     refine zZ size55 (zA hN rfl) (zA hN rfl) rfl (by simp only [List.all_cons, List.all_nil, Bool.true_and, Bool.and_true, (hT.2 (D.getD 1 default) (getD_mem zx)).1.one, (hT.2 (D.getD 1 default) (getD_mem zx)).2.one]; try rfl) hB46 rfl ?_
     intro w60 hB46 E61
     have := E61.size
     have hbl := hbl.keep E61 sR
     have hT := hT.keep E61 sO
     have hR := hR.keep E61 sO
     have htcr := htcr.keep E61 sO
     have htc0 := htc0.keep E61 sO
     have htc1 := htc1.keep E61 sO
     have hB5 := hB5.keep E61 (sN hB5 hB46_old)
     have hB10 := hB10.keep E61 sB
     have hB15 := hB15.keep E61 (sN hB15 hB46_old)
     have hB21 := hB21.keep E61 (sN hB21 hB46_old)
     have hc28 := hc28.keepX hB46_old E61 zz
     have hk28 := hk28.keepX hB46_old E61 zz
     have hk36 := hk36.keepG (Gr.of E61) (Dj.one dj47)
     have hb := hb.step1 E61 zx
     refine zB ?_
     refine hK53 _ _ ?_
     exact hJ52 _ _ _ hN hd ⟨1, (zL hN rfl s0), (zU hN rfl), (zU hN rfl), (zU hN rfl), (zU hN rfl), (zU hN rfl), zx, hl1, hlc1, hlk1, hb, zx, hbl, hT, hR, htcr, htc0, htc1, hB5, hB10, hB15, hB21, hc28, hk28, hk36, hB46, htc1⟩
    refine zB ?_
    refine hK54 _ _ (wp_cond_false (zA hN rfl) (wp_skip (hK53 _ _ ?_)))
    exact hJ52 _ _ _ hN hd ⟨0, (zL hN rfl s0), (zU hN rfl), (zU hN rfl), (zU hN rfl), (zU hN rfl), (zU hN rfl), zx, hl0, hlc0, hlk0, hb, zx, hbl, hT, hR, htcr, htc0, htc1, hB5, hB10, hB15, hB21, hc28, hk28, hk36, hB46, htc0⟩
   rintro a52 w52 hN52 hd52 ⟨o9, s52_0, s52_6, s52_7, s52_8, s52_9, s52_10, ho9, hlo9, hlco9, hlko9, hb, zl_w52, hbl, hT, hR, htcr, htc0, htc1, hB5, hB10, hB15, hB21, hc28, hk28, hk36, hx10, htco9⟩
   have := hb.size
   refine zF fun K62 hK62 => ?_
   refine zH ?_
   refine zM fld55_0 (zC hN52 rfl s52_10) ?_
   refine zN (v := (Value.string (bs (D.getD o9 default).t.nm))) one9 (zA hN52 rfl) (hx10.cell rfl) ?_
   refine zM fld45_7 (zC hN52 rfl s52_7) ?_
   have hB21_old := hB21
   refine za (vs := [(.string (bs (D.getD o9 default).t.nm))]) (cs' := [(.int .i64 6), (.string (bs (D.getD r default).t.nm)), (.string (bs [])), (.slice none 0 0), (.slice none 0 0), (.slice none 0 0), (.slice none 0 0), (.string (bs (D.getD o9 default).t.nm)), (.slice none 0 0), (.slice none 0 0), (.slice none 0 0), (.bool false), (.slice none 0 0)]) size9 (zA hN52 rfl) (zA hN52 rfl) rfl rfl rfl hB21 (zI rfl) rfl ?_
   intro w65 hB21 E66
   have := E66.size
   have hbl := hbl.keep E66 sR
   have hT := hT.keep E66 sO
   have hR := hR.keep E66 sO
   have htcr := htcr.keep E66 sO
   have htc0 := htc0.keep E66 sO
   have htc1 := htc1.keep E66 sO
   have hB5 := hB5.keep E66 (sN hB5 hB21_old)
   have hB10 := hB10.keep E66 (sN hB10 hB21_old)
   have hB15 := hB15.keep E66 sB
   have hc28 := hc28.keepX hB21_old E66 zz
   have hk28 := hk28.keepX hB21_old E66 zz
   have hk36 := hk36.keepG (Gr.of E66) (Dj.one dj22)
   have hx10 := hx10.keep E66 (sN hx10 hB21_old)
   have htco9 := htco9.keep E66 sO
   have hb := hb.step1 E66 zx
   refine zB ?_
   refine hK62 _ _ (zF fun K67 hK67 => ?_)
   refine zH ?_
   refine zY agg55 rfl (zC hN52 rfl s52_10) hx10 ?_
   refine zj ok21 (Cols_ret (nm := ((D.getD o9 default).t.nm)) zx (htco9.mono (Nat.zero_le _) zx)) ⟨(zA hN52 rfl), trivial⟩ ?_
   rintro _ w69 ⟨E70, av68, bv68, rfl, hc68, hk68⟩
   have ap71 : ∀ k, av28.ownBlock = some k → k < w65.heap.size ∨ w69.heap.size ≤ k := fun k hk => .inl ((hc28.lt k hk).2)
   have ap72 : ∀ k, av28.ownBlock = some k → k < w65.heap.size ∨ w69.heap.size ≤ k := fun k hk => .inl ((hc28.lt k hk).2)
   have ap73 : ∀ k, bv28.ownBlock = some k → k < w65.heap.size ∨ w69.heap.size ≤ k := fun k hk => .inl ((hk28.lt k hk).2)
   have E70 := zQ E70
   have := E70.size
   have hbl := hbl.keep0 E70
   have hT := hT.keep0 E70
   have hR := hR.keep0 E70
   have htcr := htcr.keep0 E70
   have htc0 := htc0.keep0 E70
   have htc1 := htc1.keep0 E70
   have hc28 := hc28.keep0 E70
   have hk28 := hk28.keep0 E70
   obtain ⟨hB5, hB10, hB15⟩ := kb3 E70 hB5 hB10 hB15
   have hk36 := hk36.keepG (zi E70 NoB) (fun _ _ h => h)
   have hB21 := hB21.keep0 E70
   have hb := hb.step0 E70
   refine zG (zA hN52 rfl) ?_
   refine zW (zA hN52 rfl) rfl ?_
   refine zW (zA hN52 rfl) rfl ?_
   refine zD (zA hN52 rfl) ?_
   refine zD (zA hN52 rfl) ?_
   refine zB ?_
   refine hK67 _ _ (zF fun K75 hK75 => ?_)
   refine zH ?_
   refine zG (zC hN52 rfl s52_8) ?_
   refine zG (zA hN52 rfl) ?_
   have hP81 := hc28
   refine op_append slt22 (zA hN52 rfl) hP81 (zA hN52 rfl) (Src.ofRd Try.underlying22 zz hc68 (one_pi _)) (by unfold maxLen; omega) zx (by first | exact Nat.le_trans (by assumption) hb.size | (have := hb.size; omega)) ?_
   intro v76 w77 hO79 E78 hm80
   have dj82 : Dj (fun k => k = p) (Bl v76) := Dj.step hm80 (fun k hk => (hk36.lt k hk).2) dj31
   have := E78.size
   have hbl := hbl.keepO hP81 E78 zx
   have hT := hT.keepO hP81 E78 zx
   have hR := hR.keepO hP81 E78 zx
   have htcr := htcr.keepO hP81 E78 zx
   have htc0 := htc0.keepO hP81 E78 zx
   have htc1 := htc1.keepO hP81 E78 zx
   have hB5 := hB5.keepO hP81 E78 zz
   have hB10 := hB10.keepO hP81 E78 zz
   have hB15 := hB15.keepO hP81 E78 zz
   have hk28 := hk28.keepT hP81 E78 zz
   have hk36 := hk36.keepG (Gr.of E78) dj31
   have hB21 := hB21.keepO hP81 E78 zz
   have hc68 := hc68.keep E78 ap71
   have hk68 := hk68.keep E78 ap72
   have hb := hb.stepO hP81 E78 zx
   have hO79 : Own w77 w25.heap.size 63 3 v76 ((colsOf ((D.getD r default).t.nm) ((D.getD r default).t.cols)).length + (colsOf ((D.getD o9 default).t.nm) ((D.getD o9 default).t.cols)).length) ((((colsOf ((D.getD r default).t.nm) ((D.getD r default).t.cols)) ++ (colsOf ((D.getD o9 default).t.nm) ((D.getD o9 default).t.cols)))).flatMap cellsI) := by simpa [u8v, u16v, sv, cellsI] using hO79
   refine zG (zC hN52 rfl s52_9) ?_
   refine zG (zA hN52 rfl) ?_
   have hP88 := hk28
   refine op_append slt23 (zA hN52 rfl) hP88 (zA hN52 rfl) (Src.ofRd Try.underlying23 zz hk68 (one_i64 _)) (by unfold maxLen; omega) zx (by first | exact Nat.le_trans (by assumption) hb.size | (have := hb.size; omega)) ?_
   intro v83 w84 hO86 E85 hm87
   have dj89 : Dj (fun k => k = p) (Bl v83) := Dj.step hm87 (fun k hk => (hk36.lt k hk).2) dj32
   have := E85.size
   have hbl := hbl.keepO hP88 E85 zx
   have hT := hT.keepO hP88 E85 zx
   have hR := hR.keepO hP88 E85 zx
   have htcr := htcr.keepO hP88 E85 zx
   have htc0 := htc0.keepO hP88 E85 zx
   have htc1 := htc1.keepO hP88 E85 zx
   have hB5 := hB5.keepO hP88 E85 zz
   have hB10 := hB10.keepO hP88 E85 zz
   have hB15 := hB15.keepO hP88 E85 zz
   have hk36 := hk36.keepG (Gr.of E85) dj32
   have hB21 := hB21.keepO hP88 E85 zz
   have hc68 := hc68.keep E85 ap73
   have hO79 := hO79.keepT hP88 E85 zz
   have hb := hb.stepO hP88 E85 zx
   have hO86 : Own w84 w25.heap.size 3 1 v83 ((kindsOf ((D.getD r default).t.cols)).length + (kindsOf ((D.getD o9 default).t.cols)).length) ((((kindsOf ((D.getD r default).t.cols)) ++ (kindsOf ((D.getD o9 default).t.cols)))).map (Value.int .i64)) := by simpa [u8v, u16v, sv, cellsI] using hO86
   refine zD (zA hN52 rfl) ?_
   refine zD (zA hN52 rfl) ?_
   refine zB ?_
   refine hK75 _ _ (zF fun K90 hK90 => ?_)
   refine zH ?_
   refine zG (zC hN52 rfl s52_0) ?_
   refine zj ok35 (Num_ret (m := 2) hk36 zx hbl zx zx) ⟨(zA hN52 rfl), ⟨rfl, trivial⟩⟩ ?_
   rintro _ w92 ⟨E93, r91, rfl, hr91, n91, hk91, hn91, hn91x⟩
   have hk36_old := hk36
   have := E93.size
   have hbl := hbl.keepG E93 (fun k hk => .inr (by have := hk36_old.lt k hk; omega))
   have hT := hT.keepG E93 sP
   have hR := hR.keepG E93 sP
   have htcr := htcr.keepG E93 sP
   have htc0 := htc0.keepG E93 sP
   have htc1 := htc1.keepG E93 sP
   have hB5 := hB5.keepG E93 dj6
   have hB10 := hB10.keepG E93 dj11
   have hB15 := hB15.keepG E93 dj16
   have hB21 := hB21.keepG E93 dj22
   have hc68 := hc68.keepG E93 sP
   have hO79 := hO79.keepG E93 dj82.symm
   have hO86 := hO86.keepG E93 dj89.symm
   have hb := hb.stepF E93 (fun _ _ h => h)
   refine op_add rfl (zA hN52 rfl) (add64 zx) ?_
   refine zD (zA hN52 rfl) ?_
   refine zB ?_
   refine hK90 _ _ (zF fun K94 hK94 => ?_)
   refine zH ?_
   refine zG (zC hN52 rfl s52_0) ?_
   refine zG (zA hN52 rfl) ?_
   refine zG (zA hN52 rfl) ?_
   refine zG (zA hN52 rfl) ?_
   refine zj ok54 (pcol_ret (k := (1 + ((r91 : Nat) : Int))) hk91 zx hbl (C := ((colsOf ((D.getD r default).t.nm) ((D.getD r default).t.cols)) ++ (colsOf ((D.getD o9 default).t.nm) ((D.getD o9 default).t.cols)))) (K := ((kindsOf ((D.getD r default).t.cols)) ++ (kindsOf ((D.getD o9 default).t.cols)))) (hO79.rdw.cast (by simp) rfl) (hO86.rdw.cast (by simp) rfl) zx zx (by first | omega | (simp only [List.length_append]; omega))) ⟨(zA hN52 rfl), ⟨(zA hN52 rfl), ⟨(zA hN52 rfl), ⟨(zA hN52 rfl), trivial⟩⟩⟩⟩ ?_
   rintro _ w96 ⟨E97, e95, bb95, rfl, he95, hg95, n95, hk95, hn95⟩
   have hk91_old := hk91
   have := E97.size
   have hbl := hbl.keepG E97 (fun k hk => .inr (by have := hk91_old.lt k hk; omega))
   have hT := hT.keepG E97 sP
   have hR := hR.keepG E97 sP
   have htcr := htcr.keepG E97 sP
   have htc0 := htc0.keepG E97 sP
   have htc1 := htc1.keepG E97 sP
   have hB5 := hB5.keepG E97 dj6
   have hB10 := hB10.keepG E97 dj11
   have hB15 := hB15.keepG E97 dj16
   have hB21 := hB21.keepG E97 dj22
   have hc68 := hc68.keepG E97 sP
   have hO79 := hO79.keepG E97 dj82.symm
   have hO86 := hO86.keepG E97 dj89.symm
   have hb := hb.stepF E97 (fun _ _ h => h)
   refine zG (zA hN52 rfl) ?_
   refine zW (zA hN52 rfl) rfl ?_
   refine zW (zA hN52 rfl) rfl ?_
   refine op_alloc (cs := [(.int .i64 0), (.int .i64 0), (.int .i64 0), (.string (bs [])), (.string (bs [])), (.string (bs [])), (.slice none 0 0)]) zero28 rfl ?_
   intro w98 b99 lo_b99 hi_b99 hB101 E100
   have dj102 : ¬ (fun k => k = p) b99 := fun hf => by have := (hk95.lt _ hf).2; omega
   have := E100.size
   have hbl := hbl.keep0 E100
   have hT := hT.keep0 E100
   have hR := hR.keep0 E100
   have htcr := htcr.keep0 E100
   have htc0 := htc0.keep0 E100
   have htc1 := htc1.keep0 E100
   have hc68 := hc68.keep0 E100
   have hO79 := hO79.keep0 E100
   have hO86 := hO86.keep0 E100
   obtain ⟨hB5, hB10, hB15, hB21⟩ := kb4 E100 hB5 hB10 hB15 hB21
   have hk95 := hk95.keepG (zi E100 NoB) (fun _ _ h => h)
   have he95 := he95.keep0 E100
   have hb := hb.step0 E100
   have hB101_old := hB101
   refine zZ size28 (zA hN52 rfl) (zA hN52 rfl) rfl (by simp only [List.all_cons, List.all_nil, Bool.true_and, Bool.and_true, he95.list.1.one]; try rfl) hB101 rfl ?_
   intro w105 hB101 E106
   have := E106.size
   have hbl := hbl.keep E106 sR
   have hT := hT.keep E106 sO
   have hR := hR.keep E106 sO
   have htcr := htcr.keep E106 sO
   have htc0 := htc0.keep E106 sO
   have htc1 := htc1.keep E106 sO
   have hB5 := hB5.keep E106 (sN hB5 hB101_old)
   have hB10 := hB10.keep E106 (sN hB10 hB101_old)
   have hB15 := hB15.keep E106 (sN hB15 hB101_old)
   have hB21 := hB21.keep E106 (sN hB21 hB101_old)
   have hc68 := hc68.keep E106 sO
   have hO79 := hO79.keepX hB101_old E106 zz
   have hO86 := hO86.keepX hB101_old E106 zz
   have hk95 := hk95.keepG (Gr.of E106) (Dj.one dj102)
   have he95 := he95.keep E106 sO
   have hb := hb.step1 E106 zx
   refine zD (zA hN52 rfl) ?_
   refine zB ?_
   refine hK94 _ _ (zF fun K107 hK107 => ?_)
   refine zH ?_
   refine zG (zC hN52 rfl s52_0) ?_
   refine zG (zA hN52 rfl) ?_
   refine zG (zA hN52 rfl) ?_
   refine zG (zA hN52 rfl) ?_
   refine zj ok54 (pcol_ret (k := (1 + ((r91 : Nat) : Int))) hk95 zx hbl (C := ((colsOf ((D.getD r default).t.nm) ((D.getD r default).t.cols)) ++ (colsOf ((D.getD o9 default).t.nm) ((D.getD o9 default).t.cols)))) (K := ((kindsOf ((D.getD r default).t.cols)) ++ (kindsOf ((D.getD o9 default).t.cols)))) (hO79.rdw.cast (by simp) rfl) (hO86.rdw.cast (by simp) rfl) zx zx (by first | omega | (simp only [List.length_append]; omega))) ⟨(zA hN52 rfl), ⟨(zA hN52 rfl), ⟨(zA hN52 rfl), ⟨(zA hN52 rfl), trivial⟩⟩⟩⟩ ?_
   rintro _ w109 ⟨E110, e108, bb108, rfl, he108, hg108, n108, hk108, hn108⟩
   have hk95_old := hk95
   have := E110.size
   have hbl := hbl.keepG E110 (fun k hk => .inr (by have := hk95_old.lt k hk; omega))
   have hT := hT.keepG E110 sP
   have hR := hR.keepG E110 sP
   have htcr := htcr.keepG E110 sP
   have htc0 := htc0.keepG E110 sP
   have htc1 := htc1.keepG E110 sP
   have hB5 := hB5.keepG E110 dj6
   have hB10 := hB10.keepG E110 dj11
   have hB15 := hB15.keepG E110 dj16
   have hB21 := hB21.keepG E110 dj22
   have hc68 := hc68.keepG E110 sP
   have hO79 := hO79.keepG E110 dj82.symm
   have hO86 := hO86.keepG E110 dj89.symm
   have he95 := he95.keepG E110 sP
   have hB101 := hB101.keepG E110 dj102
   have hb := hb.stepF E110 (fun _ _ h => h)
   refine zG (zA hN52 rfl) ?_
   refine zW (zA hN52 rfl) rfl ?_
   refine zW (zA hN52 rfl) rfl ?_
   refine op_alloc (cs := [(.int .i64 0), (.int .i64 0), (.int .i64 0), (.string (bs [])), (.string (bs [])), (.string (bs [])), (.slice none 0 0)]) zero28 rfl ?_
   intro w111 b112 lo_b112 hi_b112 hB114 E113
   have dj115 : ¬ (fun k => k = p) b112 := fun hf => by have := (hk108.lt _ hf).2; omega
   have := E113.size
   have hbl := hbl.keep0 E113
   have hT := hT.keep0 E113
   have hR := hR.keep0 E113
   have htcr := htcr.keep0 E113
   have htc0 := htc0.keep0 E113
   have htc1 := htc1.keep0 E113
   have hc68 := hc68.keep0 E113
   have hO79 := hO79.keep0 E113
   have hO86 := hO86.keep0 E113
   have he95 := he95.keep0 E113
   obtain ⟨hB5, hB10, hB15, hB21, hB101⟩ := kb5 E113 hB5 hB10 hB15 hB21 hB101
   have hk108 := hk108.keepG (zi E113 NoB) (fun _ _ h => h)
   have he108 := he108.keep0 E113
   have hb := hb.step0 E113
   have hB114_old := hB114
   refine zZ size28 (zA hN52 rfl) (zA hN52 rfl) rfl (by simp only [List.all_cons, List.all_nil, Bool.true_and, Bool.and_true, he108.list.1.one]; try rfl) hB114 rfl ?_
   intro w118 hB114 E119
   have := E119.size
   have hbl := hbl.keep E119 sR
   have hT := hT.keep E119 sO
   have hR := hR.keep E119 sO
   have htcr := htcr.keep E119 sO
   have htc0 := htc0.keep E119 sO
   have htc1 := htc1.keep E119 sO
   have hB5 := hB5.keep E119 (sN hB5 hB114_old)
   have hB10 := hB10.keep E119 (sN hB10 hB114_old)
   have hB15 := hB15.keep E119 (sN hB15 hB114_old)
   have hB21 := hB21.keep E119 (sN hB21 hB114_old)
   have hc68 := hc68.keep E119 sO
   have hO79 := hO79.keepX hB114_old E119 zz
   have hO86 := hO86.keepX hB114_old E119 zz
   have he95 := he95.keep E119 sO
   have hB101 := hB101.keep E119 sB
   have hk108 := hk108.keepG (Gr.of E119) (Dj.one dj115)
   have he108 := he108.keep E119 sO
   have hb := hb.step1 E119 zx
   refine zD (zA hN52 rfl) ?_
   refine zB ?_
   refine hK107 _ _ (zH ?_)
   refine zY agg28 rfl (zA hN52 rfl) hB101 ?_
   refine zY agg28 rfl (zA hN52 rfl) hB114 ?_
   refine op_bslice (e := 28) (pv := [(0, (.agg #[(.int .i64 e95.op), (.int .i64 e95.vk), (.int .i64 e95.vi), (.string (bs e95.vt)), (.string (bs e95.tb)), (.string (bs e95.nm)), e95.av])), (1, (.agg #[(.int .i64 e108.op), (.int .i64 e108.vk), (.int .i64 e108.vi), (.string (bs e108.vt)), (.string (bs e108.tb)), (.string (bs e108.nm)), e108.av]))]) (cs := [(.int .i64 e95.op), (.int .i64 e95.vk), (.int .i64 e95.vi), (.string (bs e95.vt)), (.string (bs e95.tb)), (.string (bs e95.nm)), e95.av, (.int .i64 e108.op), (.int .i64 e108.vk), (.int .i64 e108.vi), (.string (bs e108.vt)), (.string (bs e108.tb)), (.string (bs e108.nm)), e108.av]) ⟨rfl, (zA hN52 rfl), ⟨rfl, (zA hN52 rfl), trivial⟩⟩ zy ?_
   intro w120 b121 lo_b121 hi_b121 hB123 E122
   have dj124 : ¬ (fun k => k = p) b121 := fun hf => by have := (hk108.lt _ hf).2; omega
   have := E122.size
   have hbl := hbl.keep0 E122
   have hT := hT.keep0 E122
   have hR := hR.keep0 E122
   have htcr := htcr.keep0 E122
   have htc0 := htc0.keep0 E122
   have htc1 := htc1.keep0 E122
   have hc68 := hc68.keep0 E122
   have hO79 := hO79.keep0 E122
   have hO86 := hO86.keep0 E122
   have he95 := he95.keep0 E122
   obtain ⟨hB5, hB10, hB15, hB21⟩ := kb4 E122 hB5 hB10 hB15 hB21
   have hk108 := hk108.keepG (zi E122 NoB) (fun _ _ h => h)
   have he108 := he108.keep0 E122
   have hb := hb.step0 E122
   refine zM fld45_8 (zC hN52 rfl s52_7) ?_
   have hB21_old := hB21
   refine za (vs := [(.slice (some ⟨b121, 0, none⟩) 2 2)]) (cs' := [(.int .i64 6), (.string (bs (D.getD r default).t.nm)), (.string (bs [])), (.slice none 0 0), (.slice none 0 0), (.slice none 0 0), (.slice none 0 0), (.string (bs (D.getD o9 default).t.nm)), (.slice (some ⟨b121, 0, none⟩) 2 2), (.slice none 0 0), (.slice none 0 0), (.bool false), (.slice none 0 0)]) size26 (zA hN52 rfl) (zA hN52 rfl) rfl rfl rfl hB21 (zI rfl) rfl ?_
   intro w127 hB21 E128
   have := E128.size
   have hbl := hbl.keep E128 sR
   have hT := hT.keep E128 sO
   have hR := hR.keep E128 sO
   have htcr := htcr.keep E128 sO
   have htc0 := htc0.keep E128 sO
   have htc1 := htc1.keep E128 sO
   have hB5 := hB5.keep E128 (sN hB5 hB21_old)
   have hB10 := hB10.keep E128 (sN hB10 hB21_old)
   have hB15 := hB15.keep E128 sB
   have hc68 := hc68.keep E128 sO
   have hO79 := hO79.keepX hB21_old E128 zz
   have hO86 := hO86.keepX hB21_old E128 zz
   have he95 := he95.keep E128 sO
   have hk108 := hk108.keepG (Gr.of E128) (Dj.one dj22)
   have he108 := he108.keep E128 sO
   have hB123 := hB123.keep E128 (sN hB123 hB21_old)
   have hb := hb.step1 E128 zx
   refine zB ?_
   refine hK34 _ _ ?_
   exact hJ33 _ _ _ hN52 hd52 ⟨(D.getD o9 default).t.nm, (.slice (some ⟨b121, 0, none⟩) 2 2), v76, v83, [e95, e108], ((colsOf ((D.getD r default).t.nm) ((D.getD r default).t.cols)) ++ (colsOf ((D.getD o9 default).t.nm) ((D.getD o9 default).t.cols))), ((kindsOf ((D.getD r default).t.cols)) ++ (kindsOf ((D.getD o9 default).t.cols))), w127.heap.size, n108, (zL hN52 rfl s52_0), (zL hN52 rfl s52_6), (zL hN52 rfl s52_7), (zU hN52 rfl), (zU hN52 rfl), (by first | omega | (simp only [List.length_append]; omega)), (Nat.le_refl _), zx, zx, hb, zx, hbl, hT, hR, htcr, htc0, htc1, hB5, hB10, hB15, (hO79.rdw.cast (by simp) rfl), (hO86.rdw.cast (by simp) rfl), hB21, hk108, (XsFr.lit2 (x := e95) (x2 := e108) hB123 zx hB123.lt (he95.mono zx zx) (he108.mono zx zx))⟩
  refine zB ?_
  refine hK35 _ _ (wp_cond_false (zA hN rfl) (wp_skip (hK34 _ _ ?_)))
  exact hJ33 _ _ _ hN hd ⟨[], (.slice none 0 0), av28, bv28, [], (colsOf ((D.getD r default).t.nm) ((D.getD r default).t.cols)), (kindsOf ((D.getD r default).t.cols)), w37.heap.size, n36, (zL hN rfl s0), (zU hN rfl), (zU hN rfl), (zU hN rfl), (zU hN rfl), (by first | omega | (simp only [List.length_append]; omega)), (Nat.le_refl _), zx, zx, hb, zx, hbl, hT, hR, htcr, htc0, htc1, hB5, hB10, hB15, (hc28.rdw.cast (by simp) rfl), (hk28.rdw.cast (by simp) rfl), hB21, hk36, (XsFr.nil _ _ _)⟩
 rintro a33 w33 hN33 hd33 ⟨jo9, ov9, cv9, kv9, on9, C9, K9, B9, n9, s33_0, s33_6, s33_7, s33_8, s33_9, hC9, hB9, hB8, hn9, hb, zl_w33, hbl, hT, hR, htcr, htc0, htc1, hB5, hB10, hB15, hC8, hK8, hx7, hpk, hov9⟩
 have := hb.size
 refine zF fun K129 hK129 => ?_
 refine zH ?_
 refine zG (zC hN33 rfl s33_0) ?_
 refine zG (zC hN33 rfl s33_8) ?_
 refine zG (zC hN33 rfl s33_9) ?_
 refine zj ok67 (pwhere_ret hpk zx hbl (C := C9) (K := K9) hC8 hK8 zx zx (by first | omega | (simp only [List.length_append]; omega))) ⟨(zA hN33 rfl), ⟨(zA hN33 rfl), ⟨(zA hN33 rfl), trivial⟩⟩⟩ ?_
 rintro wv130 w131 ⟨E132, wh130, hw130, n130, hk130, hn130⟩
 have hpk_old := hpk
 have := E132.size
 have hbl := hbl.keepG E132 (fun k hk => .inr (by have := hpk_old.lt k hk; omega))
 have hT := hT.keepG E132 sP
 have hR := hR.keepG E132 sP
 have htcr := htcr.keepG E132 sP
 have htc0 := htc0.keepG E132 sP
 have htc1 := htc1.keepG E132 sP
 have hB5 := hB5.keepG E132 dj6
 have hB10 := hB10.keepG E132 dj11
 have hB15 := hB15.keepG E132 dj16
 have hC8 := hC8.keepG E132 sP
 have hK8 := hK8.keepG E132 sP
 have hx7 := hx7.keepG E132 dj22
 have hov9 := hov9.keepG E132 sP
 have hb := hb.stepF E132 (fun _ _ h => h)
 refine zM fld45_9 (zC hN33 rfl s33_7) ?_
 have hx7_old := hx7
 refine za (vs := [wv130]) (cs' := [(.int .i64 6), (.string (bs (D.getD r default).t.nm)), (.string (bs [])), (.slice none 0 0), (.slice none 0 0), (.slice none 0 0), (.slice none 0 0), (.string (bs jo9)), ov9, wv130, (.slice none 0 0), (.bool false), (.slice none 0 0)]) size26 (zA hN33 rfl) (zA hN33 rfl) hw130.1.cl rfl (by simp only [List.all_cons, List.all_nil, Bool.true_and, Bool.and_true, hw130.1.one]; try rfl) hx7 (zI rfl) rfl ?_
 intro w135 hx7 E136
 have := E136.size
 have hbl := hbl.keep E136 sR
 have hT := hT.keep E136 sO
 have hR := hR.keep E136 sO
 have htcr := htcr.keep E136 sO
 have htc0 := htc0.keep E136 sO
 have htc1 := htc1.keep E136 sO
 have hB5 := hB5.keep E136 (sN hB5 hx7_old)
 have hB10 := hB10.keep E136 (sN hB10 hx7_old)
 have hB15 := hB15.keep E136 sB
 have hC8 := hC8.keep E136 sO
 have hK8 := hK8.keep E136 sO
 have hov9 := hov9.keep E136 sO
 have hk130 := hk130.keepG (Gr.of E136) (Dj.one dj22)
 have hw130 := hw130.keep E136 sO
 have hb := hb.step1 E136 zx
 refine zB ?_
 refine hK129 _ _ ?_
 refine seq_join1 (N := 173) (fun az_ w' => ∃ (iv9 : Value) (I9 : List PItm) (B7 n7 : Nat), (az_.tmps.getD 0 undef = (ptr p 0)) ∧ (az_.tmps.getD 6 undef = (ptr b13 0)) ∧ (az_.tmps.getD 7 undef = (ptr b19 0)) ∧ (az_.tmps.getD 8 undef = cv9) ∧ (az_.tmps.getD 9 undef = kv9) ∧ (B7 ≤ w'.heap.size) ∧ (w.heap.size ≤ B7) ∧ (n ≤ n7) ∧ (Gr w w' (fun k => k = p)) ∧ (w135.heap.size ≤ w'.heap.size) ∧ (RdC w' 0 Bp 1 lv bl.length (bl.map u8v)) ∧ (TsFr w' Ls Bs tv D) ∧ (RdC w' Ls Bs 3 tv D.length (D.flatMap cellsT)) ∧ (RdC w' Ls Bs 3 (D.getD r default).cv ((D.getD r default).t.cols).length (((D.getD r default).t.cols).flatMap cellsC)) ∧ (RdC w' Ls Bs 3 (D.getD 0 default).cv ((D.getD 0 default).t.cols).length (((D.getD 0 default).t.cols).flatMap cellsC)) ∧ (RdC w' Ls Bs 3 (D.getD 1 default).cv ((D.getD 1 default).t.cols).length (((D.getD 1 default).t.cols).flatMap cellsC)) ∧ (Bx w' b3 39 [tv, (.slice none 0 0)]) ∧ (Bx w' b8 55 [(.string (bs (D.getD r default).t.nm)), (D.getD r default).cv, (D.getD r default).iv]) ∧ (Bx w' b13 45 [(.int .i64 0), (.string (bs [])), (.string (bs [])), (.slice none 0 0), (.slice none 0 0), (.slice none 0 0), (.slice none 0 0), (.string (bs [])), (.slice none 0 0), (.slice none 0 0), (.slice none 0 0), (.bool false), (.slice none 0 0)]) ∧ (RdC w' w25.heap.size B9 3 cv9 C9.length (C9.flatMap cellsI)) ∧ (RdC w' w25.heap.size B9 1 kv9 K9.length (K9.map (Value.int .i64))) ∧ (XsFr w' w25.heap.size B9 ov9 on9) ∧ (XsFr w' w33.heap.size w131.heap.size wv130 wh130) ∧ (RdC w' w25.heap.size B7 3 iv9 I9.length (I9.flatMap cellsI)) ∧ (Bx w' b19 45 [(.int .i64 6), (.string (bs (D.getD r default).t.nm)), (.string (bs [])), (.slice none 0 0), (.slice none 0 0), (.slice none 0 0), iv9, (.string (bs jo9)), ov9, wv130, (.slice none 0 0), (.bool false), (.slice none 0 0)]) ∧ (PickR w' base p lv bl n7 (fun k => k = p))) (fun hJ137 => ?_) ?_
 ·
  refine zF fun K138 hK138 => ?_
  refine zF fun K139 hK139 => ?_
  refine zH ?_
  refine zG (zC hN33 rfl s33_0) ?_
  refine zj ok35 (Num_ret (m := 4) hk130 zx hbl zx zx) ⟨(zA hN33 rfl), ⟨rfl, trivial⟩⟩ ?_
  rintro _ w141 ⟨E142, r140, rfl, hr140, n140, hk140, hn140, hn140x⟩
  have hk130_old := hk130
  have := E142.size
  have hbl := hbl.keepG E142 (fun k hk => .inr (by have := hk130_old.lt k hk; omega))
  have hT := hT.keepG E142 sP
  have hR := hR.keepG E142 sP
  have htcr := htcr.keepG E142 sP
  have htc0 := htc0.keepG E142 sP
  have htc1 := htc1.keepG E142 sP
  have hB5 := hB5.keepG E142 dj6
  have hB10 := hB10.keepG E142 dj11
  have hB15 := hB15.keepG E142 dj16
  have hC8 := hC8.keepG E142 sP
  have hK8 := hK8.keepG E142 sP
  have hov9 := hov9.keepG E142 sP
  have hw130 := hw130.keepG E142 sP
  have hx7 := hx7.keepG E142 dj22
  have hb := hb.stepF E142 (fun _ _ h => h)
  refine zB ?_
  refine hK139 _ _ (wp_block ?_)
  refine zF fun K143 hK143 => ?_
  refine zH ?_
  refine op_eql (zA hN33 rfl) rfl (fun c93 => ?_) (fun c93 => ?_)
  ·
   refine zD (zA hN33 rfl) ?_
   refine zB ?_
   refine hK143 _ _ (wp_cond_true (zA hN33 rfl) (zF fun K144 hK144 => ?_))
   refine zH ?_
   refine zf (pv := [(0, (.int .i64 1))]) (v := (Value.agg #[(.int .i64 1), (.string (bs [])), (.string (bs []))])) ⟨rfl, rfl, trivial⟩ zy ?_
   refine op_bslice (e := 63) (pv := [(0, (.agg #[(.int .i64 1), (.string (bs [])), (.string (bs []))]))]) (cs := [(.int .i64 1), (.string (bs [])), (.string (bs []))]) ⟨rfl, (zA hN33 rfl), trivial⟩ zy ?_
   intro w145 b146 lo_b146 hi_b146 hB148 E147
   have dj149 : ¬ (fun k => k = p) b146 := fun hf => by have := (hk140.lt _ hf).2; omega
   have := E147.size
   have hbl := hbl.keep0 E147
   have hT := hT.keep0 E147
   have hR := hR.keep0 E147
   have htcr := htcr.keep0 E147
   have htc0 := htc0.keep0 E147
   have htc1 := htc1.keep0 E147
   have hC8 := hC8.keep0 E147
   have hK8 := hK8.keep0 E147
   have hov9 := hov9.keep0 E147
   have hw130 := hw130.keep0 E147
   obtain ⟨hB5, hB10, hB15, hx7⟩ := kb4 E147 hB5 hB10 hB15 hx7
   have hk140 := hk140.keepG (zi E147 NoB) (fun _ _ h => h)
   have hb := hb.step0 E147
   refine zM fld45_6 (zC hN33 rfl s33_7) ?_
   have hx7_old := hx7
   refine za (vs := [(.slice (some ⟨b146, 0, none⟩) 1 1)]) (cs' := [(.int .i64 6), (.string (bs (D.getD r default).t.nm)), (.string (bs [])), (.slice none 0 0), (.slice none 0 0), (.slice none 0 0), (.slice (some ⟨b146, 0, none⟩) 1 1), (.string (bs jo9)), ov9, wv130, (.slice none 0 0), (.bool false), (.slice none 0 0)]) size22 (zA hN33 rfl) (zA hN33 rfl) rfl rfl rfl hx7 (zI rfl) rfl ?_
   intro w152 hx7 E153
   have := E153.size
   have hbl := hbl.keep E153 sR
   have hT := hT.keep E153 sO
   have hR := hR.keep E153 sO
   have htcr := htcr.keep E153 sO
   have htc0 := htc0.keep E153 sO
   have htc1 := htc1.keep E153 sO
   have hB5 := hB5.keep E153 (sN hB5 hx7_old)
   have hB10 := hB10.keep E153 (sN hB10 hx7_old)
   have hB15 := hB15.keep E153 sB
   have hC8 := hC8.keep E153 sO
   have hK8 := hK8.keep E153 sO
   have hov9 := hov9.keep E153 sO
   have hw130 := hw130.keep E153 sO
   have hk140 := hk140.keepG (Gr.of E153) (Dj.one dj22)
   have hB148 := hB148.keep E153 (sN hB148 hx7_old)
   have hb := hb.step1 E153 zx
   refine zB ?_
   refine hK144 _ _ (zF fun K154 hK154 => ?_)
   refine zF fun K155 hK155 => ?_
   refine zH ?_
   refine zG (zC hN33 rfl s33_0) ?_
   refine zj ok35 (Num_ret (m := 3) hk140 zx hbl zx zx) ⟨(zA hN33 rfl), ⟨rfl, trivial⟩⟩ ?_
   rintro _ w157 ⟨E158, r156, rfl, hr156, n156, hk156, hn156, hn156x⟩
   have hk140_old := hk140
   have := E158.size
   have hbl := hbl.keepG E158 (fun k hk => .inr (by have := hk140_old.lt k hk; omega))
   have hT := hT.keepG E158 sP
   have hR := hR.keepG E158 sP
   have htcr := htcr.keepG E158 sP
   have htc0 := htc0.keepG E158 sP
   have htc1 := htc1.keepG E158 sP
   have hB5 := hB5.keepG E158 dj6
   have hB10 := hB10.keepG E158 dj11
   have hB15 := hB15.keepG E158 dj16
   have hC8 := hC8.keepG E158 sP
   have hK8 := hK8.keepG E158 sP
   have hov9 := hov9.keepG E158 sP
   have hw130 := hw130.keepG E158 sP
   have hB148 := hB148.keepG E158 dj149
   have hx7 := hx7.keepG E158 dj22
   have hb := hb.stepF E158 (fun _ _ h => h)
   refine zD (zA hN33 rfl) ?_
   refine zB ?_
   refine hK155 _ _ (wp_block ?_)
   refine loop_m (fun mz_ az_ w' => ∃ (i n2 : Nat) (lv2 : Value) (I2 : List PItm), mz_ = (i + 1) ∧ (az_.tmps.getD 0 undef = (ptr p 0)) ∧ (az_.tmps.getD 6 undef = (ptr b13 0)) ∧ (az_.tmps.getD 7 undef = (ptr b19 0)) ∧ (az_.tmps.getD 8 undef = cv9) ∧ (az_.tmps.getD 9 undef = kv9) ∧ (az_.tmps.getD 18 undef = (.int .i64 ((i : Nat) : Int))) ∧ (I2.length + i ≤ 3) ∧ (n ≤ n2) ∧ (Gr w w' (fun k => k = p)) ∧ (w157.heap.size ≤ w'.heap.size) ∧ (RdC w' 0 Bp 1 lv bl.length (bl.map u8v)) ∧ (TsFr w' Ls Bs tv D) ∧ (RdC w' Ls Bs 3 tv D.length (D.flatMap cellsT)) ∧ (RdC w' Ls Bs 3 (D.getD r default).cv ((D.getD r default).t.cols).length (((D.getD r default).t.cols).flatMap cellsC)) ∧ (RdC w' Ls Bs 3 (D.getD 0 default).cv ((D.getD 0 default).t.cols).length (((D.getD 0 default).t.cols).flatMap cellsC)) ∧ (RdC w' Ls Bs 3 (D.getD 1 default).cv ((D.getD 1 default).t.cols).length (((D.getD 1 default).t.cols).flatMap cellsC)) ∧ (Bx w' b3 39 [tv, (.slice none 0 0)]) ∧ (Bx w' b8 55 [(.string (bs (D.getD r default).t.nm)), (D.getD r default).cv, (D.getD r default).iv]) ∧ (Bx w' b13 45 [(.int .i64 0), (.string (bs [])), (.string (bs [])), (.slice none 0 0), (.slice none 0 0), (.slice none 0 0), (.slice none 0 0), (.string (bs [])), (.slice none 0 0), (.slice none 0 0), (.slice none 0 0), (.bool false), (.slice none 0 0)]) ∧ (RdC w' w25.heap.size B9 3 cv9 C9.length (C9.flatMap cellsI)) ∧ (RdC w' w25.heap.size B9 1 kv9 K9.length (K9.map (Value.int .i64))) ∧ (XsFr w' w25.heap.size B9 ov9 on9) ∧ (XsFr w' w33.heap.size w131.heap.size wv130 wh130) ∧ (Bx w' b19 45 [(.int .i64 6), (.string (bs (D.getD r default).t.nm)), (.string (bs [])), (.slice none 0 0), (.slice none 0 0), (.slice none 0 0), lv2, (.string (bs jo9)), ov9, wv130, (.slice none 0 0), (.bool false), (.slice none 0 0)]) ∧ (PickR w' base p lv bl n2 (fun k => k = p)) ∧ (Own w' b146 63 3 lv2 I2.length (I2.flatMap cellsI))) _ hN33 hd33 ⟨_, _, (.slice (some ⟨b146, 0, none⟩) 1 1), [PItm.mk 1 [] []], rfl, (zL hN33 rfl s33_0), (zL hN33 rfl s33_6), (zL hN33 rfl s33_7), (zL hN33 rfl s33_8), (zL hN33 rfl s33_9), (zU hN33 rfl), (by simp; omega), zx, hb, (Nat.le_refl _), hbl, hT, hR, htcr, htc0, htc1, hB5, hB10, hB15, hC8, hK8, hov9, hw130, hx7, hk156, ((Own.ofBx (base := b146) (sz := 3) (n := 1) hB148 rfl zz zx).cast rfl (by simp [cellsI]))⟩ ?_
   rintro _ a159 w159 hN159 hd159 ⟨i, n2, lv2, I2, rfl, s159_0, s159_6, s159_7, s159_8, s159_9, s159_18, hil, hn2, hb, zl_w159, hbl, hT, hR, htcr, htc0, htc1, hB5, hB10, hB15, hC8, hK8, hov9, hw130, hxl, hpk, hO160⟩
   have := hb.size
   refine zF fun K161 hK161 => ?_
   refine zF fun K162 hK162 => ?_
   refine zH ?_
   refine zG (zC hN159 rfl s159_18) ?_
   refine op_gtr (zA hN159 rfl) rfl (fun c100 => ?_) (fun c100 => ?_)
   ·
    refine zB ?_
    refine hK162 _ _ (wp_cond_true (zA hN159 rfl) (wp_skip (hK161 _ _ (zF fun K163 hK163 => ?_))))
    refine wp_block ?_
    refine zF fun K164 hK164 => ?_
    refine zH ?_
    refine zG (zC hN159 rfl s159_0) ?_
    refine zG (zC hN159 rfl s159_8) ?_
    refine zG (zC hN159 rfl s159_9) ?_
    refine zj ok54 (pcol_ret (k := 1) hpk zx hbl (C := C9) (K := K9) hC8 hK8 zx zx (by first | omega | (simp only [List.length_append]; omega))) ⟨(zA hN159 rfl), ⟨(zA hN159 rfl), ⟨(zA hN159 rfl), ⟨rfl, trivial⟩⟩⟩⟩ ?_
    rintro _ w166 ⟨E167, e165, bb165, rfl, he165, hg165, n165, hk165, hn165⟩
    have hpk_old := hpk
    have := E167.size
    have hbl := hbl.keepG E167 (fun k hk => .inr (by have := hpk_old.lt k hk; omega))
    have hT := hT.keepG E167 sP
    have hR := hR.keepG E167 sP
    have htcr := htcr.keepG E167 sP
    have htc0 := htc0.keepG E167 sP
    have htc1 := htc1.keepG E167 sP
    have hB5 := hB5.keepG E167 dj6
    have hB10 := hB10.keepG E167 dj11
    have hB15 := hB15.keepG E167 dj16
    have hC8 := hC8.keepG E167 sP
    have hK8 := hK8.keepG E167 sP
    have hov9 := hov9.keepG E167 sP
    have hw130 := hw130.keepG E167 sP
    have hxl := hxl.keepG E167 dj22
    have hO160 := hO160.keepG E167 (hpk_old.notOwn hO160 zz)
    have hb := hb.stepF E167 (fun _ _ h => h)
    refine zG (zA hN159 rfl) ?_
    refine zW (zA hN159 rfl) rfl ?_
    refine zW (zA hN159 rfl) rfl ?_
    refine op_alloc (cs := [(.int .i64 0), (.int .i64 0), (.int .i64 0), (.string (bs [])), (.string (bs [])), (.string (bs [])), (.slice none 0 0)]) zero28 rfl ?_
    intro w168 b169 lo_b169 hi_b169 hB171 E170
    have dj172 : ¬ (fun k => k = p) b169 := fun hf => by have := (hk165.lt _ hf).2; omega
    have := E170.size
    have hbl := hbl.keep0 E170
    have hT := hT.keep0 E170
    have hR := hR.keep0 E170
    have htcr := htcr.keep0 E170
    have htc0 := htc0.keep0 E170
    have htc1 := htc1.keep0 E170
    have hC8 := hC8.keep0 E170
    have hK8 := hK8.keep0 E170
    have hov9 := hov9.keep0 E170
    have hw130 := hw130.keep0 E170
    have hO160 := hO160.keep0 E170
    obtain ⟨hB5, hB10, hB15, hxl⟩ := kb4 E170 hB5 hB10 hB15 hxl
    have hk165 := hk165.keepG (zi E170 NoB) (fun _ _ h => h)
    have he165 := he165.keep0 E170
    have hb := hb.step0 E170
    have hB171_old := hB171
    refine zZ size28 (zA hN159 rfl) (zA hN159 rfl) rfl (by simp only [List.all_cons, List.all_nil, Bool.true_and, Bool.and_true, he165.list.1.one]; try rfl) hB171 rfl ?_
    intro w175 hB171 E176
    have := E176.size
    have hbl := hbl.keep E176 sR
    have hT := hT.keep E176 sO
    have hR := hR.keep E176 sO
    have htcr := htcr.keep E176 sO
    have htc0 := htc0.keep E176 sO
    have htc1 := htc1.keep E176 sO
    have hB5 := hB5.keep E176 (sN hB5 hB171_old)
    have hB10 := hB10.keep E176 (sN hB10 hB171_old)
    have hB15 := hB15.keep E176 (sN hB15 hB171_old)
    have hC8 := hC8.keep E176 sO
    have hK8 := hK8.keep E176 sO
    have hov9 := hov9.keep E176 sO
    have hw130 := hw130.keep E176 sO
    have hxl := hxl.keep E176 (sN hxl hB171_old)
    have hO160 := hO160.keepX hB171_old E176 zz
    have hk165 := hk165.keepG (Gr.of E176) (Dj.one dj172)
    have hb := hb.step1 E176 zx
    refine zD (zA hN159 rfl) ?_
    refine zB ?_
    refine hK164 _ _ ?_
    skip
    refine reg_split (hd := [_, _, _, _, _, _, _, _, _, _, _, _]) (tl := _) 12 mixed zy rfl rfl ?_
    refine any_tree (φ := phiV [(fun uz => uz = (ptr b19 6)), (fun uz => uz = lv2), (fun uz => uz = (ptr p 0)), (fun _ => True), (fun _ => True), (fun uz => uz = (ptr b169 4)), (fun uz => uz = (.string (bs e165.tb))), (fun uz => uz = (ptr b169 5)), (fun uz => uz = (.string (bs e165.nm))), (fun _ => True), (fun _ => True), (fun _ => True)]) (G := fun w' => Bx w' b19 45 [(.int .i64 6), (.string (bs (D.getD r default).t.nm)), (.string (bs [])), (.slice none 0 0), (.slice none 0 0), (.slice none 0 0), lv2, (.string (bs jo9)), ov9, wv130, (.slice none 0 0), (.bool false), (.slice none 0 0)] ∧ Bx w' b169 28 [(.int .i64 e165.op), (.int .i64 e165.vk), (.int .i64 e165.vi), (.string (bs e165.vt)), (.string (bs e165.tb)), (.string (bs e165.nm)), e165.av]) [3, 4, 9, 10, 11] zy zy zy zy zy hN159 (fun w1 w2 E h => by obtain ⟨h0, h1⟩ := h; exact ⟨h0.keep0 E, h1.keep0 E⟩) ⟨hxl, hB171⟩ (ObRs9.cons ?_ (ObRs9.cons ?_ (ObRs9.cons ?_ (ObRs9.pass rfl (ObRs9.pass rfl (ObRs9.cons ?_ (ObRs9.cons ?_ (ObRs9.cons ?_ (ObRs9.cons ?_ (ObRs9.pass rfl (ObRs9.pass rfl (ObRs9.pass rfl (ObRs9.nil))))))))))))) (by simp only [putsL_defers]) ?_
    ·
     intro eA aA wA hNA hGA hbsA hdpA
     have qA_7 := (hbsA 7 rfl).trans (zL hN159 rfl s159_7)
     refine zM fld45_6 (zC hNA rfl qA_7) ?_
     exact obT_end rfl rfl
    ·
     intro eA aA wA hNA hGA hbsA hdpA
     have qA_110 : Sl aA 110 (ptr b19 6) := (hdpA 0 _ 110 zy rfl rfl).2 rfl
     obtain ⟨hxl, hB171⟩ := hGA
     refine zN (v := lv2) one22 (zC hNA rfl qA_110) (hxl.cell rfl) ?_
     exact obT_end rfl rfl
    ·
     intro eA aA wA hNA hGA hbsA hdpA
     have qA_0 := (hbsA 0 rfl).trans (zL hN159 rfl s159_0)
     refine zG (zC hNA rfl qA_0) ?_
     exact obT_end rfl rfl
    ·
     intro eA aA wA hNA hGA hbsA hdpA
     have qA_19 := (hbsA 19 rfl).trans (zU hN159 rfl)
     refine zM fld28_2 (zC hNA rfl qA_19) ?_
     exact obT_end rfl rfl
    ·
     intro eA aA wA hNA hGA hbsA hdpA
     have qA_115 : Sl aA 115 (ptr b169 4) := (hdpA 5 _ 115 zy rfl rfl).2 rfl
     obtain ⟨hxl, hB171⟩ := hGA
     refine zN (v := (Value.string (bs e165.tb))) one9 (zC hNA rfl qA_115) (hB171.cell rfl) ?_
     exact obT_end rfl rfl
    ·
     intro eA aA wA hNA hGA hbsA hdpA
     have qA_19 := (hbsA 19 rfl).trans (zU hN159 rfl)
     refine zM fld28_3 (zC hNA rfl qA_19) ?_
     exact obT_end rfl rfl
    ·
     intro eA aA wA hNA hGA hbsA hdpA
     have qA_117 : Sl aA 117 (ptr b169 5) := (hdpA 7 _ 117 zy rfl rfl).2 rfl
     obtain ⟨hxl, hB171⟩ := hGA
     refine zN (v := (Value.string (bs e165.nm))) one9 (zC hNA rfl qA_117) (hB171.cell rfl) ?_
     exact obT_end rfl rfl
    refine kt_step (rs := [3]) zy ?_
    refine one_mem ?_
    intro w178 E178 _ a178 hN178 hbs178 hdp178 o_ ho_; obtain rfl := zE ho_
    have := E178.size
    have hbl := hbl.keep0 E178
    have hT := hT.keep0 E178
    have hR := hR.keep0 E178
    have htcr := htcr.keep0 E178
    have htc0 := htc0.keep0 E178
    have htc1 := htc1.keep0 E178
    have hC8 := hC8.keep0 E178
    have hK8 := hK8.keep0 E178
    have hov9 := hov9.keep0 E178
    have hw130 := hw130.keep0 E178
    have hO160 := hO160.keep0 E178
    obtain ⟨hB5, hB10, hB15, hxl⟩ := kb4 E178 hB5 hB10 hB15 hxl
    have hk165 := hk165.keepG (zi E178 NoB) (fun _ _ h => h)
    have hB171 := hB171.keep0 E178
    have hb := hb.step0 E178
    have q178_112 : Sl a178 112 (ptr p 0) := (hdp178 2 _ 112 zy rfl rfl).2 rfl
    refine zj ok35 (Num_ret (m := 3) hk165 zx hbl zx zx) ⟨(zC hN178 rfl q178_112), ⟨rfl, trivial⟩⟩ ?_
    rintro _ w180 ⟨E181, r179, rfl, hr179, n179, hk179, hn179, hn179x⟩
    have hk165_old := hk165
    have := E181.size
    have hbl := hbl.keepG E181 (fun k hk => .inr (by have := hk165_old.lt k hk; omega))
    have hT := hT.keepG E181 sP
    have hR := hR.keepG E181 sP
    have htcr := htcr.keepG E181 sP
    have htc0 := htc0.keepG E181 sP
    have htc1 := htc1.keepG E181 sP
    have hB5 := hB5.keepG E181 dj6
    have hB10 := hB10.keepG E181 dj11
    have hB15 := hB15.keepG E181 dj16
    have hC8 := hC8.keepG E181 sP
    have hK8 := hK8.keepG E181 sP
    have hov9 := hov9.keepG E181 sP
    have hw130 := hw130.keepG E181 sP
    have hxl := hxl.keepG E181 dj22
    have hO160 := hO160.keepG E181 (hk165_old.notOwn hO160 zz)
    have hB171 := hB171.keepG E181 dj172
    have hb := hb.stepF E181 (fun _ _ h => h)
    refine kt_end rfl ⟨hxl, hB171⟩ ?_
    refine kt_step (rs := [4]) zy ?_
    refine one_mem ?_
    intro w183 E183 _ a183 hN183 hbs183 hdp183 o_ ho_; obtain rfl := zE ho_
    have := E183.size
    have hbl := hbl.keep0 E183
    have hT := hT.keep0 E183
    have hR := hR.keep0 E183
    have htcr := htcr.keep0 E183
    have htc0 := htc0.keep0 E183
    have htc1 := htc1.keep0 E183
    have hC8 := hC8.keep0 E183
    have hK8 := hK8.keep0 E183
    have hov9 := hov9.keep0 E183
    have hw130 := hw130.keep0 E183
    have hO160 := hO160.keep0 E183
    obtain ⟨hB5, hB10, hB15, hxl, hB171⟩ := kb5 E183 hB5 hB10 hB15 hxl hB171
    have hk179 := hk179.keepG (zi E183 NoB) (fun _ _ h => h)
    have hb := hb.step0 E183
    have q183_113 : Sl a183 113 (.int .i64 ((r179 : Nat) : Int)) := (zE ((hdp183 3 _ 113 zy rfl rfl).1 rfl)).symm
    refine op_add rfl (zC hN183 rfl q183_113) (add64 zx) ?_
    refine kt_end rfl ⟨hxl, hB171⟩ ?_
    refine kt_step (rs := [9]) zy ?_
    refine one_mem ?_
    intro w185 E185 _ a185 hN185 hbs185 hdp185 o_ ho_; obtain rfl := zE ho_
    have := E185.size
    have hbl := hbl.keep0 E185
    have hT := hT.keep0 E185
    have hR := hR.keep0 E185
    have htcr := htcr.keep0 E185
    have htc0 := htc0.keep0 E185
    have htc1 := htc1.keep0 E185
    have hC8 := hC8.keep0 E185
    have hK8 := hK8.keep0 E185
    have hov9 := hov9.keep0 E185
    have hw130 := hw130.keep0 E185
    have hO160 := hO160.keep0 E185
    obtain ⟨hB5, hB10, hB15, hxl, hB171⟩ := kb5 E185 hB5 hB10 hB15 hxl hB171
    have hk179 := hk179.keepG (zi E185 NoB) (fun _ _ h => h)
    have hb := hb.step0 E185
    have q185_114 : Sl a185 114 (.int .i64 (2 + ((r179 : Nat) : Int))) := (zE ((hdp185 4 _ 114 zy rfl rfl).1 rfl)).symm
    have q185_116 : Sl a185 116 (.string (bs e165.tb)) := (hdp185 6 _ 116 zy rfl rfl).2 rfl
    have q185_118 : Sl a185 118 (.string (bs e165.nm)) := (hdp185 8 _ 118 zy rfl rfl).2 rfl
    refine zf (pv := [(0, (.int .i64 (2 + ((r179 : Nat) : Int)))), (1, (.string (bs e165.tb))), (2, (.string (bs e165.nm)))]) (v := (Value.agg #[(.int .i64 (2 + ((r179 : Nat) : Int))), (.string (bs e165.tb)), (.string (bs e165.nm))])) ⟨rfl, (zC hN185 rfl q185_114), ⟨rfl, (zC hN185 rfl q185_116), ⟨rfl, (zC hN185 rfl q185_118), trivial⟩⟩⟩ zy ?_
    refine kt_end rfl ⟨hxl, hB171⟩ ?_
    refine kt_step (rs := [10]) zy ?_
    refine one_mem ?_
    intro w187 E187 _ a187 hN187 hbs187 hdp187 o_ ho_; obtain rfl := zE ho_
    have := E187.size
    have hbl := hbl.keep0 E187
    have hT := hT.keep0 E187
    have hR := hR.keep0 E187
    have htcr := htcr.keep0 E187
    have htc0 := htc0.keep0 E187
    have htc1 := htc1.keep0 E187
    have hC8 := hC8.keep0 E187
    have hK8 := hK8.keep0 E187
    have hov9 := hov9.keep0 E187
    have hw130 := hw130.keep0 E187
    have hO160 := hO160.keep0 E187
    obtain ⟨hB5, hB10, hB15, hxl, hB171⟩ := kb5 E187 hB5 hB10 hB15 hxl hB171
    have hk179 := hk179.keepG (zi E187 NoB) (fun _ _ h => h)
    have hb := hb.step0 E187
    have q187_119 : Sl a187 119 (.agg #[(.int .i64 (2 + ((r179 : Nat) : Int))), (.string (bs e165.tb)), (.string (bs e165.nm))]) := (zE ((hdp187 9 _ 119 zy rfl rfl).1 rfl)).symm
    refine op_bslice (e := 63) (pv := [(0, (.agg #[(.int .i64 (2 + ((r179 : Nat) : Int))), (.string (bs e165.tb)), (.string (bs e165.nm))]))]) (cs := [(.int .i64 (2 + ((r179 : Nat) : Int))), (.string (bs e165.tb)), (.string (bs e165.nm))]) ⟨rfl, (zC hN187 rfl q187_119), trivial⟩ zy ?_
    intro w188 b189 lo_b189 hi_b189 hB191 E190
    have dj192 : ¬ (fun k => k = p) b189 := fun hf => by have := (hk179.lt _ hf).2; omega
    have := E190.size
    have hbl := hbl.keep0 E190
    have hT := hT.keep0 E190
    have hR := hR.keep0 E190
    have htcr := htcr.keep0 E190
    have htc0 := htc0.keep0 E190
    have htc1 := htc1.keep0 E190
    have hC8 := hC8.keep0 E190
    have hK8 := hK8.keep0 E190
    have hov9 := hov9.keep0 E190
    have hw130 := hw130.keep0 E190
    have hO160 := hO160.keep0 E190
    obtain ⟨hB5, hB10, hB15, hxl, hB171⟩ := kb5 E190 hB5 hB10 hB15 hxl hB171
    have hk179 := hk179.keepG (zi E190 NoB) (fun _ _ h => h)
    have hb := hb.step0 E190
    refine kt_end rfl ⟨hxl, hB171⟩ ?_
    refine kt_step (rs := [11]) zy ?_
    refine one_mem ?_
    intro w194 E194 _ a194 hN194 hbs194 hdp194 o_ ho_; obtain rfl := zE ho_
    have := E194.size
    have hbl := hbl.keep0 E194
    have hT := hT.keep0 E194
    have hR := hR.keep0 E194
    have htcr := htcr.keep0 E194
    have htc0 := htc0.keep0 E194
    have htc1 := htc1.keep0 E194
    have hC8 := hC8.keep0 E194
    have hK8 := hK8.keep0 E194
    have hov9 := hov9.keep0 E194
    have hw130 := hw130.keep0 E194
    have hO160 := hO160.keep0 E194
    obtain ⟨hB5, hB10, hB15, hxl, hB171⟩ := kb5 E194 hB5 hB10 hB15 hxl hB171
    have hk179 := hk179.keepG (zi E194 NoB) (fun _ _ h => h)
    have hB191 := hB191.keep0 E194
    have hb := hb.step0 E194
    have q194_111 : Sl a194 111 lv2 := (hdp194 1 _ 111 zy rfl rfl).2 rfl
    have q194_120 : Sl a194 120 (.slice (some ⟨b189, 0, none⟩) 1 1) := (zE ((hdp194 10 _ 120 zy rfl rfl).1 rfl)).symm
    have hP200 := hO160
    refine op_append slt22 (zC hN194 rfl q194_111) hP200 (zC hN194 rfl q194_120) (Src.ofRd Try.underlying22 zz (RdC.ofBx (sz := 3) (n := 1) hB191 rfl zz) (by simp [Value.oneCell', u8v])) (by unfold maxLen; omega) zx (by first | exact Nat.le_trans (by assumption) hb.size | (have := hb.size; omega)) ?_
    intro v195 w196 hO198 E197 hm199
    have := E197.size
    have hbl := hbl.keepO hP200 E197 zx
    have hT := hT.keepO hP200 E197 zx
    have hR := hR.keepO hP200 E197 zx
    have htcr := htcr.keepO hP200 E197 zx
    have htc0 := htc0.keepO hP200 E197 zx
    have htc1 := htc1.keepO hP200 E197 zx
    have hB5 := hB5.keepO hP200 E197 zz
    have hB10 := hB10.keepO hP200 E197 zz
    have hB15 := hB15.keepO hP200 E197 zz
    have hC8 := hC8.keepO hP200 E197 zx
    have hK8 := hK8.keepO hP200 E197 zx
    have hov9 := hov9.keepO hP200 E197 zx
    have hw130 := hw130.keepO hP200 E197 zx
    have hxl := hxl.keepO hP200 E197 zz
    have hB171 := hB171.keepO hP200 E197 zz
    have hk179 := hk179.keepG (Gr.of E197) (hk179.notOwn hP200 zz).symm
    have hb := hb.stepO hP200 E197 zx
    have hO198 : Own w196 b146 63 3 v195 (I2.length + 1) (((I2 ++ [(PItm.mk (2 + ((r179 : Nat) : Int)) e165.tb e165.nm)])).flatMap cellsI) := by simpa [u8v, u16v, sv, cellsI] using hO198
    refine kt_end rfl ⟨hxl, hB171⟩ ?_
    intro w202 E202 a202 hN202 hd202 hbs202 hph202
    have hd202 := hd202.trans ((by simp only [putsL_defers] : _ = _).trans hd159)
    have := E202.size
    have hbl := hbl.keep0 E202
    have hT := hT.keep0 E202
    have hR := hR.keep0 E202
    have htcr := htcr.keep0 E202
    have htc0 := htc0.keep0 E202
    have htc1 := htc1.keep0 E202
    have hC8 := hC8.keep0 E202
    have hK8 := hK8.keep0 E202
    have hov9 := hov9.keep0 E202
    have hw130 := hw130.keep0 E202
    obtain ⟨hB5, hB10, hB15, hxl⟩ := kb4 E202 hB5 hB10 hB15 hxl
    have hk179 := hk179.keepG (zi E202 NoB) (fun _ _ h => h)
    have hO198 := hO198.keep0 E202
    have hb := hb.step0 E202
    have s202_0 := (hbs202 0 rfl).trans (zL hN159 rfl s159_0)
    have s202_6 := (hbs202 6 rfl).trans (zL hN159 rfl s159_6)
    have s202_7 := (hbs202 7 rfl).trans (zL hN159 rfl s159_7)
    have s202_8 := (hbs202 8 rfl).trans (zL hN159 rfl s159_8)
    have s202_9 := (hbs202 9 rfl).trans (zL hN159 rfl s159_9)
    have s202_18 := (hbs202 18 rfl).trans (zL hN159 rfl s159_18)
    have s202_121 : Sl a202 121 v195 := (zE ((hph202 11 _ 121 rfl rfl).1 rfl)).symm
    refine split_end ?_
    refine from_seq (tl := [_, _]) zz zy rfl ?_
    refine zM fld45_6 (zC hN202 rfl s202_7) ?_
    have hxl_old := hxl
    refine za (vs := [v195]) (cs' := [(.int .i64 6), (.string (bs (D.getD r default).t.nm)), (.string (bs [])), (.slice none 0 0), (.slice none 0 0), (.slice none 0 0), v195, (.string (bs jo9)), ov9, wv130, (.slice none 0 0), (.bool false), (.slice none 0 0)]) size22 (zA hN202 rfl) (zC hN202 rfl s202_121) hO198.cl rfl (by simp only [List.all_cons, List.all_nil, Bool.true_and, Bool.and_true, hO198.one]; try rfl) hxl (zI rfl) rfl ?_
    intro w205 hxl E206
    have := E206.size
    have hbl := hbl.keep E206 sR
    have hT := hT.keep E206 sO
    have hR := hR.keep E206 sO
    have htcr := htcr.keep E206 sO
    have htc0 := htc0.keep E206 sO
    have htc1 := htc1.keep E206 sO
    have hB5 := hB5.keep E206 (sN hB5 hxl_old)
    have hB10 := hB10.keep E206 (sN hB10 hxl_old)
    have hB15 := hB15.keep E206 sB
    have hC8 := hC8.keep E206 sO
    have hK8 := hK8.keep E206 sO
    have hov9 := hov9.keep E206 sO
    have hw130 := hw130.keep E206 sO
    have hk179 := hk179.keepG (Gr.of E206) (Dj.one dj22)
    have hO198 := hO198.keepX hxl_old E206 zz
    have hb := hb.step1 E206 zx
    refine zB ?_
    refine hK163 _ _ (zH ?_)
    refine zG (zC hN202 rfl s202_18) ?_
    refine op_sub (zA hN202 rfl) rfl (sub64 zx) ?_
    refine zD (zA hN202 rfl) ?_
    refine zB ?_
    -- round 93T 100T
    exact zg _ hN202 hd202 ⟨(i - 1), n179, v195, (I2 ++ [(PItm.mk (2 + ((r179 : Nat) : Int)) e165.tb e165.nm)]), rfl, (zL hN202 rfl s202_0), (zL hN202 rfl s202_6), (zL hN202 rfl s202_7), (zL hN202 rfl s202_8), (zL hN202 rfl s202_9), (zU hN202 rfl).trans (congrArg (Value.int .i64) zx), (by simp; omega), zx, hb, zx, hbl, hT, hR, htcr, htc0, htc1, hB5, hB10, hB15, hC8, hK8, hov9, hw130, hxl, hk179, (hO198.cast (by simp) rfl)⟩ zx
   refine zB ?_
   refine hK162 _ _ (wp_cond_false (zA hN159 rfl) (wp_exit (then_exit (then_exit (blk_hit ?_)))))
   refine hK154 _ _ (zF fun K207 hK207 => ?_)
   refine zH ?_
   refine zY agg45 rfl (zC hN159 rfl s159_7) hxl ?_
   have hB15_old := hB15
   refine zZ size45 (zC hN159 rfl s159_6) (zA hN159 rfl) rfl (by simp only [List.all_cons, List.all_nil, Bool.true_and, Bool.and_true, hO160.one, hov9.1.one, hw130.1.one]; try rfl) hB15 rfl ?_
   intro w210 hB15 E211
   have := E211.size
   have hov9 := hov9.keep E211 sO
   have hw130 := hw130.keep E211 sO
   have hpk := hpk.keepG (Gr.of E211) (Dj.one dj16)
   have hO160 := hO160.keepX hB15_old E211 zz
   have hb := hb.step1 E211 zx
   refine zB ?_
   refine hK207 _ _ (wp_ret (zb (zO ( ?_))))
   refine retC rfl hd159 (zC hN159 rfl s159_6) agg45 rfl hB15 ⟨_, rfl, ?_⟩
   exact ⟨hb, XS.mk (StF.mk 6 ((D.getD r default).t.nm) [] (.slice none 0 0) [] (.slice none 0 0) [] (.slice none 0 0) [] lv2 I2 jo9 ov9 on9 wv130 wh130 (.slice none 0 0) [] false) (.slice none 0 0) [], rfl, SFr.flat ⟨(rdN _ _ _ _), (rdN _ _ _ _), (XsFr.nil _ _ _), (hO160.rdw.mono zx zx), (hov9.mono zx zx), (hw130.mono zx zx), (XsFr.nil _ _ _)⟩ rfl rfl, n2, hpk, by omega⟩
  refine zD (zA hN33 rfl) ?_
  refine zB ?_
  refine hK143 _ _ (wp_cond_false (zA hN33 rfl) (zF fun K212 hK212 => ?_))
  refine zH ?_
  refine op_eql (zA hN33 rfl) rfl (fun c125 => ?_) (fun c125 => ?_)
  ·
   refine zD (zA hN33 rfl) ?_
   refine zB ?_
   refine hK212 _ _ (wp_cond_true (zA hN33 rfl) (zF fun K213 hK213 => ?_))
   refine zH ?_
   refine zG (zC hN33 rfl s33_0) ?_
   refine zj ok35 (Num_ret (m := 3) hk140 zx hbl zx zx) ⟨(zA hN33 rfl), ⟨rfl, trivial⟩⟩ ?_
   rintro _ w215 ⟨E216, r214, rfl, hr214, n214, hk214, hn214, hn214x⟩
   have hk140_old := hk140
   have := E216.size
   have hbl := hbl.keepG E216 (fun k hk => .inr (by have := hk140_old.lt k hk; omega))
   have hT := hT.keepG E216 sP
   have hR := hR.keepG E216 sP
   have htcr := htcr.keepG E216 sP
   have htc0 := htc0.keepG E216 sP
   have htc1 := htc1.keepG E216 sP
   have hB5 := hB5.keepG E216 dj6
   have hB10 := hB10.keepG E216 dj11
   have hB15 := hB15.keepG E216 dj16
   have hC8 := hC8.keepG E216 sP
   have hK8 := hK8.keepG E216 sP
   have hov9 := hov9.keepG E216 sP
   have hw130 := hw130.keepG E216 sP
   have hx7 := hx7.keepG E216 dj22
   have hb := hb.stepF E216 (fun _ _ h => h)
   refine zD (zA hN33 rfl) ?_
   refine zB ?_
   refine hK213 _ _ (wp_block ?_)
   refine loop_m (fun mz_ az_ w' => ∃ (i n2 : Nat) (lv2 : Value) (I2 : List PItm), mz_ = (i + 1) ∧ (az_.tmps.getD 0 undef = (ptr p 0)) ∧ (az_.tmps.getD 6 undef = (ptr b13 0)) ∧ (az_.tmps.getD 7 undef = (ptr b19 0)) ∧ (az_.tmps.getD 8 undef = cv9) ∧ (az_.tmps.getD 9 undef = kv9) ∧ (az_.tmps.getD 21 undef = (.int .i64 (((i : Nat) : Int) - 1))) ∧ (I2.length + i ≤ 3) ∧ (n ≤ n2) ∧ (Gr w w' (fun k => k = p)) ∧ (w215.heap.size ≤ w'.heap.size) ∧ (RdC w' 0 Bp 1 lv bl.length (bl.map u8v)) ∧ (TsFr w' Ls Bs tv D) ∧ (RdC w' Ls Bs 3 tv D.length (D.flatMap cellsT)) ∧ (RdC w' Ls Bs 3 (D.getD r default).cv ((D.getD r default).t.cols).length (((D.getD r default).t.cols).flatMap cellsC)) ∧ (RdC w' Ls Bs 3 (D.getD 0 default).cv ((D.getD 0 default).t.cols).length (((D.getD 0 default).t.cols).flatMap cellsC)) ∧ (RdC w' Ls Bs 3 (D.getD 1 default).cv ((D.getD 1 default).t.cols).length (((D.getD 1 default).t.cols).flatMap cellsC)) ∧ (Bx w' b3 39 [tv, (.slice none 0 0)]) ∧ (Bx w' b8 55 [(.string (bs (D.getD r default).t.nm)), (D.getD r default).cv, (D.getD r default).iv]) ∧ (Bx w' b13 45 [(.int .i64 0), (.string (bs [])), (.string (bs [])), (.slice none 0 0), (.slice none 0 0), (.slice none 0 0), (.slice none 0 0), (.string (bs [])), (.slice none 0 0), (.slice none 0 0), (.slice none 0 0), (.bool false), (.slice none 0 0)]) ∧ (RdC w' w25.heap.size B9 3 cv9 C9.length (C9.flatMap cellsI)) ∧ (RdC w' w25.heap.size B9 1 kv9 K9.length (K9.map (Value.int .i64))) ∧ (XsFr w' w25.heap.size B9 ov9 on9) ∧ (XsFr w' w33.heap.size w131.heap.size wv130 wh130) ∧ (Bx w' b19 45 [(.int .i64 6), (.string (bs (D.getD r default).t.nm)), (.string (bs [])), (.slice none 0 0), (.slice none 0 0), (.slice none 0 0), lv2, (.string (bs jo9)), ov9, wv130, (.slice none 0 0), (.bool false), (.slice none 0 0)]) ∧ (PickR w' base p lv bl n2 (fun k => k = p)) ∧ (Own w' w215.heap.size 63 3 lv2 I2.length (I2.flatMap cellsI))) _ hN33 hd33 ⟨_, _, (.slice none 0 0), [], rfl, (zL hN33 rfl s33_0), (zL hN33 rfl s33_6), (zL hN33 rfl s33_7), (zL hN33 rfl s33_8), (zL hN33 rfl s33_9), (zU hN33 rfl).trans (congrArg (Value.int .i64) (show _ = (((r214 + 1 : Nat) : Int) - 1) by omega)), (by simp; omega), zx, hb, (Nat.le_refl _), hbl, hT, hR, htcr, htc0, htc1, hB5, hB10, hB15, hC8, hK8, hov9, hw130, hx7, hk214, (Own.nil _ _ _ _)⟩ ?_
   rintro _ a217 w217 hN217 hd217 ⟨i, n2, lv2, I2, rfl, s217_0, s217_6, s217_7, s217_8, s217_9, s217_21, hil, hn2, hb, zl_w217, hbl, hT, hR, htcr, htc0, htc1, hB5, hB10, hB15, hC8, hK8, hov9, hw130, hxl, hpk, hO218⟩
   have := hb.size
   refine zF fun K219 hK219 => ?_
   refine zF fun K220 hK220 => ?_
   refine zH ?_
   refine zG (zC hN217 rfl s217_21) ?_
   refine op_geq (zA hN217 rfl) rfl (fun c129 => ?_) (fun c129 => ?_)
   ·
    refine zB ?_
    refine hK220 _ _ (wp_cond_true (zA hN217 rfl) (wp_skip (hK219 _ _ (zF fun K221 hK221 => ?_))))
    refine wp_block ?_
    refine zF fun K222 hK222 => ?_
    refine zH ?_
    refine zG (zC hN217 rfl s217_0) ?_
    refine zG (zC hN217 rfl s217_8) ?_
    refine zG (zC hN217 rfl s217_9) ?_
    refine zG (zC hN217 rfl s217_0) ?_
    refine zj ok35 (Num_ret (m := 2) hpk zx hbl zx zx) ⟨(zA hN217 rfl), ⟨rfl, trivial⟩⟩ ?_
    rintro _ w224 ⟨E225, r223, rfl, hr223, n223, hk223, hn223, hn223x⟩
    have hpk_old := hpk
    have := E225.size
    have hbl := hbl.keepG E225 (fun k hk => .inr (by have := hpk_old.lt k hk; omega))
    have hT := hT.keepG E225 sP
    have hR := hR.keepG E225 sP
    have htcr := htcr.keepG E225 sP
    have htc0 := htc0.keepG E225 sP
    have htc1 := htc1.keepG E225 sP
    have hB5 := hB5.keepG E225 dj6
    have hB10 := hB10.keepG E225 dj11
    have hB15 := hB15.keepG E225 dj16
    have hC8 := hC8.keepG E225 sP
    have hK8 := hK8.keepG E225 sP
    have hov9 := hov9.keepG E225 sP
    have hw130 := hw130.keepG E225 sP
    have hxl := hxl.keepG E225 dj22
    have hO218 := hO218.keepG E225 (hpk_old.notOwn hO218 zz)
    have hb := hb.stepF E225 (fun _ _ h => h)
    refine op_add rfl (zA hN217 rfl) (add64 zx) ?_
    refine zj ok54 (pcol_ret (k := (1 + ((r223 : Nat) : Int))) hk223 zx hbl (C := C9) (K := K9) hC8 hK8 zx zx (by first | omega | (simp only [List.length_append]; omega))) ⟨(zA hN217 rfl), ⟨(zA hN217 rfl), ⟨(zA hN217 rfl), ⟨(zA hN217 rfl), trivial⟩⟩⟩⟩ ?_
    rintro _ w227 ⟨E228, e226, bb226, rfl, he226, hg226, n226, hk226, hn226⟩
    have hk223_old := hk223
    have := E228.size
    have hbl := hbl.keepG E228 (fun k hk => .inr (by have := hk223_old.lt k hk; omega))
    have hT := hT.keepG E228 sP
    have hR := hR.keepG E228 sP
    have htcr := htcr.keepG E228 sP
    have htc0 := htc0.keepG E228 sP
    have htc1 := htc1.keepG E228 sP
    have hB5 := hB5.keepG E228 dj6
    have hB10 := hB10.keepG E228 dj11
    have hB15 := hB15.keepG E228 dj16
    have hC8 := hC8.keepG E228 sP
    have hK8 := hK8.keepG E228 sP
    have hov9 := hov9.keepG E228 sP
    have hw130 := hw130.keepG E228 sP
    have hxl := hxl.keepG E228 dj22
    have hO218 := hO218.keepG E228 (hk223_old.notOwn hO218 zz)
    have hb := hb.stepF E228 (fun _ _ h => h)
    refine zG (zA hN217 rfl) ?_
    refine zW (zA hN217 rfl) rfl ?_
    refine zW (zA hN217 rfl) rfl ?_
    refine op_alloc (cs := [(.int .i64 0), (.int .i64 0), (.int .i64 0), (.string (bs [])), (.string (bs [])), (.string (bs [])), (.slice none 0 0)]) zero28 rfl ?_
    intro w229 b230 lo_b230 hi_b230 hB232 E231
    have dj233 : ¬ (fun k => k = p) b230 := fun hf => by have := (hk226.lt _ hf).2; omega
    have := E231.size
    have hbl := hbl.keep0 E231
    have hT := hT.keep0 E231
    have hR := hR.keep0 E231
    have htcr := htcr.keep0 E231
    have htc0 := htc0.keep0 E231
    have htc1 := htc1.keep0 E231
    have hC8 := hC8.keep0 E231
    have hK8 := hK8.keep0 E231
    have hov9 := hov9.keep0 E231
    have hw130 := hw130.keep0 E231
    have hO218 := hO218.keep0 E231
    obtain ⟨hB5, hB10, hB15, hxl⟩ := kb4 E231 hB5 hB10 hB15 hxl
    have hk226 := hk226.keepG (zi E231 NoB) (fun _ _ h => h)
    have he226 := he226.keep0 E231
    have hb := hb.step0 E231
    have hB232_old := hB232
    refine zZ size28 (zA hN217 rfl) (zA hN217 rfl) rfl (by simp only [List.all_cons, List.all_nil, Bool.true_and, Bool.and_true, he226.list.1.one]; try rfl) hB232 rfl ?_
    intro w236 hB232 E237
    have := E237.size
    have hbl := hbl.keep E237 sR
    have hT := hT.keep E237 sO
    have hR := hR.keep E237 sO
    have htcr := htcr.keep E237 sO
    have htc0 := htc0.keep E237 sO
    have htc1 := htc1.keep E237 sO
    have hB5 := hB5.keep E237 (sN hB5 hB232_old)
    have hB10 := hB10.keep E237 (sN hB10 hB232_old)
    have hB15 := hB15.keep E237 (sN hB15 hB232_old)
    have hC8 := hC8.keep E237 sO
    have hK8 := hK8.keep E237 sO
    have hov9 := hov9.keep E237 sO
    have hw130 := hw130.keep E237 sO
    have hxl := hxl.keep E237 (sN hxl hB232_old)
    have hO218 := hO218.keepX hB232_old E237 zz
    have hk226 := hk226.keepG (Gr.of E237) (Dj.one dj233)
    have hb := hb.step1 E237 zx
    refine zD (zA hN217 rfl) ?_
    refine zB ?_
    refine hK222 _ _ (zH ?_)
    skip
    refine zM fld45_6 (zC hN217 rfl s217_7) ?_
    refine zN (v := lv2) one22 (zA hN217 rfl) (hxl.cell rfl) ?_
    refine zM fld28_2 (zA hN217 rfl) ?_
    refine zN (v := (Value.string (bs e226.tb))) one9 (zA hN217 rfl) (hB232.cell rfl) ?_
    refine zM fld28_3 (zA hN217 rfl) ?_
    refine zN (v := (Value.string (bs e226.nm))) one9 (zA hN217 rfl) (hB232.cell rfl) ?_
    refine zf (pv := [(1, (.string (bs e226.tb))), (2, (.string (bs e226.nm)))]) (v := (Value.agg #[(.int .i64 0), (.string (bs e226.tb)), (.string (bs e226.nm))])) ⟨rfl, (zA hN217 rfl), ⟨rfl, (zA hN217 rfl), trivial⟩⟩ zy ?_
    refine op_bslice (e := 63) (pv := [(0, (.agg #[(.int .i64 0), (.string (bs e226.tb)), (.string (bs e226.nm))]))]) (cs := [(.int .i64 0), (.string (bs e226.tb)), (.string (bs e226.nm))]) ⟨rfl, (zA hN217 rfl), trivial⟩ zy ?_
    intro w238 b239 lo_b239 hi_b239 hB241 E240
    have dj242 : ¬ (fun k => k = p) b239 := fun hf => by have := (hk226.lt _ hf).2; omega
    have := E240.size
    have hbl := hbl.keep0 E240
    have hT := hT.keep0 E240
    have hR := hR.keep0 E240
    have htcr := htcr.keep0 E240
    have htc0 := htc0.keep0 E240
    have htc1 := htc1.keep0 E240
    have hC8 := hC8.keep0 E240
    have hK8 := hK8.keep0 E240
    have hov9 := hov9.keep0 E240
    have hw130 := hw130.keep0 E240
    have hO218 := hO218.keep0 E240
    obtain ⟨hB5, hB10, hB15, hxl⟩ := kb4 E240 hB5 hB10 hB15 hxl
    have hk226 := hk226.keepG (zi E240 NoB) (fun _ _ h => h)
    have hb := hb.step0 E240
    have hP248 := hO218
    refine op_append slt22 (zA hN217 rfl) hP248 (zA hN217 rfl) (Src.ofRd Try.underlying22 zz (RdC.ofBx (sz := 3) (n := 1) hB241 rfl zz) (by simp [Value.oneCell', u8v])) (by unfold maxLen; omega) zx (by first | exact Nat.le_trans (by assumption) hb.size | (have := hb.size; omega)) ?_
    intro v243 w244 hO246 E245 hm247
    have := E245.size
    have hbl := hbl.keepO hP248 E245 zx
    have hT := hT.keepO hP248 E245 zx
    have hR := hR.keepO hP248 E245 zx
    have htcr := htcr.keepO hP248 E245 zx
    have htc0 := htc0.keepO hP248 E245 zx
    have htc1 := htc1.keepO hP248 E245 zx
    have hB5 := hB5.keepO hP248 E245 zz
    have hB10 := hB10.keepO hP248 E245 zz
    have hB15 := hB15.keepO hP248 E245 zz
    have hC8 := hC8.keepO hP248 E245 zx
    have hK8 := hK8.keepO hP248 E245 zx
    have hov9 := hov9.keepO hP248 E245 zx
    have hw130 := hw130.keepO hP248 E245 zx
    have hxl := hxl.keepO hP248 E245 zz
    have hk226 := hk226.keepG (Gr.of E245) (hk226.notOwn hP248 zz).symm
    have hb := hb.stepO hP248 E245 zx
    have hO246 : Own w244 w215.heap.size 63 3 v243 (I2.length + 1) (((I2 ++ [(PItm.mk 0 e226.tb e226.nm)])).flatMap cellsI) := by simpa [u8v, u16v, sv, cellsI] using hO246
    refine zM fld45_6 (zC hN217 rfl s217_7) ?_
    have hxl_old := hxl
    refine za (vs := [v243]) (cs' := [(.int .i64 6), (.string (bs (D.getD r default).t.nm)), (.string (bs [])), (.slice none 0 0), (.slice none 0 0), (.slice none 0 0), v243, (.string (bs jo9)), ov9, wv130, (.slice none 0 0), (.bool false), (.slice none 0 0)]) size22 (zA hN217 rfl) (zA hN217 rfl) hO246.cl rfl (by simp only [List.all_cons, List.all_nil, Bool.true_and, Bool.and_true, hO246.one]; try rfl) hxl (zI rfl) rfl ?_
    intro w252 hxl E253
    have := E253.size
    have hbl := hbl.keep E253 sR
    have hT := hT.keep E253 sO
    have hR := hR.keep E253 sO
    have htcr := htcr.keep E253 sO
    have htc0 := htc0.keep E253 sO
    have htc1 := htc1.keep E253 sO
    have hB5 := hB5.keep E253 (sN hB5 hxl_old)
    have hB10 := hB10.keep E253 (sN hB10 hxl_old)
    have hB15 := hB15.keep E253 sB
    have hC8 := hC8.keep E253 sO
    have hK8 := hK8.keep E253 sO
    have hov9 := hov9.keep E253 sO
    have hw130 := hw130.keep E253 sO
    have hk226 := hk226.keepG (Gr.of E253) (Dj.one dj22)
    have hO246 := hO246.keepX hxl_old E253 zz
    have hb := hb.step1 E253 zx
    refine zB ?_
    refine hK221 _ _ (zH ?_)
    refine zG (zC hN217 rfl s217_21) ?_
    refine op_sub (zA hN217 rfl) rfl (sub64 zx) ?_
    refine zD (zA hN217 rfl) ?_
    refine zB ?_
    -- round 93F 125T 129T
    exact zg _ hN217 hd217 ⟨(i - 1), n226, v243, (I2 ++ [(PItm.mk 0 e226.tb e226.nm)]), rfl, (zL hN217 rfl s217_0), (zL hN217 rfl s217_6), (zL hN217 rfl s217_7), (zL hN217 rfl s217_8), (zL hN217 rfl s217_9), (zU hN217 rfl).trans (congrArg (Value.int .i64) zx), (by simp; omega), zx, hb, zx, hbl, hT, hR, htcr, htc0, htc1, hB5, hB10, hB15, hC8, hK8, hov9, hw130, hxl, hk226, (hO246.cast (by simp) rfl)⟩ zx
   refine zB ?_
   refine hK220 _ _ (wp_cond_false (zA hN217 rfl) (wp_exit (then_exit (then_exit (blk_hit ?_)))))
   refine hK138 _ _ ?_
   exact hJ137 _ _ _ hN217 hd217 ⟨lv2, I2, w217.heap.size, n2, (zL hN217 rfl s217_0), (zL hN217 rfl s217_6), (zL hN217 rfl s217_7), (zL hN217 rfl s217_8), (zL hN217 rfl s217_9), (Nat.le_refl _), zx, zx, hb, zx, hbl, hT, hR, htcr, htc0, htc1, hB5, hB10, hB15, hC8, hK8, hov9, hw130, (hO218.rdw.mono zx zx), hxl, hpk⟩
  refine zD (zA hN33 rfl) ?_
  refine zB ?_
  refine hK212 _ _ (wp_cond_false (zA hN33 rfl) (wp_skip (hK138 _ _ ?_)))
  exact hJ137 _ _ _ hN33 hd33 ⟨(.slice none 0 0), [], w141.heap.size, n140, (zL hN33 rfl s33_0), (zL hN33 rfl s33_6), (zL hN33 rfl s33_7), (zL hN33 rfl s33_8), (zL hN33 rfl s33_9), (Nat.le_refl _), zx, zx, hb, zx, hbl, hT, hR, htcr, htc0, htc1, hB5, hB10, hB15, hC8, hK8, hov9, hw130, (rdN _ _ _ _), hx7, hk140⟩
 rintro a137 w137 hN137 hd137 ⟨iv9, I9, B7, n7, s137_0, s137_6, s137_7, s137_8, s137_9, hB7, hB6, hn7, hb, zl_w137, hbl, hT, hR, htcr, htc0, htc1, hB5, hB10, hB15, hC8, hK8, hov9, hw130, hI9, hx6, hpk⟩
 have := hb.size
 refine zF fun K254 hK254 => ?_
 refine zF fun K255 hK255 => ?_
 refine zH ?_
 refine zG (zC hN137 rfl s137_0) ?_
 refine zj ok35 (Num_ret (m := 3) hpk zx hbl zx zx) ⟨(zA hN137 rfl), ⟨rfl, trivial⟩⟩ ?_
 rintro _ w257 ⟨E258, r256, rfl, hr256, n256, hk256, hn256, hn256x⟩
 have hpk_old := hpk
 have := E258.size
 have hbl := hbl.keepG E258 (fun k hk => .inr (by have := hpk_old.lt k hk; omega))
 have hB15 := hB15.keepG E258 dj16
 have hC8 := hC8.keepG E258 sP
 have hK8 := hK8.keepG E258 sP
 have hov9 := hov9.keepG E258 sP
 have hw130 := hw130.keepG E258 sP
 have hI9 := hI9.keepG E258 sP
 have hx6 := hx6.keepG E258 dj22
 have hb := hb.stepF E258 (fun _ _ h => h)
 refine op_eql (zA hN137 rfl) rfl (fun c154 => ?_) (fun c154 => ?_)
 ·
  refine zB ?_
  refine hK255 _ _ (wp_cond_true (zA hN137 rfl) (zF fun K259 hK259 => ?_))
  refine zH ?_
  refine zG (zC hN137 rfl s137_0) ?_
  refine zG (zC hN137 rfl s137_8) ?_
  refine zG (zC hN137 rfl s137_9) ?_
  refine zG (zC hN137 rfl s137_0) ?_
  refine zj ok35 (Num_ret (m := 2) hk256 zx hbl zx zx) ⟨(zA hN137 rfl), ⟨rfl, trivial⟩⟩ ?_
  rintro _ w261 ⟨E262, r260, rfl, hr260, n260, hk260, hn260, hn260x⟩
  have hk256_old := hk256
  have := E262.size
  have hbl := hbl.keepG E262 (fun k hk => .inr (by have := hk256_old.lt k hk; omega))
  have hB15 := hB15.keepG E262 dj16
  have hC8 := hC8.keepG E262 sP
  have hK8 := hK8.keepG E262 sP
  have hov9 := hov9.keepG E262 sP
  have hw130 := hw130.keepG E262 sP
  have hI9 := hI9.keepG E262 sP
  have hx6 := hx6.keepG E262 dj22
  have hb := hb.stepF E262 (fun _ _ h => h)
  refine op_add rfl (zA hN137 rfl) (add64 zx) ?_
  refine zj ok54 (pcol_ret (k := (1 + ((r260 : Nat) : Int))) hk260 zx hbl (C := C9) (K := K9) hC8 hK8 zx zx (by first | omega | (simp only [List.length_append]; omega))) ⟨(zA hN137 rfl), ⟨(zA hN137 rfl), ⟨(zA hN137 rfl), ⟨(zA hN137 rfl), trivial⟩⟩⟩⟩ ?_
  rintro _ w264 ⟨E265, e263, bb263, rfl, he263, hg263, n263, hk263, hn263⟩
  have hk260_old := hk260
  have := E265.size
  have hbl := hbl.keepG E265 (fun k hk => .inr (by have := hk260_old.lt k hk; omega))
  have hB15 := hB15.keepG E265 dj16
  have hov9 := hov9.keepG E265 sP
  have hw130 := hw130.keepG E265 sP
  have hI9 := hI9.keepG E265 sP
  have hx6 := hx6.keepG E265 dj22
  have hb := hb.stepF E265 (fun _ _ h => h)
  refine zG (zA hN137 rfl) ?_
  refine zW (zA hN137 rfl) rfl ?_
  refine zW (zA hN137 rfl) rfl ?_
  refine op_alloc (cs := [(.int .i64 0), (.int .i64 0), (.int .i64 0), (.string (bs [])), (.string (bs [])), (.string (bs [])), (.slice none 0 0)]) zero28 rfl ?_
  intro w266 b267 lo_b267 hi_b267 hB269 E268
  have dj270 : ¬ (fun k => k = p) b267 := fun hf => by have := (hk263.lt _ hf).2; omega
  have := E268.size
  have hbl := hbl.keep0 E268
  have hov9 := hov9.keep0 E268
  have hw130 := hw130.keep0 E268
  have hI9 := hI9.keep0 E268
  obtain ⟨hB15, hx6⟩ := kb2 E268 hB15 hx6
  have hk263 := hk263.keepG (zi E268 NoB) (fun _ _ h => h)
  have he263 := he263.keep0 E268
  have hb := hb.step0 E268
  have hB269_old := hB269
  refine zZ size28 (zA hN137 rfl) (zA hN137 rfl) rfl (by simp only [List.all_cons, List.all_nil, Bool.true_and, Bool.and_true, he263.list.1.one]; try rfl) hB269 rfl ?_
  intro w273 hB269 E274
  have := E274.size
  have hbl := hbl.keep E274 sR
  have hB15 := hB15.keep E274 (sN hB15 hB269_old)
  have hov9 := hov9.keep E274 sO
  have hw130 := hw130.keep E274 sO
  have hI9 := hI9.keep E274 sO
  have hx6 := hx6.keep E274 (sN hx6 hB269_old)
  have hk263 := hk263.keepG (Gr.of E274) (Dj.one dj270)
  have he263 := he263.keep E274 sO
  have hb := hb.step1 E274 zx
  refine zD (zA hN137 rfl) ?_
  refine zB ?_
  refine hK259 _ _ (reg_split (hd := [_, _, _, _, _, _, _]) (tl := _) 7 mixed zy rfl rfl ?_)
  refine any_tree (φ := phiV [(fun uz => uz = (.agg #[(.int .i64 e263.op), (.int .i64 e263.vk), (.int .i64 e263.vi), (.string (bs e263.vt)), (.string (bs e263.tb)), (.string (bs e263.nm)), e263.av])), (fun _ => True), (fun uz => uz = (ptr p 0)), (fun _ => True), (fun _ => True), (fun uz => uz = (ptr b19 10)), (fun _ => True)]) (G := fun w' => Bx w' b267 28 [(.int .i64 e263.op), (.int .i64 e263.vk), (.int .i64 e263.vi), (.string (bs e263.vt)), (.string (bs e263.tb)), (.string (bs e263.nm)), e263.av]) [1, 3, 4, 6] zy zy zy zy zy hN137 (fun w1 w2 E h => h.keep0 E) hB269 (ObRs9.cons ?_ (ObRs9.pass rfl (ObRs9.cons ?_ (ObRs9.pass rfl (ObRs9.pass rfl (ObRs9.cons ?_ (ObRs9.pass rfl (ObRs9.nil)))))))) (by simp only [putsL_defers]) ?_
  ·
   intro eA aA wA hNA hGA hbsA hdpA
   have qA_24 := (hbsA 24 rfl).trans (zU hN137 rfl)
   refine zY agg28 rfl (zC hNA rfl qA_24) hGA ?_
   exact obT_end rfl rfl
  ·
   intro eA aA wA hNA hGA hbsA hdpA
   have qA_0 := (hbsA 0 rfl).trans (zL hN137 rfl s137_0)
   refine zG (zC hNA rfl qA_0) ?_
   exact obT_end rfl rfl
  ·
   intro eA aA wA hNA hGA hbsA hdpA
   have qA_7 := (hbsA 7 rfl).trans (zL hN137 rfl s137_7)
   refine zM fld45_10 (zC hNA rfl qA_7) ?_
   exact obT_end rfl rfl
  refine kt_step (rs := [1, 3]) zy ?_
  refine more_mem ?_ ?_
  ·
   intro w276 E276 _ a276 hN276 hbs276 hdp276 o_ ho_; obtain rfl := zE ho_
   have := E276.size
   have hbl := hbl.keep0 E276
   have hov9 := hov9.keep0 E276
   have hw130 := hw130.keep0 E276
   have hI9 := hI9.keep0 E276
   obtain ⟨hB15, hx6⟩ := kb2 E276 hB15 hx6
   have hk263 := hk263.keepG (zi E276 NoB) (fun _ _ h => h)
   have he263 := he263.keep0 E276
   have hB269 := hB269.keep0 E276
   have hb := hb.step0 E276
   have q276_165 : Sl a276 165 (.agg #[(.int .i64 e263.op), (.int .i64 e263.vk), (.int .i64 e263.vi), (.string (bs e263.vt)), (.string (bs e263.tb)), (.string (bs e263.nm)), e263.av]) := (hdp276 0 _ 165 zy rfl rfl).2 rfl
   refine op_bslice (e := 28) (pv := [(0, (.agg #[(.int .i64 e263.op), (.int .i64 e263.vk), (.int .i64 e263.vi), (.string (bs e263.vt)), (.string (bs e263.tb)), (.string (bs e263.nm)), e263.av]))]) (cs := [(.int .i64 e263.op), (.int .i64 e263.vk), (.int .i64 e263.vi), (.string (bs e263.vt)), (.string (bs e263.tb)), (.string (bs e263.nm)), e263.av]) ⟨rfl, (zC hN276 rfl q276_165), trivial⟩ zy ?_
   intro w277 b278 lo_b278 hi_b278 hB280 E279
   have dj281 : ¬ (fun k => k = p) b278 := fun hf => by have := (hk263.lt _ hf).2; omega
   have := E279.size
   have hbl := hbl.keep0 E279
   have hov9 := hov9.keep0 E279
   have hw130 := hw130.keep0 E279
   have hI9 := hI9.keep0 E279
   obtain ⟨hB15, hx6⟩ := kb2 E279 hB15 hx6
   have hk263 := hk263.keepG (zi E279 NoB) (fun _ _ h => h)
   have he263 := he263.keep0 E279
   have hB269 := hB269.keep0 E279
   have hb := hb.step0 E279
   refine kt_end rfl hB269 ?_
   refine kt_step (rs := [3]) zy ?_
   refine one_mem ?_
   intro w283 E283 _ a283 hN283 hbs283 hdp283 o_ ho_; obtain rfl := zE ho_
   have := E283.size
   have hbl := hbl.keep0 E283
   have hov9 := hov9.keep0 E283
   have hw130 := hw130.keep0 E283
   have hI9 := hI9.keep0 E283
   obtain ⟨hB15, hx6⟩ := kb2 E283 hB15 hx6
   have hk263 := hk263.keepG (zi E283 NoB) (fun _ _ h => h)
   have he263 := he263.keep0 E283
   obtain ⟨hB269, hB280⟩ := kb2 E283 hB269 hB280
   have hb := hb.step0 E283
   have q283_167 : Sl a283 167 (ptr p 0) := (hdp283 2 _ 167 zy rfl rfl).2 rfl
   refine zj ok35 (Num_ret (m := 2) hk263 zx hbl zx zx) ⟨(zC hN283 rfl q283_167), ⟨rfl, trivial⟩⟩ ?_
   rintro _ w285 ⟨E286, r284, rfl, hr284, n284, hk284, hn284, hn284x⟩
   have := E286.size
   have hB15 := hB15.keepG E286 dj16
   have hov9 := hov9.keepG E286 sP
   have hw130 := hw130.keepG E286 sP
   have hI9 := hI9.keepG E286 sP
   have hx6 := hx6.keepG E286 dj22
   have he263 := he263.keepG E286 sP
   have hB269 := hB269.keepG E286 dj270
   have hB280 := hB280.keepG E286 dj281
   have hb := hb.stepF E286 (fun _ _ h => h)
   refine kt_end rfl hB269 ?_
   refine kt_step (rs := [4, 6]) zy ?_
   refine more_mem ?_ ?_
   ·
    intro w288 E288 _ a288 hN288 hbs288 hdp288 o_ ho_; obtain rfl := zE ho_
    have := E288.size
    have hov9 := hov9.keep0 E288
    have hw130 := hw130.keep0 E288
    have hI9 := hI9.keep0 E288
    have he263 := he263.keep0 E288
    obtain ⟨hB15, hx6, hB269, hB280⟩ := kb4 E288 hB15 hx6 hB269 hB280
    have hk284 := hk284.keepG (zi E288 NoB) (fun _ _ h => h)
    have hb := hb.step0 E288
    have q288_168 : Sl a288 168 (.int .i64 ((r284 : Nat) : Int)) := (zE ((hdp288 3 _ 168 zy rfl rfl).1 rfl)).symm
    refine op_cmp (b := (decide (((r284 : Nat) : Int) = 0))) (zC hN288 rfl q288_168) rfl (b_eql rfl) ?_
    refine kt_end rfl hB269 ?_
    refine kt_step (rs := [6]) zy ?_
    refine one_mem ?_
    intro w290 E290 _ a290 hN290 hbs290 hdp290 o_ ho_; obtain rfl := zE ho_
    have := E290.size
    have hov9 := hov9.keep0 E290
    have hw130 := hw130.keep0 E290
    have hI9 := hI9.keep0 E290
    have he263 := he263.keep0 E290
    obtain ⟨hB15, hx6, hB269, hB280⟩ := kb4 E290 hB15 hx6 hB269 hB280
    have hk284 := hk284.keepG (zi E290 NoB) (fun _ _ h => h)
    have hb := hb.step0 E290
    have q290_170 : Sl a290 170 (ptr b19 10) := (hdp290 5 _ 170 zy rfl rfl).2 rfl
    have q290_166 : Sl a290 166 (.slice (some ⟨b278, 0, none⟩) 1 1) := (zE ((hdp290 1 _ 166 zy rfl rfl).1 rfl)).symm
    have hx6_old := hx6
    refine za (vs := [(.slice (some ⟨b278, 0, none⟩) 1 1)]) (cs' := [(.int .i64 6), (.string (bs (D.getD r default).t.nm)), (.string (bs [])), (.slice none 0 0), (.slice none 0 0), (.slice none 0 0), iv9, (.string (bs jo9)), ov9, wv130, (.slice (some ⟨b278, 0, none⟩) 1 1), (.bool false), (.slice none 0 0)]) size26 (zC hN290 rfl q290_170) (zC hN290 rfl q290_166) rfl rfl rfl hx6 (zI rfl) rfl ?_
    intro w293 hx6 E294
    have := E294.size
    have hB15 := hB15.keep E294 sB
    have hov9 := hov9.keep E294 sO
    have hw130 := hw130.keep E294 sO
    have hI9 := hI9.keep E294 sO
    have he263 := he263.keep E294 sO
    have hB269 := hB269.keep E294 (sN hB269 hx6_old)
    have hB280 := hB280.keep E294 (sN hB280 hx6_old)
    have hk284 := hk284.keepG (Gr.of E294) (Dj.one dj22)
    have hb := hb.step1 E294 zx
    refine kt_end0 rfl hB269 ?_
    intro w295 E295 a295 hN295 hd295 hbs295 hph295
    have hd295 := hd295.trans ((by simp only [putsL_defers] : _ = _).trans hd137)
    have := E295.size
    have hov9 := hov9.keep0 E295
    have hw130 := hw130.keep0 E295
    have hI9 := hI9.keep0 E295
    have he263 := he263.keep0 E295
    obtain ⟨hB15, hB280⟩ := kb2 E295 hB15 hB280
    have hk284 := hk284.keepG (zi E295 NoB) (fun _ _ h => h)
    have hx6 := hx6.keep0 E295
    have hb := hb.step0 E295
    have s295_6 := (hbs295 6 rfl).trans (zL hN137 rfl s137_6)
    have s295_7 := (hbs295 7 rfl).trans (zL hN137 rfl s137_7)
    have s295_169 : Sl a295 169 (.bool (decide (((r284 : Nat) : Int) = 0))) := (zE ((hph295 4 _ 169 rfl rfl).1 rfl)).symm
    refine split_end ?_
    refine from_seq (tl := [_, _]) zz zy rfl ?_
    refine zM fld45_11 (zC hN295 rfl s295_7) ?_
    have hx6_old := hx6
    refine za (vs := [(.bool (decide (((r284 : Nat) : Int) = 0)))]) (cs' := [(.int .i64 6), (.string (bs (D.getD r default).t.nm)), (.string (bs [])), (.slice none 0 0), (.slice none 0 0), (.slice none 0 0), iv9, (.string (bs jo9)), ov9, wv130, (.slice (some ⟨b278, 0, none⟩) 1 1), (.bool (decide (((r284 : Nat) : Int) = 0))), (.slice none 0 0)]) size4 (zA hN295 rfl) (zC hN295 rfl s295_169) rfl rfl rfl hx6 (zI rfl) rfl ?_
    intro w298 hx6 E299
    have := E299.size
    have hB15 := hB15.keep E299 sB
    have hov9 := hov9.keep E299 sO
    have hw130 := hw130.keep E299 sO
    have hI9 := hI9.keep E299 sO
    have he263 := he263.keep E299 sO
    have hB280 := hB280.keep E299 (sN hB280 hx6_old)
    have hk284 := hk284.keepG (Gr.of E299) (Dj.one dj22)
    have hb := hb.step1 E299 zx
    refine zB ?_
    refine hK254 _ _ (zF fun K300 hK300 => ?_)
    refine zH ?_
    refine zY agg45 rfl (zC hN295 rfl s295_7) hx6 ?_
    have hB15_old := hB15
    refine zZ size45 (zC hN295 rfl s295_6) (zA hN295 rfl) rfl (by simp only [List.all_cons, List.all_nil, Bool.true_and, Bool.and_true, hI9.one, hov9.1.one, hw130.1.one]; try rfl) hB15 rfl ?_
    intro w303 hB15 E304
    have := E304.size
    have hov9 := hov9.keep E304 sO
    have hw130 := hw130.keep E304 sO
    have hI9 := hI9.keep E304 sO
    have he263 := he263.keep E304 sO
    have hB280 := hB280.keep E304 (sN hB280 hB15_old)
    have hk284 := hk284.keepG (Gr.of E304) (Dj.one dj16)
    have hb := hb.step1 E304 zx
    refine zB ?_
    refine hK300 _ _ (wp_ret ?_)
    refine retC rfl hd295 (zC hN295 rfl s295_6) agg45 rfl hB15 ⟨_, rfl, ?_⟩
    exact ⟨hb, XS.mk (StF.mk 6 ((D.getD r default).t.nm) [] (.slice none 0 0) [] (.slice none 0 0) [] (.slice none 0 0) [] iv9 I9 jo9 ov9 on9 wv130 wh130 (.slice (some ⟨b278, 0, none⟩) 1 1) ([e263]) (decide (((r284 : Nat) : Int) = 0))) (.slice none 0 0) [], rfl, SFr.flat ⟨(rdN _ _ _ _), (rdN _ _ _ _), (XsFr.nil _ _ _), (hI9.mono zx zx), (hov9.mono zx zx), (hw130.mono zx zx), (XsFr.lit1 (x := e263) hB280 zx hB280.lt (he263.mono zx zx))⟩ rfl rfl, n284, hk284, by omega⟩
   refine one_mem ?_
   intro w305 E305 _ a305 hN305 hbs305 hdp305 o_ ho_; obtain rfl := zE ho_
   have := E305.size
   have hov9 := hov9.keep0 E305
   have hw130 := hw130.keep0 E305
   have hI9 := hI9.keep0 E305
   have he263 := he263.keep0 E305
   obtain ⟨hB15, hx6, hB269, hB280⟩ := kb4 E305 hB15 hx6 hB269 hB280
   have hk284 := hk284.keepG (zi E305 NoB) (fun _ _ h => h)
   have hb := hb.step0 E305
   have q305_170 : Sl a305 170 (ptr b19 10) := (hdp305 5 _ 170 zy rfl rfl).2 rfl
   have q305_166 : Sl a305 166 (.slice (some ⟨b278, 0, none⟩) 1 1) := (zE ((hdp305 1 _ 166 zy rfl rfl).1 rfl)).symm
   have hx6_old := hx6
   refine za (vs := [(.slice (some ⟨b278, 0, none⟩) 1 1)]) (cs' := [(.int .i64 6), (.string (bs (D.getD r default).t.nm)), (.string (bs [])), (.slice none 0 0), (.slice none 0 0), (.slice none 0 0), iv9, (.string (bs jo9)), ov9, wv130, (.slice (some ⟨b278, 0, none⟩) 1 1), (.bool false), (.slice none 0 0)]) size26 (zC hN305 rfl q305_170) (zC hN305 rfl q305_166) rfl rfl rfl hx6 (zI rfl) rfl ?_
   intro w308 hx6 E309
   have := E309.size
   have hB15 := hB15.keep E309 sB
   have hov9 := hov9.keep E309 sO
   have hw130 := hw130.keep E309 sO
   have hI9 := hI9.keep E309 sO
   have he263 := he263.keep E309 sO
   have hB269 := hB269.keep E309 (sN hB269 hx6_old)
   have hB280 := hB280.keep E309 (sN hB280 hx6_old)
   have hk284 := hk284.keepG (Gr.of E309) (Dj.one dj22)
   have hb := hb.step1 E309 zx
   refine kt_end0 rfl hB269 ?_
   refine kt_step (rs := [4]) zy ?_
   refine one_mem ?_
   intro w311 E311 _ a311 hN311 hbs311 hdp311 o_ ho_; obtain rfl := zE ho_
   have := E311.size
   have hov9 := hov9.keep0 E311
   have hw130 := hw130.keep0 E311
   have hI9 := hI9.keep0 E311
   have he263 := he263.keep0 E311
   obtain ⟨hB15, hB269, hB280⟩ := kb3 E311 hB15 hB269 hB280
   have hk284 := hk284.keepG (zi E311 NoB) (fun _ _ h => h)
   have hx6 := hx6.keep0 E311
   have hb := hb.step0 E311
   have q311_168 : Sl a311 168 (.int .i64 ((r284 : Nat) : Int)) := (zE ((hdp311 3 _ 168 zy rfl rfl).1 rfl)).symm
   refine op_cmp (b := (decide (((r284 : Nat) : Int) = 0))) (zC hN311 rfl q311_168) rfl (b_eql rfl) ?_
   refine kt_end rfl hB269 ?_
   intro w312 E312 a312 hN312 hd312 hbs312 hph312
   have hd312 := hd312.trans ((by simp only [putsL_defers] : _ = _).trans hd137)
   have := E312.size
   have hov9 := hov9.keep0 E312
   have hw130 := hw130.keep0 E312
   have hI9 := hI9.keep0 E312
   have he263 := he263.keep0 E312
   obtain ⟨hB15, hB280⟩ := kb2 E312 hB15 hB280
   have hk284 := hk284.keepG (zi E312 NoB) (fun _ _ h => h)
   have hx6 := hx6.keep0 E312
   have hb := hb.step0 E312
   have s312_6 := (hbs312 6 rfl).trans (zL hN137 rfl s137_6)
   have s312_7 := (hbs312 7 rfl).trans (zL hN137 rfl s137_7)
   have s312_169 : Sl a312 169 (.bool (decide (((r284 : Nat) : Int) = 0))) := (zE ((hph312 4 _ 169 rfl rfl).1 rfl)).symm
   refine split_end ?_
   refine from_seq (tl := [_, _]) zz zy rfl ?_
   refine zM fld45_11 (zC hN312 rfl s312_7) ?_
   have hx6_old := hx6
   refine za (vs := [(.bool (decide (((r284 : Nat) : Int) = 0)))]) (cs' := [(.int .i64 6), (.string (bs (D.getD r default).t.nm)), (.string (bs [])), (.slice none 0 0), (.slice none 0 0), (.slice none 0 0), iv9, (.string (bs jo9)), ov9, wv130, (.slice (some ⟨b278, 0, none⟩) 1 1), (.bool (decide (((r284 : Nat) : Int) = 0))), (.slice none 0 0)]) size4 (zA hN312 rfl) (zC hN312 rfl s312_169) rfl rfl rfl hx6 (zI rfl) rfl ?_
   intro w315 hx6 E316
   have := E316.size
   have hB15 := hB15.keep E316 sB
   have hov9 := hov9.keep E316 sO
   have hw130 := hw130.keep E316 sO
   have hI9 := hI9.keep E316 sO
   have he263 := he263.keep E316 sO
   have hB280 := hB280.keep E316 (sN hB280 hx6_old)
   have hk284 := hk284.keepG (Gr.of E316) (Dj.one dj22)
   have hb := hb.step1 E316 zx
   refine zB ?_
   refine hK254 _ _ (zF fun K317 hK317 => ?_)
   refine zH ?_
   refine zY agg45 rfl (zC hN312 rfl s312_7) hx6 ?_
   have hB15_old := hB15
   refine zZ size45 (zC hN312 rfl s312_6) (zA hN312 rfl) rfl (by simp only [List.all_cons, List.all_nil, Bool.true_and, Bool.and_true, hI9.one, hov9.1.one, hw130.1.one]; try rfl) hB15 rfl ?_
   intro w320 hB15 E321
   have := E321.size
   have hov9 := hov9.keep E321 sO
   have hw130 := hw130.keep E321 sO
   have hI9 := hI9.keep E321 sO
   have he263 := he263.keep E321 sO
   have hB280 := hB280.keep E321 (sN hB280 hB15_old)
   have hk284 := hk284.keepG (Gr.of E321) (Dj.one dj16)
   have hb := hb.step1 E321 zx
   refine zB ?_
   refine hK317 _ _ (wp_ret ?_)
   refine retC rfl hd312 (zC hN312 rfl s312_6) agg45 rfl hB15 ⟨_, rfl, ?_⟩
   exact ⟨hb, XS.mk (StF.mk 6 ((D.getD r default).t.nm) [] (.slice none 0 0) [] (.slice none 0 0) [] (.slice none 0 0) [] iv9 I9 jo9 ov9 on9 wv130 wh130 (.slice (some ⟨b278, 0, none⟩) 1 1) ([e263]) (decide (((r284 : Nat) : Int) = 0))) (.slice none 0 0) [], rfl, SFr.flat ⟨(rdN _ _ _ _), (rdN _ _ _ _), (XsFr.nil _ _ _), (hI9.mono zx zx), (hov9.mono zx zx), (hw130.mono zx zx), (XsFr.lit1 (x := e263) hB280 zx hB280.lt (he263.mono zx zx))⟩ rfl rfl, n284, hk284, by omega⟩
  refine one_mem ?_
  intro w322 E322 _ a322 hN322 hbs322 hdp322 o_ ho_; obtain rfl := zE ho_
  have := E322.size
  have hbl := hbl.keep0 E322
  have hov9 := hov9.keep0 E322
  have hw130 := hw130.keep0 E322
  have hI9 := hI9.keep0 E322
  obtain ⟨hB15, hx6⟩ := kb2 E322 hB15 hx6
  have hk263 := hk263.keepG (zi E322 NoB) (fun _ _ h => h)
  have he263 := he263.keep0 E322
  have hB269 := hB269.keep0 E322
  have hb := hb.step0 E322
  have q322_167 : Sl a322 167 (ptr p 0) := (hdp322 2 _ 167 zy rfl rfl).2 rfl
  refine zj ok35 (Num_ret (m := 2) hk263 zx hbl zx zx) ⟨(zC hN322 rfl q322_167), ⟨rfl, trivial⟩⟩ ?_
  rintro _ w324 ⟨E325, r323, rfl, hr323, n323, hk323, hn323, hn323x⟩
  have := E325.size
  have hB15 := hB15.keepG E325 dj16
  have hov9 := hov9.keepG E325 sP
  have hw130 := hw130.keepG E325 sP
  have hI9 := hI9.keepG E325 sP
  have hx6 := hx6.keepG E325 dj22
  have he263 := he263.keepG E325 sP
  have hB269 := hB269.keepG E325 dj270
  have hb := hb.stepF E325 (fun _ _ h => h)
  refine kt_end rfl hB269 ?_
  refine kt_step (rs := [1, 4]) zy ?_
  refine more_mem ?_ ?_
  ·
   intro w327 E327 _ a327 hN327 hbs327 hdp327 o_ ho_; obtain rfl := zE ho_
   have := E327.size
   have hov9 := hov9.keep0 E327
   have hw130 := hw130.keep0 E327
   have hI9 := hI9.keep0 E327
   have he263 := he263.keep0 E327
   obtain ⟨hB15, hx6, hB269⟩ := kb3 E327 hB15 hx6 hB269
   have hk323 := hk323.keepG (zi E327 NoB) (fun _ _ h => h)
   have hb := hb.step0 E327
   have q327_165 : Sl a327 165 (.agg #[(.int .i64 e263.op), (.int .i64 e263.vk), (.int .i64 e263.vi), (.string (bs e263.vt)), (.string (bs e263.tb)), (.string (bs e263.nm)), e263.av]) := (hdp327 0 _ 165 zy rfl rfl).2 rfl
   refine op_bslice (e := 28) (pv := [(0, (.agg #[(.int .i64 e263.op), (.int .i64 e263.vk), (.int .i64 e263.vi), (.string (bs e263.vt)), (.string (bs e263.tb)), (.string (bs e263.nm)), e263.av]))]) (cs := [(.int .i64 e263.op), (.int .i64 e263.vk), (.int .i64 e263.vi), (.string (bs e263.vt)), (.string (bs e263.tb)), (.string (bs e263.nm)), e263.av]) ⟨rfl, (zC hN327 rfl q327_165), trivial⟩ zy ?_
   intro w328 b329 lo_b329 hi_b329 hB331 E330
   have dj332 : ¬ (fun k => k = p) b329 := fun hf => by have := (hk323.lt _ hf).2; omega
   have := E330.size
   have hov9 := hov9.keep0 E330
   have hw130 := hw130.keep0 E330
   have hI9 := hI9.keep0 E330
   have he263 := he263.keep0 E330
   obtain ⟨hB15, hx6, hB269⟩ := kb3 E330 hB15 hx6 hB269
   have hk323 := hk323.keepG (zi E330 NoB) (fun _ _ h => h)
   have hb := hb.step0 E330
   refine kt_end rfl hB269 ?_
   refine kt_step (rs := [4, 6]) zy ?_
   refine more_mem ?_ ?_
   ·
    intro w334 E334 _ a334 hN334 hbs334 hdp334 o_ ho_; obtain rfl := zE ho_
    have := E334.size
    have hov9 := hov9.keep0 E334
    have hw130 := hw130.keep0 E334
    have hI9 := hI9.keep0 E334
    have he263 := he263.keep0 E334
    obtain ⟨hB15, hx6, hB269⟩ := kb3 E334 hB15 hx6 hB269
    have hk323 := hk323.keepG (zi E334 NoB) (fun _ _ h => h)
    have hB331 := hB331.keep0 E334
    have hb := hb.step0 E334
    have q334_168 : Sl a334 168 (.int .i64 ((r323 : Nat) : Int)) := (zE ((hdp334 3 _ 168 zy rfl rfl).1 rfl)).symm
    refine op_cmp (b := (decide (((r323 : Nat) : Int) = 0))) (zC hN334 rfl q334_168) rfl (b_eql rfl) ?_
    refine kt_end rfl hB269 ?_
    refine kt_step (rs := [6]) zy ?_
    refine one_mem ?_
    intro w336 E336 _ a336 hN336 hbs336 hdp336 o_ ho_; obtain rfl := zE ho_
    have := E336.size
    have hov9 := hov9.keep0 E336
    have hw130 := hw130.keep0 E336
    have hI9 := hI9.keep0 E336
    have he263 := he263.keep0 E336
    obtain ⟨hB15, hx6, hB269⟩ := kb3 E336 hB15 hx6 hB269
    have hk323 := hk323.keepG (zi E336 NoB) (fun _ _ h => h)
    have hB331 := hB331.keep0 E336
    have hb := hb.step0 E336
    have q336_170 : Sl a336 170 (ptr b19 10) := (hdp336 5 _ 170 zy rfl rfl).2 rfl
    have q336_166 : Sl a336 166 (.slice (some ⟨b329, 0, none⟩) 1 1) := (zE ((hdp336 1 _ 166 zy rfl rfl).1 rfl)).symm
    have hx6_old := hx6
    refine za (vs := [(.slice (some ⟨b329, 0, none⟩) 1 1)]) (cs' := [(.int .i64 6), (.string (bs (D.getD r default).t.nm)), (.string (bs [])), (.slice none 0 0), (.slice none 0 0), (.slice none 0 0), iv9, (.string (bs jo9)), ov9, wv130, (.slice (some ⟨b329, 0, none⟩) 1 1), (.bool false), (.slice none 0 0)]) size26 (zC hN336 rfl q336_170) (zC hN336 rfl q336_166) rfl rfl rfl hx6 (zI rfl) rfl ?_
    intro w339 hx6 E340
    have := E340.size
    have hB15 := hB15.keep E340 sB
    have hov9 := hov9.keep E340 sO
    have hw130 := hw130.keep E340 sO
    have hI9 := hI9.keep E340 sO
    have he263 := he263.keep E340 sO
    have hB269 := hB269.keep E340 (sN hB269 hx6_old)
    have hk323 := hk323.keepG (Gr.of E340) (Dj.one dj22)
    have hB331 := hB331.keep E340 (sN hB331 hx6_old)
    have hb := hb.step1 E340 zx
    refine kt_end0 rfl hB269 ?_
    intro w341 E341 a341 hN341 hd341 hbs341 hph341
    have hd341 := hd341.trans ((by simp only [putsL_defers] : _ = _).trans hd137)
    have := E341.size
    have hB15 := hB15.keep0 E341
    have hov9 := hov9.keep0 E341
    have hw130 := hw130.keep0 E341
    have hI9 := hI9.keep0 E341
    have he263 := he263.keep0 E341
    have hk323 := hk323.keepG (zi E341 NoB) (fun _ _ h => h)
    obtain ⟨hB331, hx6⟩ := kb2 E341 hB331 hx6
    have hb := hb.step0 E341
    have s341_6 := (hbs341 6 rfl).trans (zL hN137 rfl s137_6)
    have s341_7 := (hbs341 7 rfl).trans (zL hN137 rfl s137_7)
    have s341_169 : Sl a341 169 (.bool (decide (((r323 : Nat) : Int) = 0))) := (zE ((hph341 4 _ 169 rfl rfl).1 rfl)).symm
    refine split_end ?_
    refine from_seq (tl := [_, _]) zz zy rfl ?_
    refine zM fld45_11 (zC hN341 rfl s341_7) ?_
    have hx6_old := hx6
    refine za (vs := [(.bool (decide (((r323 : Nat) : Int) = 0)))]) (cs' := [(.int .i64 6), (.string (bs (D.getD r default).t.nm)), (.string (bs [])), (.slice none 0 0), (.slice none 0 0), (.slice none 0 0), iv9, (.string (bs jo9)), ov9, wv130, (.slice (some ⟨b329, 0, none⟩) 1 1), (.bool (decide (((r323 : Nat) : Int) = 0))), (.slice none 0 0)]) size4 (zA hN341 rfl) (zC hN341 rfl s341_169) rfl rfl rfl hx6 (zI rfl) rfl ?_
    intro w344 hx6 E345
    have := E345.size
    have hB15 := hB15.keep E345 sB
    have hov9 := hov9.keep E345 sO
    have hw130 := hw130.keep E345 sO
    have hI9 := hI9.keep E345 sO
    have he263 := he263.keep E345 sO
    have hk323 := hk323.keepG (Gr.of E345) (Dj.one dj22)
    have hB331 := hB331.keep E345 (sN hB331 hx6_old)
    have hb := hb.step1 E345 zx
    refine zB ?_
    refine hK254 _ _ (zF fun K346 hK346 => ?_)
    refine zH ?_
    refine zY agg45 rfl (zC hN341 rfl s341_7) hx6 ?_
    have hB15_old := hB15
    refine zZ size45 (zC hN341 rfl s341_6) (zA hN341 rfl) rfl (by simp only [List.all_cons, List.all_nil, Bool.true_and, Bool.and_true, hI9.one, hov9.1.one, hw130.1.one]; try rfl) hB15 rfl ?_
    intro w349 hB15 E350
    have := E350.size
    have hov9 := hov9.keep E350 sO
    have hw130 := hw130.keep E350 sO
    have hI9 := hI9.keep E350 sO
    have he263 := he263.keep E350 sO
    have hk323 := hk323.keepG (Gr.of E350) (Dj.one dj16)
    have hB331 := hB331.keep E350 (sN hB331 hB15_old)
    have hb := hb.step1 E350 zx
    refine zB ?_
    refine hK346 _ _ (wp_ret ?_)
    refine retC rfl hd341 (zC hN341 rfl s341_6) agg45 rfl hB15 ⟨_, rfl, ?_⟩
    exact ⟨hb, XS.mk (StF.mk 6 ((D.getD r default).t.nm) [] (.slice none 0 0) [] (.slice none 0 0) [] (.slice none 0 0) [] iv9 I9 jo9 ov9 on9 wv130 wh130 (.slice (some ⟨b329, 0, none⟩) 1 1) ([e263]) (decide (((r323 : Nat) : Int) = 0))) (.slice none 0 0) [], rfl, SFr.flat ⟨(rdN _ _ _ _), (rdN _ _ _ _), (XsFr.nil _ _ _), (hI9.mono zx zx), (hov9.mono zx zx), (hw130.mono zx zx), (XsFr.lit1 (x := e263) hB331 zx hB331.lt (he263.mono zx zx))⟩ rfl rfl, n323, hk323, by omega⟩
   refine one_mem ?_
   intro w351 E351 _ a351 hN351 hbs351 hdp351 o_ ho_; obtain rfl := zE ho_
   have := E351.size
   have hov9 := hov9.keep0 E351
   have hw130 := hw130.keep0 E351
   have hI9 := hI9.keep0 E351
   have he263 := he263.keep0 E351
   obtain ⟨hB15, hx6, hB269⟩ := kb3 E351 hB15 hx6 hB269
   have hk323 := hk323.keepG (zi E351 NoB) (fun _ _ h => h)
   have hB331 := hB331.keep0 E351
   have hb := hb.step0 E351
   have q351_170 : Sl a351 170 (ptr b19 10) := (hdp351 5 _ 170 zy rfl rfl).2 rfl
   have q351_166 : Sl a351 166 (.slice (some ⟨b329, 0, none⟩) 1 1) := (zE ((hdp351 1 _ 166 zy rfl rfl).1 rfl)).symm
   have hx6_old := hx6
   refine za (vs := [(.slice (some ⟨b329, 0, none⟩) 1 1)]) (cs' := [(.int .i64 6), (.string (bs (D.getD r default).t.nm)), (.string (bs [])), (.slice none 0 0), (.slice none 0 0), (.slice none 0 0), iv9, (.string (bs jo9)), ov9, wv130, (.slice (some ⟨b329, 0, none⟩) 1 1), (.bool false), (.slice none 0 0)]) size26 (zC hN351 rfl q351_170) (zC hN351 rfl q351_166) rfl rfl rfl hx6 (zI rfl) rfl ?_
   intro w354 hx6 E355
   have := E355.size
   have hB15 := hB15.keep E355 sB
   have hov9 := hov9.keep E355 sO
   have hw130 := hw130.keep E355 sO
   have hI9 := hI9.keep E355 sO
   have he263 := he263.keep E355 sO
   have hB269 := hB269.keep E355 (sN hB269 hx6_old)
   have hk323 := hk323.keepG (Gr.of E355) (Dj.one dj22)
   have hB331 := hB331.keep E355 (sN hB331 hx6_old)
   have hb := hb.step1 E355 zx
   refine kt_end0 rfl hB269 ?_
   refine kt_step (rs := [4]) zy ?_
   refine one_mem ?_
   intro w357 E357 _ a357 hN357 hbs357 hdp357 o_ ho_; obtain rfl := zE ho_
   have := E357.size
   have hov9 := hov9.keep0 E357
   have hw130 := hw130.keep0 E357
   have hI9 := hI9.keep0 E357
   have he263 := he263.keep0 E357
   obtain ⟨hB15, hB269⟩ := kb2 E357 hB15 hB269
   have hk323 := hk323.keepG (zi E357 NoB) (fun _ _ h => h)
   obtain ⟨hB331, hx6⟩ := kb2 E357 hB331 hx6
   have hb := hb.step0 E357
   have q357_168 : Sl a357 168 (.int .i64 ((r323 : Nat) : Int)) := (zE ((hdp357 3 _ 168 zy rfl rfl).1 rfl)).symm
   refine op_cmp (b := (decide (((r323 : Nat) : Int) = 0))) (zC hN357 rfl q357_168) rfl (b_eql rfl) ?_
   refine kt_end rfl hB269 ?_
   intro w358 E358 a358 hN358 hd358 hbs358 hph358
   have hd358 := hd358.trans ((by simp only [putsL_defers] : _ = _).trans hd137)
   have := E358.size
   have hB15 := hB15.keep0 E358
   have hov9 := hov9.keep0 E358
   have hw130 := hw130.keep0 E358
   have hI9 := hI9.keep0 E358
   have he263 := he263.keep0 E358
   have hk323 := hk323.keepG (zi E358 NoB) (fun _ _ h => h)
   obtain ⟨hB331, hx6⟩ := kb2 E358 hB331 hx6
   have hb := hb.step0 E358
   have s358_6 := (hbs358 6 rfl).trans (zL hN137 rfl s137_6)
   have s358_7 := (hbs358 7 rfl).trans (zL hN137 rfl s137_7)
   have s358_169 : Sl a358 169 (.bool (decide (((r323 : Nat) : Int) = 0))) := (zE ((hph358 4 _ 169 rfl rfl).1 rfl)).symm
   refine split_end ?_
   refine from_seq (tl := [_, _]) zz zy rfl ?_
   refine zM fld45_11 (zC hN358 rfl s358_7) ?_
   have hx6_old := hx6
   refine za (vs := [(.bool (decide (((r323 : Nat) : Int) = 0)))]) (cs' := [(.int .i64 6), (.string (bs (D.getD r default).t.nm)), (.string (bs [])), (.slice none 0 0), (.slice none 0 0), (.slice none 0 0), iv9, (.string (bs jo9)), ov9, wv130, (.slice (some ⟨b329, 0, none⟩) 1 1), (.bool (decide (((r323 : Nat) : Int) = 0))), (.slice none 0 0)]) size4 (zA hN358 rfl) (zC hN358 rfl s358_169) rfl rfl rfl hx6 (zI rfl) rfl ?_
   intro w361 hx6 E362
   have := E362.size
   have hB15 := hB15.keep E362 sB
   have hov9 := hov9.keep E362 sO
   have hw130 := hw130.keep E362 sO
   have hI9 := hI9.keep E362 sO
   have he263 := he263.keep E362 sO
   have hk323 := hk323.keepG (Gr.of E362) (Dj.one dj22)
   have hB331 := hB331.keep E362 (sN hB331 hx6_old)
   have hb := hb.step1 E362 zx
   refine zB ?_
   refine hK254 _ _ (zF fun K363 hK363 => ?_)
   refine zH ?_
   refine zY agg45 rfl (zC hN358 rfl s358_7) hx6 ?_
   have hB15_old := hB15
   refine zZ size45 (zC hN358 rfl s358_6) (zA hN358 rfl) rfl (by simp only [List.all_cons, List.all_nil, Bool.true_and, Bool.and_true, hI9.one, hov9.1.one, hw130.1.one]; try rfl) hB15 rfl ?_
   intro w366 hB15 E367
   have := E367.size
   have hov9 := hov9.keep E367 sO
   have hw130 := hw130.keep E367 sO
   have hI9 := hI9.keep E367 sO
   have he263 := he263.keep E367 sO
   have hk323 := hk323.keepG (Gr.of E367) (Dj.one dj16)
   have hB331 := hB331.keep E367 (sN hB331 hB15_old)
   have hb := hb.step1 E367 zx
   refine zB ?_
   refine hK363 _ _ (wp_ret ?_)
   refine retC rfl hd358 (zC hN358 rfl s358_6) agg45 rfl hB15 ⟨_, rfl, ?_⟩
   exact ⟨hb, XS.mk (StF.mk 6 ((D.getD r default).t.nm) [] (.slice none 0 0) [] (.slice none 0 0) [] (.slice none 0 0) [] iv9 I9 jo9 ov9 on9 wv130 wh130 (.slice (some ⟨b329, 0, none⟩) 1 1) ([e263]) (decide (((r323 : Nat) : Int) = 0))) (.slice none 0 0) [], rfl, SFr.flat ⟨(rdN _ _ _ _), (rdN _ _ _ _), (XsFr.nil _ _ _), (hI9.mono zx zx), (hov9.mono zx zx), (hw130.mono zx zx), (XsFr.lit1 (x := e263) hB331 zx hB331.lt (he263.mono zx zx))⟩ rfl rfl, n323, hk323, by omega⟩
  refine one_mem ?_
  intro w368 E368 _ a368 hN368 hbs368 hdp368 o_ ho_; obtain rfl := zE ho_
  have := E368.size
  have hov9 := hov9.keep0 E368
  have hw130 := hw130.keep0 E368
  have hI9 := hI9.keep0 E368
  have he263 := he263.keep0 E368
  obtain ⟨hB15, hx6, hB269⟩ := kb3 E368 hB15 hx6 hB269
  have hk323 := hk323.keepG (zi E368 NoB) (fun _ _ h => h)
  have hb := hb.step0 E368
  have q368_168 : Sl a368 168 (.int .i64 ((r323 : Nat) : Int)) := (zE ((hdp368 3 _ 168 zy rfl rfl).1 rfl)).symm
  refine op_cmp (b := (decide (((r323 : Nat) : Int) = 0))) (zC hN368 rfl q368_168) rfl (b_eql rfl) ?_
  refine kt_end rfl hB269 ?_
  refine kt_step (rs := [1]) zy ?_
  refine one_mem ?_
  intro w370 E370 _ a370 hN370 hbs370 hdp370 o_ ho_; obtain rfl := zE ho_
  have := E370.size
  have hov9 := hov9.keep0 E370
  have hw130 := hw130.keep0 E370
  have hI9 := hI9.keep0 E370
  have he263 := he263.keep0 E370
  obtain ⟨hB15, hx6, hB269⟩ := kb3 E370 hB15 hx6 hB269
  have hk323 := hk323.keepG (zi E370 NoB) (fun _ _ h => h)
  have hb := hb.step0 E370
  have q370_165 : Sl a370 165 (.agg #[(.int .i64 e263.op), (.int .i64 e263.vk), (.int .i64 e263.vi), (.string (bs e263.vt)), (.string (bs e263.tb)), (.string (bs e263.nm)), e263.av]) := (hdp370 0 _ 165 zy rfl rfl).2 rfl
  refine op_bslice (e := 28) (pv := [(0, (.agg #[(.int .i64 e263.op), (.int .i64 e263.vk), (.int .i64 e263.vi), (.string (bs e263.vt)), (.string (bs e263.tb)), (.string (bs e263.nm)), e263.av]))]) (cs := [(.int .i64 e263.op), (.int .i64 e263.vk), (.int .i64 e263.vi), (.string (bs e263.vt)), (.string (bs e263.tb)), (.string (bs e263.nm)), e263.av]) ⟨rfl, (zC hN370 rfl q370_165), trivial⟩ zy ?_
  intro w371 b372 lo_b372 hi_b372 hB374 E373
  have dj375 : ¬ (fun k => k = p) b372 := fun hf => by have := (hk323.lt _ hf).2; omega
  have := E373.size
  have hov9 := hov9.keep0 E373
  have hw130 := hw130.keep0 E373
  have hI9 := hI9.keep0 E373
  have he263 := he263.keep0 E373
  obtain ⟨hB15, hx6, hB269⟩ := kb3 E373 hB15 hx6 hB269
  have hk323 := hk323.keepG (zi E373 NoB) (fun _ _ h => h)
  have hb := hb.step0 E373
  refine kt_end rfl hB269 ?_
  refine kt_step (rs := [6]) zy ?_
  refine one_mem ?_
  intro w377 E377 _ a377 hN377 hbs377 hdp377 o_ ho_; obtain rfl := zE ho_
  have := E377.size
  have hov9 := hov9.keep0 E377
  have hw130 := hw130.keep0 E377
  have hI9 := hI9.keep0 E377
  have he263 := he263.keep0 E377
  obtain ⟨hB15, hx6, hB269⟩ := kb3 E377 hB15 hx6 hB269
  have hk323 := hk323.keepG (zi E377 NoB) (fun _ _ h => h)
  have hB374 := hB374.keep0 E377
  have hb := hb.step0 E377
  have q377_170 : Sl a377 170 (ptr b19 10) := (hdp377 5 _ 170 zy rfl rfl).2 rfl
  have q377_166 : Sl a377 166 (.slice (some ⟨b372, 0, none⟩) 1 1) := (zE ((hdp377 1 _ 166 zy rfl rfl).1 rfl)).symm
  have hx6_old := hx6
  refine za (vs := [(.slice (some ⟨b372, 0, none⟩) 1 1)]) (cs' := [(.int .i64 6), (.string (bs (D.getD r default).t.nm)), (.string (bs [])), (.slice none 0 0), (.slice none 0 0), (.slice none 0 0), iv9, (.string (bs jo9)), ov9, wv130, (.slice (some ⟨b372, 0, none⟩) 1 1), (.bool false), (.slice none 0 0)]) size26 (zC hN377 rfl q377_170) (zC hN377 rfl q377_166) rfl rfl rfl hx6 (zI rfl) rfl ?_
  intro w380 hx6 E381
  have := E381.size
  have hB15 := hB15.keep E381 sB
  have hov9 := hov9.keep E381 sO
  have hw130 := hw130.keep E381 sO
  have hI9 := hI9.keep E381 sO
  have he263 := he263.keep E381 sO
  have hB269 := hB269.keep E381 (sN hB269 hx6_old)
  have hk323 := hk323.keepG (Gr.of E381) (Dj.one dj22)
  have hB374 := hB374.keep E381 (sN hB374 hx6_old)
  have hb := hb.step1 E381 zx
  refine kt_end0 rfl hB269 ?_
  intro w382 E382 a382 hN382 hd382 hbs382 hph382
  have hd382 := hd382.trans ((by simp only [putsL_defers] : _ = _).trans hd137)
  have := E382.size
  have hB15 := hB15.keep0 E382
  have hov9 := hov9.keep0 E382
  have hw130 := hw130.keep0 E382
  have hI9 := hI9.keep0 E382
  have he263 := he263.keep0 E382
  have hk323 := hk323.keepG (zi E382 NoB) (fun _ _ h => h)
  obtain ⟨hB374, hx6⟩ := kb2 E382 hB374 hx6
  have hb := hb.step0 E382
  have s382_6 := (hbs382 6 rfl).trans (zL hN137 rfl s137_6)
  have s382_7 := (hbs382 7 rfl).trans (zL hN137 rfl s137_7)
  have s382_169 : Sl a382 169 (.bool (decide (((r323 : Nat) : Int) = 0))) := (zE ((hph382 4 _ 169 rfl rfl).1 rfl)).symm
  refine split_end ?_
  refine from_seq (tl := [_, _]) zz zy rfl ?_
  refine zM fld45_11 (zC hN382 rfl s382_7) ?_
  have hx6_old := hx6
  refine za (vs := [(.bool (decide (((r323 : Nat) : Int) = 0)))]) (cs' := [(.int .i64 6), (.string (bs (D.getD r default).t.nm)), (.string (bs [])), (.slice none 0 0), (.slice none 0 0), (.slice none 0 0), iv9, (.string (bs jo9)), ov9, wv130, (.slice (some ⟨b372, 0, none⟩) 1 1), (.bool (decide (((r323 : Nat) : Int) = 0))), (.slice none 0 0)]) size4 (zA hN382 rfl) (zC hN382 rfl s382_169) rfl rfl rfl hx6 (zI rfl) rfl ?_
  intro w385 hx6 E386
  have := E386.size
  have hB15 := hB15.keep E386 sB
  have hov9 := hov9.keep E386 sO
  have hw130 := hw130.keep E386 sO
  have hI9 := hI9.keep E386 sO
  have he263 := he263.keep E386 sO
  have hk323 := hk323.keepG (Gr.of E386) (Dj.one dj22)
  have hB374 := hB374.keep E386 (sN hB374 hx6_old)
  have hb := hb.step1 E386 zx
  refine zB ?_
  refine hK254 _ _ (zF fun K387 hK387 => ?_)
  refine zH ?_
  refine zY agg45 rfl (zC hN382 rfl s382_7) hx6 ?_
  have hB15_old := hB15
  refine zZ size45 (zC hN382 rfl s382_6) (zA hN382 rfl) rfl (by simp only [List.all_cons, List.all_nil, Bool.true_and, Bool.and_true, hI9.one, hov9.1.one, hw130.1.one]; try rfl) hB15 rfl ?_
  intro w390 hB15 E391
  have := E391.size
  have hov9 := hov9.keep E391 sO
  have hw130 := hw130.keep E391 sO
  have hI9 := hI9.keep E391 sO
  have he263 := he263.keep E391 sO
  have hk323 := hk323.keepG (Gr.of E391) (Dj.one dj16)
  have hB374 := hB374.keep E391 (sN hB374 hB15_old)
  have hb := hb.step1 E391 zx
  refine zB ?_
  refine hK387 _ _ (wp_ret ?_)
  refine retC rfl hd382 (zC hN382 rfl s382_6) agg45 rfl hB15 ⟨_, rfl, ?_⟩
  exact ⟨hb, XS.mk (StF.mk 6 ((D.getD r default).t.nm) [] (.slice none 0 0) [] (.slice none 0 0) [] (.slice none 0 0) [] iv9 I9 jo9 ov9 on9 wv130 wh130 (.slice (some ⟨b372, 0, none⟩) 1 1) ([e263]) (decide (((r323 : Nat) : Int) = 0))) (.slice none 0 0) [], rfl, SFr.flat ⟨(rdN _ _ _ _), (rdN _ _ _ _), (XsFr.nil _ _ _), (hI9.mono zx zx), (hov9.mono zx zx), (hw130.mono zx zx), (XsFr.lit1 (x := e263) hB374 zx hB374.lt (he263.mono zx zx))⟩ rfl rfl, n323, hk323, by omega⟩
 refine zB ?_
 refine hK255 _ _ (wp_cond_false (zA hN137 rfl) (wp_skip (hK254 _ _ (zF fun K392 hK392 => ?_))))
 refine zH ?_
 refine zY agg45 rfl (zC hN137 rfl s137_7) hx6 ?_
 refine zZ size45 (zC hN137 rfl s137_6) (zA hN137 rfl) rfl (by simp only [List.all_cons, List.all_nil, Bool.true_and, Bool.and_true, hI9.one, hov9.1.one, hw130.1.one]; try rfl) hB15 rfl ?_
 intro w395 hB15 E396
 have := E396.size
 have hov9 := hov9.keep E396 sO
 have hw130 := hw130.keep E396 sO
 have hI9 := hI9.keep E396 sO
 have hk256 := hk256.keepG (Gr.of E396) (Dj.one dj16)
 have hb := hb.step1 E396 zx
 refine zB ?_
 refine hK392 _ _ (wp_ret ?_)
 refine retC rfl hd137 (zC hN137 rfl s137_6) agg45 rfl hB15 ⟨_, rfl, ?_⟩
 exact ⟨hb, XS.mk (StF.mk 6 ((D.getD r default).t.nm) [] (.slice none 0 0) [] (.slice none 0 0) [] (.slice none 0 0) [] iv9 I9 jo9 ov9 on9 wv130 wh130 (.slice none 0 0) [] false) (.slice none 0 0) [], rfl, SFr.flat ⟨(rdN _ _ _ _), (rdN _ _ _ _), (XsFr.nil _ _ _), (hI9.mono zx zx), (hov9.mono zx zx), (hw130.mono zx zx), (XsFr.nil _ _ _)⟩ rfl rfl, n256, hk256, by omega⟩

end Go.Proofs.Ythflnkfghogaoaa
