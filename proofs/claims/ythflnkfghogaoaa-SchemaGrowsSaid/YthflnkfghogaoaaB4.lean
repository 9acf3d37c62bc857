/- Walks, written by a program: what each function of the translation hands back. -/
import Derived.Lib.Bytealg
import Derived.Lib.UnsafeStr
import Derived.Test.YthflnkfghogaoaaB3
set_option linter.unusedVariables false
set_option linter.unusedSimpArgs false

namespace Go.Proofs.Ythflnkfghogaoaa
open Go.Gx Go.RowKit
attribute [local irreducible] wpList wpStill Code.wp Calls

theorem IdxV {L : List DVw} {v : Value} {p : DVw → Bool} {w : World} (hl : RdC w 0 w.heap.size 15 v L.length (L.flatMap cellsW)) {g : Nat} {fs cs : List Value} (hokg : callOk Try.prog g = true) (hf : ∀ i, i < L.length → ∀ w1, Below w.heap.size w w1 → Ret Try.prog g (fs ++ [(Value.agg #[(Value.string (bs (L.getD i default).nm)), (L.getD i default).sv, (Value.int .i64 (L.getD i default).act.f.kind), (Value.string (bs (L.getD i default).act.f.tb)), (Value.string (bs (L.getD i default).act.f.nm)), (L.getD i default).act.f.cv, (L.getD i default).act.f.gv, (L.getD i default).act.f.vv, (L.getD i default).act.f.iv, (Value.string (bs (L.getD i default).act.f.join)), (L.getD i default).act.f.ov, (L.getD i default).act.f.wv, (L.getD i default).act.f.rv, (Value.bool (L.getD i default).act.f.desc), (L.getD i default).act.nv])] ++ cs).toArray w1 (fun v' w' => Below w1.heap.size w1 w' ∧ v' = .bool (p (L.getD i default)))) : Ret Try.prog 100 #[v, (Value.func (.func g) fs.toArray cs.toArray)] w (fun v' w' => Below w.heap.size w w' ∧ v' = .int .i64 (ixOf p L)) := by
 have hlm := rd_len hl
 have hb := Below.refl w.heap.size w
 refine enter (N := 19) Try.func100 rfl rfl (by simp) fun a0 hN hd hA => ?_
 have s0 : a0.tmps.getD 0 undef = v := hA 0 (by simp)
 have s1 : a0.tmps.getD 1 undef = (.func (.func g) fs.toArray cs.toArray) := hA 1 (by simp)
 clear hA
 refine zF fun K29 hK29 => ?_
 refine zH ?_
 refine zD rfl ?_
 refine zB ?_
 refine hK29 _ _ (zF fun K30 hK30 => ?_)
 refine zF fun K31 hK31 => ?_
 refine zH ?_
 refine zG (zC hN rfl s0) ?_
 refine op_len_rd Try.underlying37 (zA hN rfl) hl ?_
 refine zG rfl ?_
 refine zB ?_
 refine hK31 _ _ (wp_block ?_)
 refine loop_m (fun mz_ az_ w' => ∃ (i : Nat), mz_ = L.length - i ∧ (az_.tmps.getD 0 undef = v) ∧ (az_.tmps.getD 1 undef = (.func (.func g) fs.toArray cs.toArray)) ∧ (az_.tmps.getD 7 undef = (.int .i64 ((L.length : Nat) : Int))) ∧ (az_.tmps.getD 8 undef = (.int .i64 ((i : Nat) : Int))) ∧ (i ≤ L.length) ∧ (∀ j, j < i → p (L.getD j default) = false) ∧ (Below w.heap.size w w') ∧ (w.heap.size ≤ w'.heap.size) ∧ (RdC w' 0 w.heap.size 15 v L.length (L.flatMap cellsW))) _ hN hd ⟨0, rfl, (zL hN rfl s0), (zL hN rfl s1), (zU hN rfl), (zU hN rfl), (Nat.zero_le _), (fun _ h => absurd h (Nat.not_lt_zero _)), hb, (Nat.le_refl _), hl⟩ ?_
 rintro _ a32 w32 hN32 hd32 ⟨i, rfl, s32_0, s32_1, s32_7, s32_8, hi, hall, hb, zl_w32, hl⟩
 have := hb.size
 refine zF fun K33 hK33 => ?_
 refine zH ?_
 refine op_lss (zC hN32 rfl s32_8) (zC hN32 rfl s32_7) (fun c9 => ?_) (fun c9 => ?_)
 ·
  refine zB ?_
  refine hK33 _ _ (zF fun K34 hK34 => ?_)
  refine wp_cond_true (zA hN32 rfl) (wp_skip (hK34 _ _ (zF fun K35 hK35 => ?_)))
  refine wp_block ?_
  refine zF fun K36 hK36 => ?_
  refine zH ?_
  refine zG (zC hN32 rfl s32_8) ?_
  refine zD (zA hN32 rfl) ?_
  refine zB ?_
  refine hK36 _ _ (zF fun K37 hK37 => ?_)
  refine zH ?_
  refine zG (zC hN32 rfl s32_1) ?_
  refine zG (zC hN32 rfl s32_0) ?_
  refine zG (zA hN32 rfl) ?_
  refine zh slt37 (zA hN32 rfl) hl (zA hN32 rfl) zx zx ?_
  intro b38 o39 h0b38 h1b38 hc40
  refine zX (cs := [(.string (bs (L.getD i default).nm)), (L.getD i default).sv, (.int .i64 (L.getD i default).act.f.kind), (.string (bs (L.getD i default).act.f.tb)), (.string (bs (L.getD i default).act.f.nm)), (L.getD i default).act.f.cv, (L.getD i default).act.f.gv, (L.getD i default).act.f.vv, (L.getD i default).act.f.iv, (.string (bs (L.getD i default).act.f.join)), (L.getD i default).act.f.ov, (L.getD i default).act.f.wv, (L.getD i default).act.f.rv, (.bool (L.getD i default).act.f.desc), (L.getD i default).act.nv]) agg98 rfl (zA hN32 rfl) (fun j u hu => hc40 j u (by have := (List.getElem?_eq_some_iff.1 hu).1; simpa using this) ((el_dv (i := i) zx zx) j u hu)) ?_
  refine op_fnv (fs := fs) (vs := [(.agg #[(.string (bs (L.getD i default).nm)), (L.getD i default).sv, (.int .i64 (L.getD i default).act.f.kind), (.string (bs (L.getD i default).act.f.tb)), (.string (bs (L.getD i default).act.f.nm)), (L.getD i default).act.f.cv, (L.getD i default).act.f.gv, (L.getD i default).act.f.vv, (L.getD i default).act.f.iv, (.string (bs (L.getD i default).act.f.join)), (L.getD i default).act.f.ov, (L.getD i default).act.f.wv, (L.getD i default).act.f.rv, (.bool (L.getD i default).act.f.desc), (L.getD i default).act.nv])]) (cs := cs) (zA hN32 rfl) hokg ⟨(zA hN32 rfl), trivial⟩ (hf i zx _ hb) ?_
  rintro _ w41 ⟨E42, rfl⟩
  have E42 := zQ E42
  have := E42.size
  have hl := hl.keep0 E42
  have hb := zP hb E42 hb.size
  rcases Bool.eq_false_or_eq_true ((p (L.getD i default))) with c16 | c16
  ·
   rw [c16]
   refine zB ?_
   refine hK37 _ _ (wp_cond_true (zA hN32 rfl) (zF fun K43 hK43 => ?_))
   refine zH ?_
   refine zG (zA hN32 rfl) ?_
   refine zD (zA hN32 rfl) ?_
   refine zB ?_
   refine hK43 _ _ (wp_ret (zb (zO (zO (zb (zO ( ?_)))))))
   refine ret1 rfl hd32 (zA hN32 rfl) ⟨_, rfl, ?_⟩
   exact ⟨hb, congrArg (Value.int .i64) (ixOf_hit zx hall c16).symm⟩
  rw [c16]
  refine zB ?_
  refine hK37 _ _ (wp_cond_false (zA hN32 rfl) (wp_skip (hK35 _ _ (zH ?_))))
  refine op_add (zC hN32 rfl s32_8) rfl (add64 zx) ?_
  refine zG (zA hN32 rfl) ?_
  refine zB ?_
  -- round 9T 16F
  exact zg _ hN32 hd32 ⟨(i + 1), rfl, (zL hN32 rfl s32_0), (zL hN32 rfl s32_1), (zL hN32 rfl s32_7), (zU hN32 rfl).trans (congrArg (Value.int .i64) zx), zx, (all_next hall c16), hb, zx, hl⟩ zx
 refine zB ?_
 refine hK33 _ _ (zF fun K44 hK44 => ?_)
 refine wp_cond_false (zA hN32 rfl) (wp_exit (then_exit (then_exit (blk_hit ?_))))
 refine hK30 _ _ (zF fun K45 hK45 => ?_)
 refine zH ?_
 refine zD rfl ?_
 refine zB ?_
 refine hK45 _ _ (wp_ret ?_)
 refine ret1 rfl hd32 (zA hN32 rfl) ⟨_, rfl, ?_⟩
 exact ⟨hb, congrArg (Value.int .i64) (ixOf_none zx hall).symm⟩

theorem ofView_ret (d : DVw) (w : World) : Ret Try.prog 78 #[(.agg #[(.string (bs d.nm)), d.sv, (.int .i64 d.act.f.kind), (.string (bs d.act.f.tb)), (.string (bs d.act.f.nm)), d.act.f.cv, d.act.f.gv, d.act.f.vv, d.act.f.iv, (.string (bs d.act.f.join)), d.act.f.ov, d.act.f.wv, d.act.f.rv, (.bool d.act.f.desc), d.act.nv])] w (fun v' w' => Below w.heap.size w w' ∧ v' = .string (bs d.nm)) := by
 have hb := Below.refl w.heap.size w
 refine enter (N := 5) Try.func78 rfl rfl (by simp) fun a0 hN hd hA => ?_
 have s0 : a0.tmps.getD 0 undef = (.agg #[(.string (bs d.nm)), d.sv, (.int .i64 d.act.f.kind), (.string (bs d.act.f.tb)), (.string (bs d.act.f.nm)), d.act.f.cv, d.act.f.gv, d.act.f.vv, d.act.f.iv, (.string (bs d.act.f.join)), d.act.f.ov, d.act.f.wv, d.act.f.rv, (.bool d.act.f.desc), d.act.nv]) := hA 0 (by simp)
 clear hA
 refine zF fun K46 hK46 => ?_
 refine zH ?_
 refine op_box (cs := [(.string (bs d.nm)), d.sv, (.int .i64 d.act.f.kind), (.string (bs d.act.f.tb)), (.string (bs d.act.f.nm)), d.act.f.cv, d.act.f.gv, d.act.f.vv, d.act.f.iv, (.string (bs d.act.f.join)), d.act.f.ov, d.act.f.wv, d.act.f.rv, (.bool d.act.f.desc), d.act.nv]) (zC hN rfl s0) rfl ?_
 intro w47 b48 lo_b48 hi_b48 hB50 E49
 have := E49.size
 have hb := zP hb E49 hb.size
 refine zD rfl ?_
 refine zB ?_
 refine hK46 _ _ (zF fun K51 hK51 => ?_)
 refine zH ?_
 refine zM fld98_0 (zA hN rfl) ?_
 refine zN (v := (Value.string (bs d.nm))) one9 (zA hN rfl) (hB50.cell rfl) ?_
 refine zD (zA hN rfl) ?_
 refine zB ?_
 refine hK51 _ _ (wp_ret ?_)
 refine ret1 rfl hd (zA hN rfl) ⟨_, rfl, ?_⟩
 exact ⟨hb, rfl⟩

theorem find1View (d : DVw) (x : List UInt8) {fb nb : Nat} {w : World} (hf9 : Bx w fb 125 [.func (.func 78) #[] #[]]) (hn9 : Bx w nb 9 [.string (bs x)]) : Ret Try.prog 101 #[(.agg #[(.string (bs d.nm)), d.sv, (.int .i64 d.act.f.kind), (.string (bs d.act.f.tb)), (.string (bs d.act.f.nm)), d.act.f.cv, d.act.f.gv, d.act.f.vv, d.act.f.iv, (.string (bs d.act.f.join)), d.act.f.ov, d.act.f.wv, d.act.f.rv, (.bool d.act.f.desc), d.act.nv]), (ptr fb 0), (ptr nb 0)] w (fun v' w' => Below w.heap.size w w' ∧ v' = .bool (decide (d.nm = x))) := by
 have hb := Below.refl w.heap.size w
 refine enter (N := 10) Try.func101 rfl rfl (by simp) fun a0 hN hd hA => ?_
 have s0 : a0.tmps.getD 0 undef = (.agg #[(.string (bs d.nm)), d.sv, (.int .i64 d.act.f.kind), (.string (bs d.act.f.tb)), (.string (bs d.act.f.nm)), d.act.f.cv, d.act.f.gv, d.act.f.vv, d.act.f.iv, (.string (bs d.act.f.join)), d.act.f.ov, d.act.f.wv, d.act.f.rv, (.bool d.act.f.desc), d.act.nv]) := hA 0 (by simp)
 have s1 : a0.tmps.getD 1 undef = (ptr fb 0) := hA 1 (by simp)
 have s2 : a0.tmps.getD 2 undef = (ptr nb 0) := hA 2 (by simp)
 clear hA
 refine zF fun K52 hK52 => ?_
 refine zH ?_
 refine op_box (cs := [(.string (bs d.nm)), d.sv, (.int .i64 d.act.f.kind), (.string (bs d.act.f.tb)), (.string (bs d.act.f.nm)), d.act.f.cv, d.act.f.gv, d.act.f.vv, d.act.f.iv, (.string (bs d.act.f.join)), d.act.f.ov, d.act.f.wv, d.act.f.rv, (.bool d.act.f.desc), d.act.nv]) (zC hN rfl s0) rfl ?_
 intro w53 b54 lo_b54 hi_b54 hB56 E55
 have := E55.size
 have hf9 := hf9.keep0 E55
 have hn9 := hn9.keep0 E55
 have hb := zP hb E55 hb.size
 refine zD rfl ?_
 refine zB ?_
 refine hK52 _ _ (zF fun K57 hK57 => ?_)
 refine reg_split (hd := [_, _, _, _]) (tl := _) 4 mixed zy rfl rfl ?_
 refine any_env (φ := phiV [(fun uz => uz = (.func (.func 78) #[] #[])), (fun uz => uz = (.agg #[(.string (bs d.nm)), d.sv, (.int .i64 d.act.f.kind), (.string (bs d.act.f.tb)), (.string (bs d.act.f.nm)), d.act.f.cv, d.act.f.gv, d.act.f.vv, d.act.f.iv, (.string (bs d.act.f.join)), d.act.f.ov, d.act.f.wv, d.act.f.rv, (.bool d.act.f.desc), d.act.nv])), (fun _ => True), (fun uz => uz = (.string (bs x)))]) (G := fun w' => Bx w' fb 125 [(.func (.func 78) #[] #[])] ∧ Bx w' b54 98 [(.string (bs d.nm)), d.sv, (.int .i64 d.act.f.kind), (.string (bs d.act.f.tb)), (.string (bs d.act.f.nm)), d.act.f.cv, d.act.f.gv, d.act.f.vv, d.act.f.iv, (.string (bs d.act.f.join)), d.act.f.ov, d.act.f.wv, d.act.f.rv, (.bool d.act.f.desc), d.act.nv] ∧ Bx w' nb 9 [(.string (bs x))]) [2] zy zy zy zy hN (fun w1 w2 E h => by obtain ⟨h0, h1, h2⟩ := h; exact ⟨h0.keep0 E, h1.keep0 E, h2.keep0 E⟩) ⟨hf9, hB56, hn9⟩ (ObEs.cons ?_ (ObEs.cons ?_ (ObEs.pass rfl (ObEs.cons ?_ (ObEs.nil))))) (by simp only [putsL_defers]) ?_
 ·
  intro eA aA wA hNA hGA hbsA hdpA
  have qA_1 := (hbsA 1 rfl).trans (zL hN rfl s1)
  obtain ⟨hf9, hB56, hn9⟩ := hGA
  refine zN (v := (Value.func (.func 78) #[] #[])) one125 (zC hNA rfl qA_1) (hf9.cell rfl) ?_
  exact obE_end rfl rfl rfl
 ·
  intro eA aA wA hNA hGA hbsA hdpA
  have qA_3 := (hbsA 3 rfl).trans (zU hN rfl)
  obtain ⟨hf9, hB56, hn9⟩ := hGA
  refine zY agg98 rfl (zC hNA rfl qA_3) hB56 ?_
  exact obE_end rfl rfl rfl
 ·
  intro eA aA wA hNA hGA hbsA hdpA
  have qA_2 := (hbsA 2 rfl).trans (zL hN rfl s2)
  obtain ⟨hf9, hB56, hn9⟩ := hGA
  refine zN (v := (Value.string (bs x))) one9 (zC hNA rfl qA_2) (hn9.cell rfl) ?_
  exact obE_end rfl rfl rfl
 intro w58 E58 _ a58 hN58 hbs58 hdp58 o_ ho_; obtain rfl := zE ho_
 have := E58.size
 have hf9 := hf9.keep0 E58
 have hn9 := hn9.keep0 E58
 have hB56 := hB56.keep0 E58
 have hb := zP hb E58 hb.size
 have q58_5 : Sl a58 5 (.func (.func 78) #[] #[]) := (hdp58 0 _ 5 zy rfl rfl).2 rfl
 have q58_6 : Sl a58 6 (.agg #[(.string (bs d.nm)), d.sv, (.int .i64 d.act.f.kind), (.string (bs d.act.f.tb)), (.string (bs d.act.f.nm)), d.act.f.cv, d.act.f.gv, d.act.f.vv, d.act.f.iv, (.string (bs d.act.f.join)), d.act.f.ov, d.act.f.wv, d.act.f.rv, (.bool d.act.f.desc), d.act.nv]) := (hdp58 1 _ 6 zy rfl rfl).2 rfl
 refine op_fnv (fs := []) (vs := [(.agg #[(.string (bs d.nm)), d.sv, (.int .i64 d.act.f.kind), (.string (bs d.act.f.tb)), (.string (bs d.act.f.nm)), d.act.f.cv, d.act.f.gv, d.act.f.vv, d.act.f.iv, (.string (bs d.act.f.join)), d.act.f.ov, d.act.f.wv, d.act.f.rv, (.bool d.act.f.desc), d.act.nv])]) (cs := []) (zC hN58 rfl q58_5) ok78 ⟨(zC hN58 rfl q58_6), trivial⟩ (ofView_ret d _) ?_
 rintro _ w59 ⟨E60, rfl⟩
 have E60 := zQ E60
 have := E60.size
 have hf9 := hf9.keep0 E60
 have hn9 := hn9.keep0 E60
 have hB56 := hB56.keep0 E60
 have hb := zP hb E60 hb.size
 refine ke_end rfl zz rfl ⟨hf9, hB56, hn9⟩ ?_
 intro w61 E61 a61 hN61 hd61 hbs61 hph61
 have hd61 := hd61.trans ((by simp only [putsL_defers] : _ = _).trans hd)
 have := E61.size
 have hn9 := hn9.keep0 E61
 have hb := zP hb E61 hb.size
 have s61_7 : Sl a61 7 (.string (bs d.nm)) := (zE ((hph61 2 _ 7 rfl rfl).1 0 rfl)).symm
 have s61_8 : Sl a61 8 (.string (bs x)) := (hph61 3 _ 8 rfl rfl).2 rfl
 refine split_end ?_
 refine from_seq (tl := [_, _]) zz zy rfl ?_
 refine op_seql (zC hN61 rfl s61_7) (zC hN61 rfl s61_8) (fun c9 => ?_) (fun c9 => ?_)
 ·
  refine zD (zA hN61 rfl) ?_
  refine zB ?_
  refine hK57 _ _ (wp_ret ?_)
  refine ret1 rfl hd61 (zA hN61 rfl) ⟨_, rfl, ?_⟩
  exact ⟨hb, congrArg Value.bool (decide_eq_true c9).symm⟩
 refine zD (zA hN61 rfl) ?_
 refine zB ?_
 refine hK57 _ _ (wp_ret ?_)
 refine ret1 rfl hd61 (zA hN61 rfl) ⟨_, rfl, ?_⟩
 exact ⟨hb, congrArg Value.bool (decide_eq_false c9).symm⟩

theorem findView {L : List DVw} {v : Value} (x : List UInt8) {w : World} (hl : RdC w 0 w.heap.size 15 v L.length (L.flatMap cellsW)) : Ret Try.prog 77 #[v, (.string (bs x)), (.func (.func 78) #[] #[])] w (fun v' w' => Below w.heap.size w w' ∧ v' = .int .i64 (ixOf (fun d => decide (d.nm = x)) L)) := by
 have hb := Below.refl w.heap.size w
 refine enter (N := 10) Try.func77 rfl rfl (by simp) fun a0 hN hd hA => ?_
 have s0 : a0.tmps.getD 0 undef = v := hA 0 (by simp)
 have s1 : a0.tmps.getD 1 undef = (.string (bs x)) := hA 1 (by simp)
 have s2 : a0.tmps.getD 2 undef = (.func (.func 78) #[] #[]) := hA 2 (by simp)
 clear hA
 refine zF fun K62 hK62 => ?_
 refine zH ?_
 refine op_box (cs := [(.string (bs x))]) (zC hN rfl s1) rfl ?_
 intro w63 b64 lo_b64 hi_b64 hB66 E65
 have := E65.size
 have hl := hl.keep0 E65
 have hb := zP hb E65 hb.size
 refine op_box (cs := [(.func (.func 78) #[] #[])]) (zC hN rfl s2) rfl ?_
 intro w67 b68 lo_b68 hi_b68 hB70 E69
 have := E69.size
 have hl := hl.keep0 E69
 have hB66 := hB66.keep0 E69
 have hb := zP hb E69 hb.size
 refine zD rfl ?_
 refine zB ?_
 refine hK62 _ _ (zF fun K71 hK71 => ?_)
 refine zH ?_
 refine zG (zC hN rfl s0) ?_
 refine op_mkfn (cv := [(ptr b68 0), (ptr b64 0)]) ⟨(zA hN rfl), ⟨(zA hN rfl), trivial⟩⟩ ?_
 refine zj ok100 (IdxV (g := 101) (fs := []) (cs := [(ptr b68 0), (ptr b64 0)]) (p := (fun d => decide (d.nm = x))) (hl.mono (Nat.zero_le _) zx) ok101 (fun i hi w1 E9 => find1View (L.getD i default) x (hB70.keep0 (zQ E9)) (hB66.keep0 (zQ E9)))) ⟨(zA hN rfl), ⟨(zA hN rfl), trivial⟩⟩ ?_
 rintro _ w72 ⟨E73, rfl⟩
 have E73 := zQ E73
 have := E73.size
 have hl := hl.keep0 E73
 have hb := zP hb E73 hb.size
 refine zD (zA hN rfl) ?_
 refine zB ?_
 refine hK71 _ _ (wp_ret ?_)
 refine ret1 rfl hd (zA hN rfl) ⟨_, rfl, ?_⟩
 exact ⟨hb, rfl⟩

set_option maxHeartbeats 1000000 in
theorem view_ret {tv vv : Value} {D : List DTab} {V : List DVw} {F FV : Nat → Prop} {base Bs : Nat} {s : XS} {w : World} {o : Lb} {kk : List Int} {ow kv : Value} (O : Own w base 55 3 tv D.length (D.flatMap cellsT)) (S : TabsR w base D F) (P : Own w base 98 15 vv V.length (V.flatMap cellsW)) (Q : VsIn w base V FV) (d1 : Dj (Bl vv) FV) (d2 : Dj (Bl tv) FV) (hD : D.length ≤ 1000000) (hsz : ∀ d ∈ D, d.t.cols.length ≤ 1000000 ∧ d.t.idx.length ≤ 1000000) (hVz : V.length ≤ 1000) (he : SFr w 0 Bs s) (hBs : Bs ≤ base) (hbw : base ≤ w.heap.size) (hol : o.length ≤ 100) (ho : RdC w 0 w.heap.size 1 ow o.length (o.map u16v)) (hk : RdC w 0 w.heap.size 1 kv kk.length (kk.map (Value.int .i64))) : Ret Try.prog 63 #[(.agg #[tv, vv]), (.agg #[(.int .i64 s.f.kind), (.string (bs s.f.tb)), (.string (bs s.f.nm)), s.f.cv, s.f.gv, s.f.vv, s.f.iv, (.string (bs s.f.join)), s.f.ov, s.f.wv, s.f.rv, (.bool s.f.desc), s.nv]), ow, kv] w (fun v' w' => Gr w w' (Bl vv) ∧ ∃ (vv' : Value) (V' : List DVw) (F' : Nat → Prop), v' = .tuple #[.agg #[tv, vv'], .int .i64 (viewE (V.map DVw.nm) o s kk)] ∧ Own w' base 98 15 vv' V'.length (V'.flatMap cellsW) ∧ VsIn w' base V' F' ∧ NewF w.heap.size FV F' ∧ V'.length ≤ 1000 ∧ ((viewE (V.map DVw.nm) o s kk) = 0 → ∃ d, V' = V ++ [d] ∧ NewV s d) ∧ ((viewE (V.map DVw.nm) o s kk) ≠ 0 → V' = V)) := by
 obtain ⟨hfc, hfg, hfv, hfi, hfo, hfw, hfr⟩ := he.ff
 have hfn := he.inn
 obtain ⟨⟨hs1, hs2, hs3⟩, hs4⟩ := he.sm
 have hfnR := hfn.1
 have hb := Gr.refl w (Bl vv)
 refine enter (N := 73) Try.func63 rfl rfl (by simp) fun a0 hN hd hA => ?_
 have s0 : a0.tmps.getD 0 undef = (.agg #[tv, vv]) := hA 0 (by simp)
 have s1 : a0.tmps.getD 1 undef = (.agg #[(.int .i64 s.f.kind), (.string (bs s.f.tb)), (.string (bs s.f.nm)), s.f.cv, s.f.gv, s.f.vv, s.f.iv, (.string (bs s.f.join)), s.f.ov, s.f.wv, s.f.rv, (.bool s.f.desc), s.nv]) := hA 1 (by simp)
 have s2 : a0.tmps.getD 2 undef = ow := hA 2 (by simp)
 have s3 : a0.tmps.getD 3 undef = kv := hA 3 (by simp)
 clear hA
 refine zF fun K1 hK1 => ?_
 refine zH ?_
 refine op_box (cs := [tv, vv]) (zC hN rfl s0) rfl ?_
 intro w2 b3 lo_b3 hi_b3 hB5 E4
 have dj7 : ¬ FV b3 := fun hf => by have := (Q.lt _ hf).2; omega
 have := E4.size
 have O := O.keep0 E4
 have P := P.keep0 E4
 have Q := Q.keepG (zi E4 NoB) (fun _ _ h => h)
 have hfg := hfg.keep0 E4
 have hfn := hfn.keep0 E4
 have ho := ho.keep0 E4
 have hk := hk.keep0 E4
 have hfnR := hfnR.keep0 E4
 have hb := hb.step0 E4
 refine op_box (cs := [(.int .i64 s.f.kind), (.string (bs s.f.tb)), (.string (bs s.f.nm)), s.f.cv, s.f.gv, s.f.vv, s.f.iv, (.string (bs s.f.join)), s.f.ov, s.f.wv, s.f.rv, (.bool s.f.desc), s.nv]) (zC hN rfl s1) rfl ?_
 intro w8 b9 lo_b9 hi_b9 hB11 E10
 have := E10.size
 have O := O.keep0 E10
 have P := P.keep0 E10
 have Q := Q.keepG (zi E10 NoB) (fun _ _ h => h)
 have hfg := hfg.keep0 E10
 have hfn := hfn.keep0 E10
 have ho := ho.keep0 E10
 have hk := hk.keep0 E10
 have hfnR := hfnR.keep0 E10
 have hB5 := hB5.keep0 E10
 have hb := hb.step0 E10
 refine op_alloc (cs := [(.slice none 0 0), (.slice none 0 0)]) zero39 rfl ?_
 intro w14 b15 lo_b15 hi_b15 hB17 E16
 have dj19 : ¬ FV b15 := fun hf => by have := (Q.lt _ hf).2; omega
 have := E16.size
 have O := O.keep0 E16
 have P := P.keep0 E16
 have Q := Q.keepG (zi E16 NoB) (fun _ _ h => h)
 have hfg := hfg.keep0 E16
 have hfn := hfn.keep0 E16
 have ho := ho.keep0 E16
 have hk := hk.keep0 E16
 have hfnR := hfnR.keep0 E16
 obtain ⟨hB5, hB11⟩ := kb2 E16 hB5 hB11
 have hb := hb.step0 E16
 refine zD rfl ?_
 refine zB ?_
 refine hK1 _ _ (zF fun K20 hK20 => ?_)
 refine zH ?_
 refine zG (zC hN rfl s2) ?_
 refine zM fld45_4 (zA hN rfl) ?_
 refine zN (v := s.f.gv) one42 (zA hN rfl) (hB11.cell rfl) ?_
 refine zj ok94 (omayS_ret o s.f.tags _ _ _ (by first | assumption | omega | (simp only [List.length_append, List.length_cons, List.length_nil, List.length_drop, List.length_take]; omega) | (dsimp only; omega) | decide | (simp [keyV, be8_len]; done)) (by first | assumption | omega | (simp only [List.length_append, List.length_cons, List.length_nil, List.length_drop, List.length_take]; omega) | (dsimp only; omega) | decide | (simp [keyV, be8_len]; done)) (show RdC w14 0 w14.heap.size 1 ow o.length (o.map u16v) from by have hh : RdC w14 0 w14.heap.size 1 _ _ _ := (ho.mono (L' := 0) (B' := w14.heap.size) (Nat.zero_le _) zx); first | exact hh | exact hh.cast (by first | omega | (simp; try omega)) (by first | rfl | simp [u16v])) (show RdC w14 0 w14.heap.size 1 s.f.gv s.f.tags.length (s.f.tags.map u16v) from by have hh : RdC w14 0 w14.heap.size 1 _ _ _ := (hfg.mono (L' := 0) (B' := w14.heap.size) (Nat.zero_le _) zx); first | exact hh | exact hh.cast (by first | omega | (simp; try omega)) (by first | rfl | simp [u16v]))) ⟨(zA hN rfl), ⟨(zA hN rfl), trivial⟩⟩ ?_
 rintro _ w21 ⟨E22, rfl⟩
 have E22 := zQ E22
 have := E22.size
 have O := O.keep0 E22
 have P := P.keep0 E22
 have Q := Q.keepG (zi E22 NoB) (fun _ _ h => h)
 have hfg := hfg.keep0 E22
 have hfn := hfn.keep0 E22
 have hk := hk.keep0 E22
 have hfnR := hfnR.keep0 E22
 obtain ⟨hB5, hB11, hB17⟩ := kb3 E22 hB5 hB11 hB17
 have hb := hb.step0 E22
 refine zD (zA hN rfl) ?_
 refine zB ?_
 refine hK20 _ _ (zF fun K23 hK23 => ?_)
 refine wp_block ?_
 refine zF fun K24 hK24 => ?_
 refine zH ?_
 refine zM fld39_1 (zA hN rfl) ?_
 refine zN (v := vv) one37 (zA hN rfl) (hB5.cell rfl) ?_
 refine zM fld45_2 (zA hN rfl) ?_
 refine zN (v := (Value.string (bs s.f.nm))) one9 (zA hN rfl) (hB11.cell rfl) ?_
 refine zj ok77 (findView (L := (V : List DVw)) s.f.nm (P.rdw.mono (Nat.zero_le _) zx)) ⟨(zA hN rfl), ⟨(zA hN rfl), ⟨rfl, trivial⟩⟩⟩ ?_
 rintro _ w25 ⟨E26, rfl⟩
 have E26 := zQ E26
 have := E26.size
 have O := O.keep0 E26
 have P := P.keep0 E26
 have Q := Q.keepG (zi E26 NoB) (fun _ _ h => h)
 have hfg := hfg.keep0 E26
 have hfn := hfn.keep0 E26
 have hk := hk.keep0 E26
 have hfnR := hfnR.keep0 E26
 obtain ⟨hB5, hB11, hB17⟩ := kb3 E26 hB5 hB11 hB17
 have hb := hb.step0 E26
 refine op_geq (zA hN rfl) rfl (fun c23 => ?_) (fun c23 => ?_)
 ·
  refine zD (zA hN rfl) ?_
  refine zB ?_
  refine hK24 _ _ (wp_cond_true (zA hN rfl) (zF fun K27 hK27 => ?_))
  refine zH ?_
  refine zY agg39 rfl (zA hN rfl) hB5 ?_
  have hB17_old := hB17
  refine zZ size39 (zA hN rfl) (zA hN rfl) rfl (by simp only [List.all_cons, List.all_nil, Bool.true_and, Bool.and_true, O.one, P.one]; try rfl) hB17 rfl ?_
  intro w30 hB17 E31
  have := E31.size
  have P := P.keepX hB17_old E31 zz
  have Q := Q.keepG (Gr.of E31) (Dj.one dj19)
  have hb := hb.step1 E31 zx
  refine zD rfl ?_
  refine zB ?_
  refine hK27 _ _ (wp_ret (zb (zO ( ?_))))
  refine retN (rs := [.cell 8 39, .tmp 9]) (vs := [(.agg #[tv, vv]), (.int .i64 12)]) rfl hd ⟨⟨_, (zA hN rfl), run_loadA (cs := [tv, vv]) agg39 rfl (fun j u hu => by rw [Nat.zero_add]; exact hB17.cell hu)⟩, ⟨(zA hN rfl), trivial⟩⟩ rfl ⟨_, rfl, ?_⟩
  have e9 : (viewE (V.map DVw.nm) o s kk) = 12 := if_pos (vw_mem.1 c23)
  rw [e9]; exact ⟨hb, _, V, FV, rfl, P, Q, NewF.refl _ _, hVz, fun h => absurd h (by first | decide | exact c33), fun _ => rfl⟩
 refine zD (zA hN rfl) ?_
 refine zB ?_
 refine hK24 _ _ (wp_cond_false (zA hN rfl) (zF fun K32 hK32 => ?_))
 refine zH ?_
 refine zM fld39_1 (zA hN rfl) ?_
 refine zN (v := vv) one37 (zA hN rfl) (hB5.cell rfl) ?_
 refine op_len_rd Try.underlying37 (zA hN rfl) P.rdw ?_
 refine op_geq (zA hN rfl) rfl (fun c29 => ?_) (fun c29 => ?_)
 ·
  refine zD (zA hN rfl) ?_
  refine zB ?_
  refine hK32 _ _ (wp_cond_true (zA hN rfl) (zF fun K33 hK33 => ?_))
  refine zH ?_
  refine zY agg39 rfl (zA hN rfl) hB5 ?_
  have hB17_old := hB17
  refine zZ size39 (zA hN rfl) (zA hN rfl) rfl (by simp only [List.all_cons, List.all_nil, Bool.true_and, Bool.and_true, O.one, P.one]; try rfl) hB17 rfl ?_
  intro w36 hB17 E37
  have := E37.size
  have P := P.keepX hB17_old E37 zz
  have Q := Q.keepG (Gr.of E37) (Dj.one dj19)
  have hb := hb.step1 E37 zx
  refine zD rfl ?_
  refine zB ?_
  refine hK33 _ _ (wp_ret (zb (zO ( ?_))))
  refine retN (rs := [.cell 8 39, .tmp 9]) (vs := [(.agg #[tv, vv]), (.int .i64 25)]) rfl hd ⟨⟨_, (zA hN rfl), run_loadA (cs := [tv, vv]) agg39 rfl (fun j u hu => by rw [Nat.zero_add]; exact hB17.cell hu)⟩, ⟨(zA hN rfl), trivial⟩⟩ rfl ⟨_, rfl, ?_⟩
  have e9 : (viewE (V.map DVw.nm) o s kk) = 25 := by unfold viewE; rw [if_neg (fun h => c23 (vw_mem.2 h)), if_pos (by rw [List.length_map]; omega)]
  rw [e9]; exact ⟨hb, _, V, FV, rfl, P, Q, NewF.refl _ _, hVz, fun h => absurd h (by first | decide | exact c33), fun _ => rfl⟩
 refine zD (zA hN rfl) ?_
 refine zB ?_
 refine hK32 _ _ (wp_cond_false (zA hN rfl) (zF fun K38 hK38 => ?_))
 refine zH ?_
 refine zG (zA hN rfl) ?_
 refine op_neq (zA hN rfl) rfl (fun c33 => ?_) (fun c33 => ?_)
 ·
  refine zD (zA hN rfl) ?_
  refine zB ?_
  refine hK38 _ _ (wp_cond_true (zA hN rfl) (zF fun K39 hK39 => ?_))
  refine zH ?_
  refine zY agg39 rfl (zA hN rfl) hB5 ?_
  refine zG (zA hN rfl) ?_
  have hB17_old := hB17
  refine zZ size39 (zA hN rfl) (zA hN rfl) rfl (by simp only [List.all_cons, List.all_nil, Bool.true_and, Bool.and_true, O.one, P.one]; try rfl) hB17 rfl ?_
  intro w42 hB17 E43
  have := E43.size
  have P := P.keepX hB17_old E43 zz
  have Q := Q.keepG (Gr.of E43) (Dj.one dj19)
  have hb := hb.step1 E43 zx
  refine zD (zA hN rfl) ?_
  refine zB ?_
  refine hK39 _ _ (wp_ret (zb (zO ( ?_))))
  refine retN (rs := [.cell 8 39, .tmp 9]) (vs := [(.agg #[tv, vv]), (.int .i64 (ownE o s.f.tags))]) rfl hd ⟨⟨_, (zA hN rfl), run_loadA (cs := [tv, vv]) agg39 rfl (fun j u hu => by rw [Nat.zero_add]; exact hB17.cell hu)⟩, ⟨(zA hN rfl), trivial⟩⟩ rfl ⟨_, rfl, ?_⟩
  have e9 : (viewE (V.map DVw.nm) o s kk) = (ownE o s.f.tags) := by unfold viewE; rw [if_neg (fun h => c23 (vw_mem.2 h)), if_neg (by rw [List.length_map]; omega), if_pos c33]
  rw [e9]; exact ⟨hb, _, V, FV, rfl, P, Q, NewF.refl _ _, hVz, fun h => absurd h (by first | decide | exact c33), fun _ => rfl⟩
 refine zD (zA hN rfl) ?_
 refine zB ?_
 refine hK38 _ _ (wp_cond_false (zA hN rfl) (zF fun K44 hK44 => ?_))
 refine zH ?_
 refine zM fld45_12 (zA hN rfl) ?_
 refine zN (v := s.nv) one43 (zA hN rfl) (hB11.cell rfl) ?_
 refine op_len_rd Try.underlying43 (zA hN rfl) hfnR ?_
 refine op_neq (zA hN rfl) rfl (fun c40 => ?_) (fun c40 => ?_)
 ·
  refine zG (zA hN rfl) ?_
  refine zR (j := 4) (dj := 41) (b := false) rfl rfl rfl (zA hN rfl) rfl rfl ?_
  refine zR (j := 4) (dj := 41) (b := false) rfl rfl rfl (zA hN rfl) rfl rfl ?_
  refine zR (j := 4) (dj := 41) (b := false) rfl rfl rfl (zA hN rfl) rfl rfl ?_
  refine zR (j := 4) (dj := 41) (b := false) rfl rfl rfl (zA hN rfl) rfl rfl ?_
  refine zR (j := 4) (dj := 41) (b := false) rfl rfl rfl (zA hN rfl) rfl rfl ?_
  refine zR (j := 4) (dj := 41) (b := false) rfl rfl rfl (zA hN rfl) rfl rfl ?_
  refine zR (j := 4) (dj := 41) (b := false) rfl rfl rfl (zA hN rfl) rfl rfl ?_
  refine zR (j := 4) (dj := 41) (b := false) rfl rfl rfl (zA hN rfl) rfl rfl ?_
  refine zc (zA hN rfl) rfl ?_
  refine zD (zA hN rfl) ?_
  refine zB ?_
  refine hK44 _ _ (wp_cond_true (zA hN rfl) (zF fun K45 hK45 => ?_))
  refine zH ?_
  refine zY agg39 rfl (zA hN rfl) hB5 ?_
  have hB17_old := hB17
  refine zZ size39 (zA hN rfl) (zA hN rfl) rfl (by simp only [List.all_cons, List.all_nil, Bool.true_and, Bool.and_true, O.one, P.one]; try rfl) hB17 rfl ?_
  intro w48 hB17 E49
  have := E49.size
  have P := P.keepX hB17_old E49 zz
  have Q := Q.keepG (Gr.of E49) (Dj.one dj19)
  have hb := hb.step1 E49 zx
  refine zD rfl ?_
  refine zB ?_
  refine hK45 _ _ (wp_ret (zb (zO ( ?_))))
  refine retN (rs := [.cell 8 39, .tmp 9]) (vs := [(.agg #[tv, vv]), (.int .i64 1)]) rfl hd ⟨⟨_, (zA hN rfl), run_loadA (cs := [tv, vv]) agg39 rfl (fun j u hu => by rw [Nat.zero_add]; exact hB17.cell hu)⟩, ⟨(zA hN rfl), trivial⟩⟩ rfl ⟨_, rfl, ?_⟩
  have e9 : (viewE (V.map DVw.nm) o s kk) = 1 := by unfold viewE; rw [if_neg (fun h => c23 (vw_mem.2 h)), if_neg (by rw [List.length_map]; omega), if_neg (fun h => h c33), if_pos (.inl zx)]
  rw [e9]; exact ⟨hb, _, V, FV, rfl, P, Q, NewF.refl _ _, hVz, fun h => absurd h (by first | decide | exact c33), fun _ => rfl⟩
 refine zG (zA hN rfl) ?_
 refine zS (j := 4) (dj := 41) (b := false) rfl rfl rfl (zA hN rfl) ?_
 refine zG (zC hN rfl s3) ?_
 refine zS (j := 4) (dj := 41) (b := false) rfl rfl rfl (zA hN rfl) ?_
 refine zM fld45_12 (zA hN rfl) ?_
 refine zS (j := 4) (dj := 41) (b := false) rfl rfl rfl (zA hN rfl) ?_
 refine zN (v := s.nv) one43 (zA hN rfl) (hB11.cell rfl) ?_
 refine zS (j := 4) (dj := 41) (b := false) rfl rfl rfl (zA hN rfl) ?_
 refine zh slt43 (zA hN rfl) hfnR rfl zx zx ?_
 intro b50 o51 h0b50 h1b50 hc52
 refine zS (j := 4) (dj := 41) (b := false) rfl rfl rfl (zA hN rfl) ?_
 refine zM fld45_0 (zA hN rfl) ?_
 refine zS (j := 4) (dj := 41) (b := false) rfl rfl rfl (zA hN rfl) ?_
 refine zN (v := (Value.int .i64 (s.inner.getD 0 default).f.kind)) one3 (zA hN rfl) (hc52 0 ((.int .i64 (s.inner.getD 0 default).f.kind)) zz ((el_xs (i := 0) zx zx) 0 ((.int .i64 (s.inner.getD 0 default).f.kind)) rfl)) ?_
 refine zS (j := 4) (dj := 41) (b := false) rfl rfl rfl (zA hN rfl) ?_
 refine zj ok95 (IxI_has ((s.inner.getD 0 default).f.kind) (hk.mono (Nat.zero_le _) zx)) ⟨(zA hN rfl), ⟨(zA hN rfl), trivial⟩⟩ ?_
 rintro _ w53 ⟨E54, rfl⟩
 have E54 := zQ E54
 have := E54.size
 have O := O.keep0 E54
 have P := P.keep0 E54
 have Q := Q.keepG (zi E54 NoB) (fun _ _ h => h)
 have hfg := hfg.keep0 E54
 have hfn := hfn.keep0 E54
 have hk := hk.keep0 E54
 have hfnR := hfnR.keep0 E54
 obtain ⟨hB5, hB11, hB17⟩ := kb3 E54 hB5 hB11 hB17
 have hb := hb.step0 E54
 rcases Bool.eq_false_or_eq_true ((decide ((s.inner.getD 0 default).f.kind ∈ kk))) with c48 | c48
 ·
  rw [c48]
  refine zS (j := 4) (dj := 41) (b := false) rfl rfl rfl (zA hN rfl) ?_
  refine op_not (zA hN rfl) ?_
  refine zd (zA hN rfl) (zA hN rfl) ?_
  refine zD (zA hN rfl) ?_
  refine zB ?_
  refine hK44 _ _ (wp_cond_false (zA hN rfl) (wp_skip (hK23 _ _ (zF fun K55 hK55 => ?_))))
  refine zH ?_
  refine zM fld45_4 (zA hN rfl) ?_
  refine zN (v := s.f.gv) one42 (zA hN rfl) (hB11.cell rfl) ?_
  refine zj ok96 (normS_ret s.f.tags _ _ (by first | assumption | omega | (simp only [List.length_append, List.length_cons, List.length_nil, List.length_drop, List.length_take]; omega) | (dsimp only; omega) | decide | (simp [keyV, be8_len]; done)) (show RdC w53 0 w53.heap.size 1 s.f.gv s.f.tags.length (s.f.tags.map u16v) from by have hh : RdC w53 0 w53.heap.size 1 _ _ _ := (hfg.mono (L' := 0) (B' := w53.heap.size) (Nat.zero_le _) zx); first | exact hh | exact hh.cast (by first | omega | (simp; try omega)) (by first | rfl | simp [u16v]))) ⟨(zA hN rfl), trivial⟩ ?_
  rintro _ w57 ⟨E58, v56, rfl, hO56⟩
  have E58 := zQ E58
  have := E58.size
  have O := O.keep0 E58
  have P := P.keep0 E58
  have Q := Q.keepG (zi E58 NoB) (fun _ _ h => h)
  have hfn := hfn.keep0 E58
  have hk := hk.keep0 E58
  have hfnR := hfnR.keep0 E58
  obtain ⟨hB5, hB11, hB17⟩ := kb3 E58 hB5 hB11 hB17
  have hb := hb.step0 E58
  have hO56 := hO56.mono (base' := w.heap.size) zx
  have hnl56 := normL_len s.f.tags
  refine zG (zA hN rfl) ?_
  refine zW (zA hN rfl) rfl ?_
  refine zW (zA hN rfl) rfl ?_
  refine zD (zA hN rfl) ?_
  refine zD (zA hN rfl) ?_
  refine zB ?_
  refine hK55 _ _ (zF fun K61 hK61 => ?_)
  have hin0 : SFr w57 0 Bs (s.inner.getD 0 default) := hfn.2 _ (getD_mem zx)
  have lw_vv := fun k hk => (P.lt k hk).2
  refine reg_split (hd := [_, _, _, _, _, _, _, _, _, _, _, _, _]) (tl := _) 13 mixed zy rfl rfl ?_
  refine any_tree (φ := phiV [(fun uz => uz = (ptr b3 1)), (fun uz => uz = vv), (fun uz => uz = (ptr b9 2)), (fun uz => uz = (.string (bs s.f.nm))), (fun uz => uz = v56), (fun uz => uz = (ptr b9 12)), (fun uz => uz = s.nv), (fun _ => True), (fun _ => True), (fun _ => True), (fun _ => True), (fun _ => True), (fun _ => True)]) (G := fun w' => Bx w' b3 39 [tv, vv] ∧ Bx w' b9 45 [(.int .i64 s.f.kind), (.string (bs s.f.tb)), (.string (bs s.f.nm)), s.f.cv, s.f.gv, s.f.vv, s.f.iv, (.string (bs s.f.join)), s.f.ov, s.f.wv, s.f.rv, (.bool s.f.desc), s.nv]) [7, 8, 9, 10, 11, 12] zy zy zy zy zy hN (fun w1 w2 E h => by obtain ⟨h0, h1⟩ := h; exact ⟨h0.keep0 E, h1.keep0 E⟩) ⟨hB5, hB11⟩ (ObRs9.cons ?_ (ObRs9.cons ?_ (ObRs9.cons ?_ (ObRs9.cons ?_ (ObRs9.cons ?_ (ObRs9.cons ?_ (ObRs9.cons ?_ (ObRs9.pass rfl (ObRs9.pass rfl (ObRs9.pass rfl (ObRs9.pass rfl (ObRs9.pass rfl (ObRs9.pass rfl (ObRs9.nil)))))))))))))) (by simp only [putsL_defers]) ?_
  ·
   intro eA aA wA hNA hGA hbsA hdpA
   have qA_4 := (hbsA 4 rfl).trans (zU hN rfl)
   refine zM fld39_1 (zC hNA rfl qA_4) ?_
   exact obT_end rfl rfl
  ·
   intro eA aA wA hNA hGA hbsA hdpA
   have qA_58 : Sl aA 58 (ptr b3 1) := (hdpA 0 _ 58 zy rfl rfl).2 rfl
   obtain ⟨hB5, hB11⟩ := hGA
   refine zN (v := vv) one37 (zC hNA rfl qA_58) (hB5.cell rfl) ?_
   exact obT_end rfl rfl
  ·
   intro eA aA wA hNA hGA hbsA hdpA
   have qA_5 := (hbsA 5 rfl).trans (zU hN rfl)
   refine zM fld45_2 (zC hNA rfl qA_5) ?_
   exact obT_end rfl rfl
  ·
   intro eA aA wA hNA hGA hbsA hdpA
   have qA_60 : Sl aA 60 (ptr b9 2) := (hdpA 2 _ 60 zy rfl rfl).2 rfl
   obtain ⟨hB5, hB11⟩ := hGA
   refine zN (v := (Value.string (bs s.f.nm))) one9 (zC hNA rfl qA_60) (hB11.cell rfl) ?_
   exact obT_end rfl rfl
  ·
   intro eA aA wA hNA hGA hbsA hdpA
   have qA_11 := (hbsA 11 rfl).trans (zU hN rfl)
   refine zG (zC hNA rfl qA_11) ?_
   exact obT_end rfl rfl
  ·
   intro eA aA wA hNA hGA hbsA hdpA
   have qA_5 := (hbsA 5 rfl).trans (zU hN rfl)
   refine zM fld45_12 (zC hNA rfl qA_5) ?_
   exact obT_end rfl rfl
  ·
   intro eA aA wA hNA hGA hbsA hdpA
   have qA_63 : Sl aA 63 (ptr b9 12) := (hdpA 5 _ 63 zy rfl rfl).2 rfl
   obtain ⟨hB5, hB11⟩ := hGA
   refine zN (v := s.nv) one43 (zC hNA rfl qA_63) (hB11.cell rfl) ?_
   exact obT_end rfl rfl
  refine kt_step (rs := [7]) zy ?_
  refine one_mem ?_
  intro w63 E63 _ a63 hN63 hbs63 hdp63 o_ ho_; obtain rfl := zE ho_
  have := E63.size
  have O := O.keep0 E63
  have P := P.keep0 E63
  have Q := Q.keepG (zi E63 NoB) (fun _ _ h => h)
  have hfnR := hfnR.keep0 E63
  have hO56 := hO56.keep0 E63
  have hin0 := hin0.keep0 E63
  obtain ⟨hB5, hB11, hB17⟩ := kb3 E63 hB5 hB11 hB17
  have hb := hb.step0 E63
  have q63_64 : Sl a63 64 s.nv := (hdp63 6 _ 64 zy rfl rfl).2 rfl
  refine zh slt43 (zC hN63 rfl q63_64) hfnR rfl zx zx ?_
  intro b64 o65 h0b64 h1b64 hc66
  have hp67 : PtC w63 0 Bs b64 o65 [(.int .i64 (s.inner.getD 0 default).f.kind), (.string (bs (s.inner.getD 0 default).f.tb)), (.string (bs (s.inner.getD 0 default).f.nm)), (s.inner.getD 0 default).f.cv, (s.inner.getD 0 default).f.gv, (s.inner.getD 0 default).f.vv, (s.inner.getD 0 default).f.iv, (.string (bs (s.inner.getD 0 default).f.join)), (s.inner.getD 0 default).f.ov, (s.inner.getD 0 default).f.wv, (s.inner.getD 0 default).f.rv, (.bool (s.inner.getD 0 default).f.desc), (s.inner.getD 0 default).nv] := ⟨by omega, by omega, fun j u hu => hc66 j u (by have := (List.getElem?_eq_some_iff.1 hu).1; simpa using this) ((el_xs (i := 0) zx zx) j u hu)⟩
  refine kt_end rfl ⟨hB5, hB11⟩ ?_
  refine kt_step (rs := [8]) zy ?_
  refine one_mem ?_
  intro w69 E69 _ a69 hN69 hbs69 hdp69 o_ ho_; obtain rfl := zE ho_
  have := E69.size
  have O := O.keep0 E69
  have P := P.keep0 E69
  have Q := Q.keepG (zi E69 NoB) (fun _ _ h => h)
  have hO56 := hO56.keep0 E69
  have hin0 := hin0.keep0 E69
  have hp67 := hp67.keep0 E69
  obtain ⟨hB5, hB11, hB17⟩ := kb3 E69 hB5 hB11 hB17
  have hb := hb.step0 E69
  have q69_65 : Sl a69 65 (ptr b64 o65) := (zE ((hdp69 7 _ 65 zy rfl rfl).1 rfl)).symm
  refine zX (cs := [(.int .i64 (s.inner.getD 0 default).f.kind), (.string (bs (s.inner.getD 0 default).f.tb)), (.string (bs (s.inner.getD 0 default).f.nm)), (s.inner.getD 0 default).f.cv, (s.inner.getD 0 default).f.gv, (s.inner.getD 0 default).f.vv, (s.inner.getD 0 default).f.iv, (.string (bs (s.inner.getD 0 default).f.join)), (s.inner.getD 0 default).f.ov, (s.inner.getD 0 default).f.wv, (s.inner.getD 0 default).f.rv, (.bool (s.inner.getD 0 default).f.desc), (s.inner.getD 0 default).nv]) agg45 rfl (zC hN69 rfl q69_65) (fun j u hu => hp67.2.2 j u hu) ?_
  refine kt_end rfl ⟨hB5, hB11⟩ ?_
  refine kt_step (rs := [9]) zy ?_
  refine one_mem ?_
  intro w71 E71 _ a71 hN71 hbs71 hdp71 o_ ho_; obtain rfl := zE ho_
  have := E71.size
  have O := O.keep0 E71
  have P := P.keep0 E71
  have Q := Q.keepG (zi E71 NoB) (fun _ _ h => h)
  have hO56 := hO56.keep0 E71
  have hin0 := hin0.keep0 E71
  obtain ⟨hB5, hB11, hB17⟩ := kb3 E71 hB5 hB11 hB17
  have hb := hb.step0 E71
  have q71_66 : Sl a71 66 (.agg #[(.int .i64 (s.inner.getD 0 default).f.kind), (.string (bs (s.inner.getD 0 default).f.tb)), (.string (bs (s.inner.getD 0 default).f.nm)), (s.inner.getD 0 default).f.cv, (s.inner.getD 0 default).f.gv, (s.inner.getD 0 default).f.vv, (s.inner.getD 0 default).f.iv, (.string (bs (s.inner.getD 0 default).f.join)), (s.inner.getD 0 default).f.ov, (s.inner.getD 0 default).f.wv, (s.inner.getD 0 default).f.rv, (.bool (s.inner.getD 0 default).f.desc), (s.inner.getD 0 default).nv]) := (zE ((hdp71 8 _ 66 zy rfl rfl).1 rfl)).symm
  refine zj ok92 (CopyS_all (s.inner.getD 0 default) (hin0.mono (Nat.zero_le _) zx)) ⟨(zC hN71 rfl q71_66), trivial⟩ ?_
  rintro _ w73 ⟨E74, a72, rfl, hx72, hq72⟩
  have lx_vv := fun k hk => (P.lt k hk).2
  have ap75 : ∀ k, vv.ownBlock = some k → k < w71.heap.size ∨ w73.heap.size ≤ k := fun k hk => .inl (lx_vv k hk)
  have E74 := zQ E74
  have := E74.size
  have O := O.keep0 E74
  have P := P.keep0 E74
  have Q := Q.keepG (zi E74 NoB) (fun _ _ h => h)
  have hO56 := hO56.keep0 E74
  obtain ⟨hB5, hB11, hB17⟩ := kb3 E74 hB5 hB11 hB17
  have hb := hb.step0 E74
  refine kt_end rfl ⟨hB5, hB11⟩ ?_
  refine kt_step (rs := [10]) zy ?_
  refine one_mem ?_
  intro w77 E77 _ a77 hN77 hbs77 hdp77 o_ ho_; obtain rfl := zE ho_
  have := E77.size
  have O := O.keep0 E77
  have P := P.keep0 E77
  have Q := Q.keepG (zi E77 NoB) (fun _ _ h => h)
  have hO56 := hO56.keep0 E77
  have hx72 := hx72.keep0 E77
  obtain ⟨hB5, hB11, hB17⟩ := kb3 E77 hB5 hB11 hB17
  have hb := hb.step0 E77
  have q77_61 : Sl a77 61 (.string (bs s.f.nm)) := (hdp77 3 _ 61 zy rfl rfl).2 rfl
  have q77_62 : Sl a77 62 v56 := (hdp77 4 _ 62 zy rfl rfl).2 rfl
  have q77_67 : Sl a77 67 (.agg #[(.int .i64 a72.f.kind), (.string (bs a72.f.tb)), (.string (bs a72.f.nm)), a72.f.cv, a72.f.gv, a72.f.vv, a72.f.iv, (.string (bs a72.f.join)), a72.f.ov, a72.f.wv, a72.f.rv, (.bool a72.f.desc), a72.nv]) := (zE ((hdp77 9 _ 67 zy rfl rfl).1 rfl)).symm
  refine zf (pv := [(0, (.string (bs s.f.nm))), (1, v56), (2, (.agg #[(.int .i64 a72.f.kind), (.string (bs a72.f.tb)), (.string (bs a72.f.nm)), a72.f.cv, a72.f.gv, a72.f.vv, a72.f.iv, (.string (bs a72.f.join)), a72.f.ov, a72.f.wv, a72.f.rv, (.bool a72.f.desc), a72.nv]))]) (v := (Value.agg #[(.string (bs s.f.nm)), v56, (.int .i64 a72.f.kind), (.string (bs a72.f.tb)), (.string (bs a72.f.nm)), a72.f.cv, a72.f.gv, a72.f.vv, a72.f.iv, (.string (bs a72.f.join)), a72.f.ov, a72.f.wv, a72.f.rv, (.bool a72.f.desc), a72.nv])) ⟨rfl, (zC hN77 rfl q77_61), ⟨rfl, (zC hN77 rfl q77_62), ⟨rfl, (zC hN77 rfl q77_67), trivial⟩⟩⟩ (by obtain ⟨_, _, _, rfl⟩ := hO56.sl; kernel_rfl) ?_
  refine kt_end rfl ⟨hB5, hB11⟩ ?_
  refine kt_step (rs := [11]) zy ?_
  refine one_mem ?_
  intro w79 E79 _ a79 hN79 hbs79 hdp79 o_ ho_; obtain rfl := zE ho_
  have := E79.size
  have O := O.keep0 E79
  have P := P.keep0 E79
  have Q := Q.keepG (zi E79 NoB) (fun _ _ h => h)
  have hO56 := hO56.keep0 E79
  have hx72 := hx72.keep0 E79
  obtain ⟨hB5, hB11, hB17⟩ := kb3 E79 hB5 hB11 hB17
  have hb := hb.step0 E79
  have q79_68 : Sl a79 68 (.agg #[(.string (bs s.f.nm)), v56, (.int .i64 a72.f.kind), (.string (bs a72.f.tb)), (.string (bs a72.f.nm)), a72.f.cv, a72.f.gv, a72.f.vv, a72.f.iv, (.string (bs a72.f.join)), a72.f.ov, a72.f.wv, a72.f.rv, (.bool a72.f.desc), a72.nv]) := (zE ((hdp79 10 _ 68 zy rfl rfl).1 rfl)).symm
  refine op_bslice (e := 98) (pv := [(0, (.agg #[(.string (bs s.f.nm)), v56, (.int .i64 a72.f.kind), (.string (bs a72.f.tb)), (.string (bs a72.f.nm)), a72.f.cv, a72.f.gv, a72.f.vv, a72.f.iv, (.string (bs a72.f.join)), a72.f.ov, a72.f.wv, a72.f.rv, (.bool a72.f.desc), a72.nv]))]) (cs := [(.string (bs s.f.nm)), v56, (.int .i64 a72.f.kind), (.string (bs a72.f.tb)), (.string (bs a72.f.nm)), a72.f.cv, a72.f.gv, a72.f.vv, a72.f.iv, (.string (bs a72.f.join)), a72.f.ov, a72.f.wv, a72.f.rv, (.bool a72.f.desc), a72.nv]) ⟨rfl, (zC hN79 rfl q79_68), trivial⟩ (by obtain ⟨_, _, _, rfl⟩ := hO56.sl; kernel_rfl) ?_
  intro w80 b81 lo_b81 hi_b81 hB83 E82
  have := E82.size
  have O := O.keep0 E82
  have P := P.keep0 E82
  have Q := Q.keepG (zi E82 NoB) (fun _ _ h => h)
  have hO56 := hO56.keep0 E82
  have hx72 := hx72.keep0 E82
  obtain ⟨hB5, hB11, hB17⟩ := kb3 E82 hB5 hB11 hB17
  have hb := hb.step0 E82
  refine kt_end rfl ⟨hB5, hB11⟩ ?_
  refine kt_step (rs := [12]) zy ?_
  refine one_mem ?_
  intro w87 E87 _ a87 hN87 hbs87 hdp87 o_ ho_; obtain rfl := zE ho_
  have := E87.size
  have O := O.keep0 E87
  have P := P.keep0 E87
  have Q := Q.keepG (zi E87 NoB) (fun _ _ h => h)
  have hO56 := hO56.keep0 E87
  have hx72 := hx72.keep0 E87
  obtain ⟨hB5, hB11, hB17, hB83⟩ := kb4 E87 hB5 hB11 hB17 hB83
  have hb := hb.step0 E87
  have q87_59 : Sl a87 59 vv := (hdp87 1 _ 59 zy rfl rfl).2 rfl
  have q87_69 : Sl a87 69 (.slice (some ⟨b81, 0, none⟩) 1 1) := (zE ((hdp87 11 _ 69 zy rfl rfl).1 rfl)).symm
  have hP93 := P
  refine op_append slt37 (zC hN87 rfl q87_59) hP93 (zC hN87 rfl q87_69) (Src.ofRd Try.underlying37 zz (RdC.ofBx (sz := 15) (n := 1) hB83 rfl zz) (by simp only [List.all_cons, List.all_nil, Bool.true_and, Bool.and_true, hO56.one, hx72.ff.1.one, hx72.ff.2.1.one, hx72.ff.2.2.1.1.one, hx72.ff.2.2.2.1.one, hx72.ff.2.2.2.2.1.1.one, hx72.ff.2.2.2.2.2.1.1.one, hx72.ff.2.2.2.2.2.2.1.one, hx72.nvr.one]; try rfl)) (by unfold maxLen; omega) zx (by first | exact Nat.le_trans (by assumption) hb.size | (have := hb.size; omega)) ?_
  intro v88 w89 hO91 E90 hm92
  have := E90.size
  have O := O.keepT hP93 E90 zz
  have Q := Q.keepG (Gr.of E90) d1.symm
  have hB5 := hB5.keepO hP93 E90 zz
  have hB11 := hB11.keepO hP93 E90 zz
  have hB17 := hB17.keepO hP93 E90 zz
  have hO56 := hO56.keepT hP93 E90 zz
  have hx72 := hx72.keep E90 ap75
  have hb := hb.stepL E90 (fun k _ h => h)
  have hO91 : Own w89 base 98 15 v88 (V ++ [(DVw.mk s.f.nm v56 (normL s.f.tags) a72)]).length (((V ++ [(DVw.mk s.f.nm v56 (normL s.f.tags) a72)])).flatMap cellsW) := by exact hO91.cast (by simp) (by simp [cellsW])
  refine kt_end rfl ⟨hB5, hB11⟩ ?_
  intro w96 E96 a96 hN96 hd96 hbs96 hph96
  have hd96 := hd96.trans ((by simp only [putsL_defers] : _ = _).trans hd)
  have := E96.size
  have O := O.keep0 E96
  have Q := Q.keepG (zi E96 NoB) (fun _ _ h => h)
  have hO56 := hO56.keep0 E96
  have hx72 := hx72.keep0 E96
  have hO91 := hO91.keep0 E96
  obtain ⟨hB5, hB17⟩ := kb2 E96 hB5 hB17
  have hb := hb.step0 E96
  have s96_4 := (hbs96 4 rfl).trans (zU hN rfl)
  have s96_8 := (hbs96 8 rfl).trans (zU hN rfl)
  have s96_70 : Sl a96 70 v88 := (zE ((hph96 12 _ 70 rfl rfl).1 rfl)).symm
  refine split_end ?_
  refine from_seq (tl := [_, _]) zz zy rfl ?_
  refine zM fld39_1 (zC hN96 rfl s96_4) ?_
  have hB5_old := hB5
  refine za (vs := [v88]) (cs' := [tv, v88]) size37 (zA hN96 rfl) (zC hN96 rfl s96_70) hO91.cl rfl (by simp only [List.all_cons, List.all_nil, Bool.true_and, Bool.and_true, hO91.one]; try rfl) hB5 (zI rfl) rfl ?_
  intro w99 hB5 E100
  have := E100.size
  have O := O.keepX hB5_old E100 zz
  have Q := Q.keepG (Gr.of E100) (Dj.one dj7)
  have hB17 := hB17.keep E100 sB
  have hO56 := hO56.keepX hB5_old E100 zz
  have hx72 := hx72.keep E100 sO
  have hO91 := hO91.keepX hB5_old E100 zz
  have hb := hb.step1 E100 zx
  refine zB ?_
  refine hK61 _ _ (zF fun K101 hK101 => ?_)
  refine zH ?_
  refine zY agg39 rfl (zC hN96 rfl s96_4) hB5 ?_
  have hB17_old := hB17
  refine zZ size39 (zC hN96 rfl s96_8) (zA hN96 rfl) rfl (by simp only [List.all_cons, List.all_nil, Bool.true_and, Bool.and_true, O.one, hO91.one]; try rfl) hB17 rfl ?_
  intro w104 hB17 E105
  have := E105.size
  have Q := Q.keepG (Gr.of E105) (Dj.one dj19)
  have hO56 := hO56.keepX hB17_old E105 zz
  have hx72 := hx72.keep E105 sO
  have hO91 := hO91.keepX hB17_old E105 zz
  have hb := hb.step1 E105 zx
  refine zD rfl ?_
  refine zB ?_
  refine hK101 _ _ (wp_ret ?_)
  refine retN (rs := [.cell 8 39, .tmp 9]) (vs := [(.agg #[tv, v88]), (.int .i64 0)]) rfl hd96 ⟨⟨_, (zC hN96 rfl s96_8), run_loadA (cs := [tv, v88]) agg39 rfl (fun j u hu => by rw [Nat.zero_add]; exact hB17.cell hu)⟩, ⟨(zA hN96 rfl), trivial⟩⟩ rfl ⟨_, rfl, ?_⟩
  have e9 : (viewE (V.map DVw.nm) o s kk) = 0 := by unfold viewE; rw [if_neg (fun h => c23 (vw_mem.2 h)), if_neg (by rw [List.length_map]; omega), if_neg (fun h => h c33), if_neg (fun h => h.elim (fun g => by omega) fun g => g (of_decide_eq_true c48))]
  have hz9 := normL_len s.f.tags
  rw [e9]; exact ⟨hb, _, V ++ [(DVw.mk s.f.nm v56 (normL s.f.tags) a72)], _, rfl, hO91, Q.snoc (L := w.heap.size) (B := w104.heap.size) ⟨hO56.rdw.mono zx (Nat.le_refl _), hx72.mono zx zx, Nat.le_trans hz9 zz⟩ hbw (Nat.le_refl _), fun k hk => hk.elim .inl fun q => .inr q.1, by simp; omega, fun _ => ⟨_, rfl, rfl, rfl, hq72⟩, fun h => absurd rfl h⟩
 rw [c48]
 refine zS (j := 4) (dj := 41) (b := false) rfl rfl rfl (zA hN rfl) ?_
 refine op_not (zA hN rfl) ?_
 refine zd (zA hN rfl) (zA hN rfl) ?_
 refine zD (zA hN rfl) ?_
 refine zB ?_
 refine hK44 _ _ (wp_cond_true (zA hN rfl) (zF fun K106 hK106 => ?_))
 refine zH ?_
 refine zY agg39 rfl (zA hN rfl) hB5 ?_
 have hB17_old := hB17
 refine zZ size39 (zA hN rfl) (zA hN rfl) rfl (by simp only [List.all_cons, List.all_nil, Bool.true_and, Bool.and_true, O.one, P.one]; try rfl) hB17 rfl ?_
 intro w109 hB17 E110
 have := E110.size
 have P := P.keepX hB17_old E110 zz
 have Q := Q.keepG (Gr.of E110) (Dj.one dj19)
 have hb := hb.step1 E110 zx
 refine zD rfl ?_
 refine zB ?_
 refine hK106 _ _ (wp_ret (zb (zO ( ?_))))
 refine retN (rs := [.cell 8 39, .tmp 9]) (vs := [(.agg #[tv, vv]), (.int .i64 1)]) rfl hd ⟨⟨_, (zA hN rfl), run_loadA (cs := [tv, vv]) agg39 rfl (fun j u hu => by rw [Nat.zero_add]; exact hB17.cell hu)⟩, ⟨(zA hN rfl), trivial⟩⟩ rfl ⟨_, rfl, ?_⟩
 have e9 : (viewE (V.map DVw.nm) o s kk) = 1 := by unfold viewE; rw [if_neg (fun h => c23 (vw_mem.2 h)), if_neg (by rw [List.length_map]; omega), if_neg (fun h => h c33), if_pos (.inr (of_decide_eq_false c48))]
 rw [e9]; exact ⟨hb, _, V, FV, rfl, P, Q, NewF.refl _ _, hVz, fun h => absurd h (by first | decide | exact c33), fun _ => rfl⟩

theorem AddN_ret {tv vv ow : Value} {D : List DTab} {V : List DVw} {o : Lb} {s : XS} {w : World} (hT : TsRd w w.heap.size tv D) (hD : D.length ≤ 1000000) (hsz : ∀ d ∈ D, d.t.cols.length ≤ 1000000 ∧ d.t.idx.length ≤ 1000000) (hV : VsFr w 0 w.heap.size vv V) (he : SFr w 0 w.heap.size s) (hol : o.length ≤ 100) (ho : RdC w 0 w.heap.size 1 ow o.length (o.map u16v)) (hk2 : s.f.kind ≠ 2) : Ret Try.prog 27 #[(.agg #[tv, vv]), (.agg #[(.int .i64 s.f.kind), (.string (bs s.f.tb)), (.string (bs s.f.nm)), s.f.cv, s.f.gv, s.f.vv, s.f.iv, (.string (bs s.f.join)), s.f.ov, s.f.wv, s.f.rv, (.bool s.f.desc), s.nv]), ow] w (fun v' w' => Below w.heap.size w w' ∧ ∃ (tv' vv' : Value) (D' : List DTab) (V' : List DVw), v' = .tuple #[.agg #[tv', vv'], .int .i64 (addE (D.map DTab.t) (V.map DVw.nm) o s)] ∧ TsFr w' w.heap.size w'.heap.size tv' D' ∧ VsFr w' w.heap.size w'.heap.size vv' V' ∧ ((addE (D.map DTab.t) (V.map DVw.nm) o s) = 0 → D'.map DTab.t = addT (D.map DTab.t) s ∧ AddV V V' s) ∧ ((addE (D.map DTab.t) (V.map DVw.nm) o s) ≠ 0 → D' = [] ∧ V' = [])) := by
 have hR := hT.1
 have hVz0 := hV.3
 have hb := Below.refl w.heap.size w
 refine enter (N := 55) Try.func27 rfl rfl (by simp) fun a0 hN hd hA => ?_
 have s0 : a0.tmps.getD 0 undef = (.agg #[tv, vv]) := hA 0 (by simp)
 have s1 : a0.tmps.getD 1 undef = (.agg #[(.int .i64 s.f.kind), (.string (bs s.f.tb)), (.string (bs s.f.nm)), s.f.cv, s.f.gv, s.f.vv, s.f.iv, (.string (bs s.f.join)), s.f.ov, s.f.wv, s.f.rv, (.bool s.f.desc), s.nv]) := hA 1 (by simp)
 have s2 : a0.tmps.getD 2 undef = ow := hA 2 (by simp)
 clear hA
 refine zF fun K1 hK1 => ?_
 refine zH ?_
 refine op_box (cs := [tv, vv]) (zC hN rfl s0) rfl ?_
 intro w2 b3 lo_b3 hi_b3 hB5 E4
 have := E4.size
 have hT := hT.keep0 E4
 have hV := hV.keep0 E4
 have he := he.keep0 E4
 have ho := ho.keep0 E4
 have hb := zP hb E4 hb.size
 refine op_box (cs := [(.int .i64 s.f.kind), (.string (bs s.f.tb)), (.string (bs s.f.nm)), s.f.cv, s.f.gv, s.f.vv, s.f.iv, (.string (bs s.f.join)), s.f.ov, s.f.wv, s.f.rv, (.bool s.f.desc), s.nv]) (zC hN rfl s1) rfl ?_
 intro w6 b7 lo_b7 hi_b7 hB9 E8
 have := E8.size
 have hT := hT.keep0 E8
 have hV := hV.keep0 E8
 have he := he.keep0 E8
 have ho := ho.keep0 E8
 have hB5 := hB5.keep0 E8
 have hb := zP hb E8 hb.size
 refine op_alloc (cs := [(.slice none 0 0), (.slice none 0 0)]) zero39 rfl ?_
 intro w10 b11 lo_b11 hi_b11 hB13 E12
 have := E12.size
 have hT := hT.keep0 E12
 have hV := hV.keep0 E12
 have he := he.keep0 E12
 have ho := ho.keep0 E12
 obtain ⟨hB5, hB9⟩ := kb2 E12 hB5 hB9
 have hb := zP hb E12 hb.size
 refine zD rfl ?_
 refine zB ?_
 refine hK1 _ _ (zF fun K14 hK14 => ?_)
 refine zH ?_
 refine zY agg39 rfl (zA hN rfl) hB5 ?_
 refine zj ok60 (twin_ret (hT.mono zx) hD hsz (hV.mono (Nat.zero_le _) zx)) ⟨(zA hN rfl), trivial⟩ ?_
 rintro _ w16 ⟨E17, tv15, vv15, D15, V15, F15, FV15, rfl, hO15, hS15, hM15, hP15, hQ15, hdv15, hdt15, hdf15, hpw15, hvl15, hvs15⟩
 have lo_F15 : ∀ x, F15 x → w10.heap.size ≤ x := fun x hx => (hS15.lt x hx).1
 have dj20 : ¬ F15 b11 := fun hf => by have := lo_F15 _ hf; have := hB13.lt; omega
 have lo_FV15 : ∀ x, FV15 x → w10.heap.size ≤ x := fun x hx => (hQ15.lt x hx).1
 have dj23 : ¬ FV15 b11 := fun hf => by have := lo_FV15 _ hf; have := hB13.lt; omega
 have E17 := zQ E17
 have := E17.size
 have he := he.keep0 E17
 have ho := ho.keep0 E17
 obtain ⟨hB5, hB9, hB13⟩ := kb3 E17 hB5 hB9 hB13
 have hb := zP hb E17 hb.size
 have hO15 := hO15.mono (base' := w.heap.size) zx
 have hP15 := hP15.mono (base' := w.heap.size) zx
 have hS15 : TabsR w16 w.heap.size D15 F15 := hS15.mono zx
 have hQ15 : VsIn w16 w.heap.size V15 FV15 := hQ15.mono zx
 refine op_alloc (cs := [(.slice none 0 0), (.slice none 0 0)]) zero39 rfl ?_
 intro w24 b25 lo_b25 hi_b25 hB27 E26
 have dj28 : ¬ F15 b25 := fun hf => by have := (hS15.lt _ hf).2; omega
 have dj29 : ¬ FV15 b25 := fun hf => by have := (hQ15.lt _ hf).2; omega
 have := E26.size
 have he := he.keep0 E26
 have ho := ho.keep0 E26
 have hO15 := hO15.keep0 E26
 obtain ⟨hB5, hB9, hB13⟩ := kb3 E26 hB5 hB9 hB13
 have hS15 := hS15.keepG (zi E26 NoB) (fun _ _ h => h)
 have hP15 := hP15.keep0 E26
 have hQ15 := hQ15.keepG (zi E26 NoB) (fun _ _ h => h)
 have hb := zP hb E26 hb.size
 have hB27_old := hB27
 refine zZ size39 (zA hN rfl) (zA hN rfl) rfl (by simp only [List.all_cons, List.all_nil, Bool.true_and, Bool.and_true, hO15.one, hP15.one]; try rfl) hB27 rfl ?_
 intro w32 hB27 E33
 have := E33.size
 have he := he.keep E33 sO
 have ho := ho.keep E33 sR
 have hB5 := hB5.keep E33 sB
 have hB9 := hB9.keep E33 (sN hB9 hB27_old)
 have hB13 := hB13.keep E33 sB
 have hO15 := hO15.keepX hB27_old E33 zz
 have hS15 := hS15.keepG (Gr.of E33) (Dj.one dj28)
 have hP15 := hP15.keepX hB27_old E33 zz
 have hQ15 := hQ15.keepG (Gr.of E33) (Dj.one dj29)
 have hb := below_step1 hb E33 hb.size zx
 refine zD rfl ?_
 refine zB ?_
 refine hK14 _ _ (zF fun K34 hK34 => ?_)
 refine zF fun K35 hK35 => ?_
 refine zH ?_
 obtain ⟨hD9, hz9⟩ := sz_of hM15 hD hsz
 have hVz9 : V15.length ≤ 1000 := by have := hVz0; omega
 have hnm9 := names_same hvl15 hvs15
 refine zM fld45_0 (zA hN rfl) ?_
 refine zN (v := (Value.int .i64 s.f.kind)) one3 (zA hN rfl) (hB9.cell rfl) ?_
 refine zB ?_
 refine hK35 _ _ (wp_block ?_)
 refine zF fun K36 hK36 => ?_
 refine zH ?_
 refine op_eql (zA hN rfl) rfl (fun c15 => ?_) (fun c15 => ?_)
 ·
  refine zD (zA hN rfl) ?_
  refine zB ?_
  refine hK36 _ _ (wp_cond_true (zA hN rfl) (zH ?_))
  refine zY agg39 rfl (zA hN rfl) hB27 ?_
  refine zY agg45 rfl (zA hN rfl) hB9 ?_
  refine zj ok61 (table_ret hO15 hS15 hP15 hQ15 hdv15 hdt15 hD9 hz9 hVz9 he (Nat.le_refl _) zx) ⟨(zA hN rfl), ⟨(zA hN rfl), trivial⟩⟩ ?_
  rintro _ w38 ⟨E39, tz37, D37z, F37z, rfl, hO37, hS37, hA37⟩
  have hOld37 := hO15
  have bl_b3 := hB5.lt
  have bl_b7 := hB9.lt
  have bl_b11 := hB13.lt
  have bl_b25 := hB27.lt
  have djo37 : Dj (Bl vv15) (Bl tv15) := hP15.notOwn hOld37 zz
  have := E39.size
  have hB13 := hB13.keepG E39 (hOld37.notBx hB13 zz)
  have hP15 := hP15.keepG E39 djo37
  have hQ15 := hQ15.keepG E39 hdt15.symm
  have hB27 := hB27.keepG E39 (hOld37.notBx hB27 zz)
  have hb := below_stepG hb E39 hb.size (fun k hk => (hOld37.lt k hk).1)
  refine zG (zA hN rfl) ?_
  refine zW (zA hN rfl) rfl ?_
  refine zW (zA hN rfl) rfl ?_
  have hB27_old := hB27
  refine zZ size39 (zA hN rfl) (zA hN rfl) rfl (by simp only [List.all_cons, List.all_nil, Bool.true_and, Bool.and_true, hO37.one, hP15.one]; try rfl) hB27 rfl ?_
  intro w42 hB27 E43
  have := E43.size
  have hB13 := hB13.keep E43 sB
  have hP15 := hP15.keepX hB27_old E43 zz
  have hQ15 := hQ15.keepG (Gr.of E43) (Dj.one dj29)
  have hO37 := hO37.keepX hB27_old E43 zz
  have hS37 := hS37.keepG (Gr.of E43) (Dj.one (hS37.notBx hB27_old zz zz))
  have hb := below_step1 hb E43 hb.size zx
  refine zD (zA hN rfl) ?_
  refine zB ?_
  refine hK34 _ _ (zF fun K44 hK44 => ?_)
  refine zF fun K45 hK45 => ?_
  refine zH ?_
  refine zG (zA hN rfl) ?_
  refine op_neq (zA hN rfl) rfl (fun c51 => ?_) (fun c51 => ?_)
  ·
   refine zB ?_
   refine hK45 _ _ (wp_cond_true (zA hN rfl) (zF fun K46 hK46 => ?_))
   refine zH ?_
   refine zf (pv := []) (v := (Value.agg #[(.slice none 0 0), (.slice none 0 0)])) trivial zy ?_
   refine zG (zA hN rfl) ?_
   refine zZ size39 (zA hN rfl) (zA hN rfl) rfl rfl hB13 rfl ?_
   intro w49 hB13 E50
   have := E50.size
   have hb := below_step1 hb E50 hb.size zx
   refine zD (zA hN rfl) ?_
   refine zB ?_
   refine hK46 _ _ (wp_ret (zO ( ?_)))
   refine retN (rs := [.cell 6 39, .tmp 7]) (vs := [(.agg #[(.slice none 0 0), (.slice none 0 0)]), (.int .i64 (tabE (D15.map DTab.t) s.f.nm s.f.cols))]) rfl hd ⟨⟨_, (zA hN rfl), run_loadA (cs := [(.slice none 0 0), (.slice none 0 0)]) agg39 rfl (fun j u hu => by rw [Nat.zero_add]; exact hB13.cell hu)⟩, ⟨(zA hN rfl), trivial⟩⟩ rfl ⟨_, rfl, ?_⟩
   have e9 : (addE (D.map DTab.t) (V.map DVw.nm) o s) = (tabE (D15.map DTab.t) s.f.nm s.f.cols) := (addE_1 c15).trans (by rw [hM15])
   rw [e9]; exact ⟨hb, _, _, [], [], rfl, ⟨RdC.nil _ _ _ _, fun _ h => (by cases h)⟩, VsFr.nil _ _ _, fun h => absurd h c51, fun _ => ⟨rfl, rfl⟩⟩
  refine zB ?_
  refine hK45 _ _ (wp_cond_false (zA hN rfl) (wp_skip (hK44 _ _ (zF fun K51 hK51 => ?_))))
  refine zH ?_
  refine zY agg39 rfl (zA hN rfl) hB27 ?_
  have hB13_old := hB13
  refine zZ size39 (zA hN rfl) (zA hN rfl) rfl (by simp only [List.all_cons, List.all_nil, Bool.true_and, Bool.and_true, hO37.one, hP15.one]; try rfl) hB13 rfl ?_
  intro w54 hB13 E55
  have := E55.size
  have hP15 := hP15.keepX hB13_old E55 zz
  have hQ15 := hQ15.keepG (Gr.of E55) (Dj.one dj23)
  have hO37 := hO37.keepX hB13_old E55 zz
  have hS37 := hS37.keepG (Gr.of E55) (Dj.one (hS37.notBx hB13_old zz zz))
  have hb := below_step1 hb E55 hb.size zx
  refine zD rfl ?_
  refine zB ?_
  refine hK51 _ _ (wp_ret ?_)
  refine retN (rs := [.cell 6 39, .tmp 7]) (vs := [(.agg #[tz37, vv15]), (.int .i64 0)]) rfl hd ⟨⟨_, (zA hN rfl), run_loadA (cs := [tz37, vv15]) agg39 rfl (fun j u hu => by rw [Nat.zero_add]; exact hB13.cell hu)⟩, ⟨(zA hN rfl), trivial⟩⟩ rfl ⟨_, rfl, ?_⟩
  have e9 : (addE (D.map DTab.t) (V.map DVw.nm) o s) = (tabE (D15.map DTab.t) s.f.nm s.f.cols) := (addE_1 c15).trans (by rw [hM15])
  rw [e9, c51]; exact ⟨hb, _, _, D37z, V15, rfl, TabsR.fr hS37 hO37, hQ15.fr hVz9 hP15, fun _ => ⟨by rw [hA37, if_pos c51, hM15, addT_1 c15], AddV.n zx hvl15 hvs15⟩, fun h => absurd rfl h⟩
 refine zD (zA hN rfl) ?_
 refine zB ?_
 refine hK36 _ _ (wp_cond_false (zA hN rfl) (zF fun K56 hK56 => ?_))
 refine zH ?_
 refine op_eql (zA hN rfl) rfl (fun c23 => ?_) (fun c23 => ?_)
 ·
  exact absurd c23 hk2
 refine zD (zA hN rfl) ?_
 refine zB ?_
 refine hK56 _ _ (wp_cond_false (zA hN rfl) (zF fun K57 hK57 => ?_))
 refine zH ?_
 refine op_eql (zA hN rfl) rfl (fun c31 => ?_) (fun c31 => ?_)
 ·
  refine zD (zA hN rfl) ?_
  refine zB ?_
  refine hK57 _ _ (wp_cond_true (zA hN rfl) (zH ?_))
  refine zY agg39 rfl (zA hN rfl) hB27 ?_
  refine zY agg45 rfl (zA hN rfl) hB9 ?_
  refine zG (zC hN rfl s2) ?_
  refine op_bslice (e := 3) (pv := [(0, (.int .i64 6))]) (cs := [(.int .i64 6)]) ⟨rfl, rfl, trivial⟩ zy ?_
  intro w58 b59 lo_b59 hi_b59 hB61 E60
  have := E60.size
  have he := he.keep0 E60
  have ho := ho.keep0 E60
  have hO15 := hO15.keep0 E60
  obtain ⟨hB5, hB9, hB13⟩ := kb3 E60 hB5 hB9 hB13
  have hS15 := hS15.keepG (zi E60 NoB) (fun _ _ h => h)
  have hP15 := hP15.keep0 E60
  have hQ15 := hQ15.keepG (zi E60 NoB) (fun _ _ h => h)
  have hB27 := hB27.keep0 E60
  have hb := zP hb E60 hb.size
  refine zj ok63 (view_ret (kk := [6]) hO15 hS15 hP15 hQ15 hdv15 hdt15 hD9 hz9 hVz9 he (Nat.le_refl _) zx hol (ho.mono (Nat.le_refl _) zx) ((RdC.ofBx (sz := 1) (n := 1) hB61 rfl zz).mono (Nat.zero_le _) zx)) ⟨(zA hN rfl), ⟨(zA hN rfl), ⟨(zA hN rfl), ⟨(zA hN rfl), trivial⟩⟩⟩⟩ ?_
  rintro _ w65 ⟨E66, vz64, V64z, F64z, rfl, hO64, hS64, hF64, hz64, hE64, hN64⟩
  have hOld64 := hP15
  have bl_b3 := hB5.lt
  have bl_b7 := hB9.lt
  have bl_b11 := hB13.lt
  have bl_b25 := hB27.lt
  have bl_b59 := hB61.lt
  have djo64 : Dj (Bl tv15) (Bl vv15) := hO15.notOwn hOld64 zz
  have dtb64 := (hS15.notOwn hP15 zz zz).symm
  have := E66.size
  have hB13 := hB13.keepG E66 (hOld64.notBx hB13 zz)
  have hO15 := hO15.keepG E66 djo64
  have hS15 := hS15.keepG E66 dtb64
  have hB27 := hB27.keepG E66 (hOld64.notBx hB27 zz)
  have hb := below_stepG hb E66 hb.size (fun k hk => (hOld64.lt k hk).1)
  have dj69 : ¬ F64z b11 := ne_stepF hF64 bl_b11 dj23
  have dj70 : ¬ F64z b25 := ne_stepF hF64 bl_b25 dj29
  refine zG (zA hN rfl) ?_
  refine zW (zA hN rfl) rfl ?_
  refine zW (zA hN rfl) rfl ?_
  have hB27_old := hB27
  refine zZ size39 (zA hN rfl) (zA hN rfl) rfl (by simp only [List.all_cons, List.all_nil, Bool.true_and, Bool.and_true, hO15.one, hO64.one]; try rfl) hB27 rfl ?_
  intro w74 hB27 E75
  have := E75.size
  have hB13 := hB13.keep E75 sB
  have hO15 := hO15.keepX hB27_old E75 zz
  have hS15 := hS15.keepG (Gr.of E75) (Dj.one dj28)
  have hO64 := hO64.keepX hB27_old E75 zz
  have hS64 := hS64.keepG (Gr.of E75) (Dj.one dj70)
  have hb := below_step1 hb E75 hb.size zx
  refine zD (zA hN rfl) ?_
  refine zB ?_
  refine hK34 _ _ (zF fun K76 hK76 => ?_)
  refine zF fun K77 hK77 => ?_
  refine zH ?_
  refine zG (zA hN rfl) ?_
  refine op_neq (zA hN rfl) rfl (fun c51 => ?_) (fun c51 => ?_)
  ·
   refine zB ?_
   refine hK77 _ _ (wp_cond_true (zA hN rfl) (zF fun K78 hK78 => ?_))
   refine zH ?_
   refine zf (pv := []) (v := (Value.agg #[(.slice none 0 0), (.slice none 0 0)])) trivial zy ?_
   refine zG (zA hN rfl) ?_
   refine zZ size39 (zA hN rfl) (zA hN rfl) rfl rfl hB13 rfl ?_
   intro w81 hB13 E82
   have := E82.size
   have hb := below_step1 hb E82 hb.size zx
   refine zD (zA hN rfl) ?_
   refine zB ?_
   refine hK78 _ _ (wp_ret (zO ( ?_)))
   refine retN (rs := [.cell 6 39, .tmp 7]) (vs := [(.agg #[(.slice none 0 0), (.slice none 0 0)]), (.int .i64 (viewE (V15.map DVw.nm) o s [6]))]) rfl hd ⟨⟨_, (zA hN rfl), run_loadA (cs := [(.slice none 0 0), (.slice none 0 0)]) agg39 rfl (fun j u hu => by rw [Nat.zero_add]; exact hB13.cell hu)⟩, ⟨(zA hN rfl), trivial⟩⟩ rfl ⟨_, rfl, ?_⟩
   have e9 : (addE (D.map DTab.t) (V.map DVw.nm) o s) = (viewE (V15.map DVw.nm) o s [6]) := (addE_3 c31).trans (by rw [hnm9])
   rw [e9]; exact ⟨hb, _, _, [], [], rfl, ⟨RdC.nil _ _ _ _, fun _ h => (by cases h)⟩, VsFr.nil _ _ _, fun h => absurd h c51, fun _ => ⟨rfl, rfl⟩⟩
  refine zB ?_
  refine hK77 _ _ (wp_cond_false (zA hN rfl) (wp_skip (hK76 _ _ (zF fun K83 hK83 => ?_))))
  refine zH ?_
  refine zY agg39 rfl (zA hN rfl) hB27 ?_
  have hB13_old := hB13
  refine zZ size39 (zA hN rfl) (zA hN rfl) rfl (by simp only [List.all_cons, List.all_nil, Bool.true_and, Bool.and_true, hO15.one, hO64.one]; try rfl) hB13 rfl ?_
  intro w86 hB13 E87
  have := E87.size
  have hO15 := hO15.keepX hB13_old E87 zz
  have hS15 := hS15.keepG (Gr.of E87) (Dj.one dj20)
  have hO64 := hO64.keepX hB13_old E87 zz
  have hS64 := hS64.keepG (Gr.of E87) (Dj.one dj69)
  have hb := below_step1 hb E87 hb.size zx
  refine zD rfl ?_
  refine zB ?_
  refine hK83 _ _ (wp_ret ?_)
  refine retN (rs := [.cell 6 39, .tmp 7]) (vs := [(.agg #[tv15, vz64]), (.int .i64 0)]) rfl hd ⟨⟨_, (zA hN rfl), run_loadA (cs := [tv15, vz64]) agg39 rfl (fun j u hu => by rw [Nat.zero_add]; exact hB13.cell hu)⟩, ⟨(zA hN rfl), trivial⟩⟩ rfl ⟨_, rfl, ?_⟩
  have e9 : (addE (D.map DTab.t) (V.map DVw.nm) o s) = (viewE (V15.map DVw.nm) o s [6]) := (addE_3 c31).trans (by rw [hnm9])
  obtain ⟨d9, hVd, hnd⟩ := hE64 c51
  rw [e9, c51]; exact ⟨hb, _, _, D15, V64z, rfl, TabsR.fr hS15 hO15, hS64.fr hz64 hO64, fun _ => ⟨by rw [hM15, addT_v zx], by rw [hVd]; exact AddV.v zx hvl15 hvs15 hnd⟩, fun h => absurd rfl h⟩
 refine zD (zA hN rfl) ?_
 refine zB ?_
 refine hK57 _ _ (wp_cond_false (zA hN rfl) (zF fun K88 hK88 => ?_))
 refine zH ?_
 refine op_eql (zA hN rfl) rfl (fun c41 => ?_) (fun c41 => ?_)
 ·
  refine zD (zA hN rfl) ?_
  refine zB ?_
  refine hK88 _ _ (wp_cond_true (zA hN rfl) (zH ?_))
  refine zY agg39 rfl (zA hN rfl) hB27 ?_
  refine zY agg45 rfl (zA hN rfl) hB9 ?_
  refine zG (zC hN rfl s2) ?_
  refine op_bslice (e := 3) (pv := [(0, (.int .i64 5)), (1, (.int .i64 7)), (2, (.int .i64 8))]) (cs := [(.int .i64 5), (.int .i64 7), (.int .i64 8)]) ⟨rfl, rfl, ⟨rfl, rfl, ⟨rfl, rfl, trivial⟩⟩⟩ zy ?_
  intro w89 b90 lo_b90 hi_b90 hB92 E91
  have := E91.size
  have he := he.keep0 E91
  have ho := ho.keep0 E91
  have hO15 := hO15.keep0 E91
  obtain ⟨hB5, hB9, hB13⟩ := kb3 E91 hB5 hB9 hB13
  have hS15 := hS15.keepG (zi E91 NoB) (fun _ _ h => h)
  have hP15 := hP15.keep0 E91
  have hQ15 := hQ15.keepG (zi E91 NoB) (fun _ _ h => h)
  have hB27 := hB27.keep0 E91
  have hb := zP hb E91 hb.size
  refine zj ok63 (view_ret (kk := [5, 7, 8]) hO15 hS15 hP15 hQ15 hdv15 hdt15 hD9 hz9 hVz9 he (Nat.le_refl _) zx hol (ho.mono (Nat.le_refl _) zx) ((RdC.ofBx (sz := 1) (n := 3) hB92 rfl zz).mono (Nat.zero_le _) zx)) ⟨(zA hN rfl), ⟨(zA hN rfl), ⟨(zA hN rfl), ⟨(zA hN rfl), trivial⟩⟩⟩⟩ ?_
  rintro _ w96 ⟨E97, vz95, V95z, F95z, rfl, hO95, hS95, hF95, hz95, hE95, hN95⟩
  have hOld95 := hP15
  have bl_b3 := hB5.lt
  have bl_b7 := hB9.lt
  have bl_b11 := hB13.lt
  have bl_b25 := hB27.lt
  have bl_b90 := hB92.lt
  have djo95 : Dj (Bl tv15) (Bl vv15) := hO15.notOwn hOld95 zz
  have dtb95 := (hS15.notOwn hP15 zz zz).symm
  have := E97.size
  have hB13 := hB13.keepG E97 (hOld95.notBx hB13 zz)
  have hO15 := hO15.keepG E97 djo95
  have hS15 := hS15.keepG E97 dtb95
  have hB27 := hB27.keepG E97 (hOld95.notBx hB27 zz)
  have hb := below_stepG hb E97 hb.size (fun k hk => (hOld95.lt k hk).1)
  have dj100 : ¬ F95z b11 := ne_stepF hF95 bl_b11 dj23
  have dj101 : ¬ F95z b25 := ne_stepF hF95 bl_b25 dj29
  refine zG (zA hN rfl) ?_
  refine zW (zA hN rfl) rfl ?_
  refine zW (zA hN rfl) rfl ?_
  have hB27_old := hB27
  refine zZ size39 (zA hN rfl) (zA hN rfl) rfl (by simp only [List.all_cons, List.all_nil, Bool.true_and, Bool.and_true, hO15.one, hO95.one]; try rfl) hB27 rfl ?_
  intro w105 hB27 E106
  have := E106.size
  have hB13 := hB13.keep E106 sB
  have hO15 := hO15.keepX hB27_old E106 zz
  have hS15 := hS15.keepG (Gr.of E106) (Dj.one dj28)
  have hO95 := hO95.keepX hB27_old E106 zz
  have hS95 := hS95.keepG (Gr.of E106) (Dj.one dj101)
  have hb := below_step1 hb E106 hb.size zx
  refine zD (zA hN rfl) ?_
  refine zB ?_
  refine hK34 _ _ (zF fun K107 hK107 => ?_)
  refine zF fun K108 hK108 => ?_
  refine zH ?_
  refine zG (zA hN rfl) ?_
  refine op_neq (zA hN rfl) rfl (fun c51 => ?_) (fun c51 => ?_)
  ·
   refine zB ?_
   refine hK108 _ _ (wp_cond_true (zA hN rfl) (zF fun K109 hK109 => ?_))
   refine zH ?_
   refine zf (pv := []) (v := (Value.agg #[(.slice none 0 0), (.slice none 0 0)])) trivial zy ?_
   refine zG (zA hN rfl) ?_
   refine zZ size39 (zA hN rfl) (zA hN rfl) rfl rfl hB13 rfl ?_
   intro w112 hB13 E113
   have := E113.size
   have hb := below_step1 hb E113 hb.size zx
   refine zD (zA hN rfl) ?_
   refine zB ?_
   refine hK109 _ _ (wp_ret (zO ( ?_)))
   refine retN (rs := [.cell 6 39, .tmp 7]) (vs := [(.agg #[(.slice none 0 0), (.slice none 0 0)]), (.int .i64 (viewE (V15.map DVw.nm) o s [5, 7, 8]))]) rfl hd ⟨⟨_, (zA hN rfl), run_loadA (cs := [(.slice none 0 0), (.slice none 0 0)]) agg39 rfl (fun j u hu => by rw [Nat.zero_add]; exact hB13.cell hu)⟩, ⟨(zA hN rfl), trivial⟩⟩ rfl ⟨_, rfl, ?_⟩
   have e9 : (addE (D.map DTab.t) (V.map DVw.nm) o s) = (viewE (V15.map DVw.nm) o s [5, 7, 8]) := (addE_4 c41).trans (by rw [hnm9])
   rw [e9]; exact ⟨hb, _, _, [], [], rfl, ⟨RdC.nil _ _ _ _, fun _ h => (by cases h)⟩, VsFr.nil _ _ _, fun h => absurd h c51, fun _ => ⟨rfl, rfl⟩⟩
  refine zB ?_
  refine hK108 _ _ (wp_cond_false (zA hN rfl) (wp_skip (hK107 _ _ (zF fun K114 hK114 => ?_))))
  refine zH ?_
  refine zY agg39 rfl (zA hN rfl) hB27 ?_
  have hB13_old := hB13
  refine zZ size39 (zA hN rfl) (zA hN rfl) rfl (by simp only [List.all_cons, List.all_nil, Bool.true_and, Bool.and_true, hO15.one, hO95.one]; try rfl) hB13 rfl ?_
  intro w117 hB13 E118
  have := E118.size
  have hO15 := hO15.keepX hB13_old E118 zz
  have hS15 := hS15.keepG (Gr.of E118) (Dj.one dj20)
  have hO95 := hO95.keepX hB13_old E118 zz
  have hS95 := hS95.keepG (Gr.of E118) (Dj.one dj100)
  have hb := below_step1 hb E118 hb.size zx
  refine zD rfl ?_
  refine zB ?_
  refine hK114 _ _ (wp_ret ?_)
  refine retN (rs := [.cell 6 39, .tmp 7]) (vs := [(.agg #[tv15, vz95]), (.int .i64 0)]) rfl hd ⟨⟨_, (zA hN rfl), run_loadA (cs := [tv15, vz95]) agg39 rfl (fun j u hu => by rw [Nat.zero_add]; exact hB13.cell hu)⟩, ⟨(zA hN rfl), trivial⟩⟩ rfl ⟨_, rfl, ?_⟩
  have e9 : (addE (D.map DTab.t) (V.map DVw.nm) o s) = (viewE (V15.map DVw.nm) o s [5, 7, 8]) := (addE_4 c41).trans (by rw [hnm9])
  obtain ⟨d9, hVd, hnd⟩ := hE95 c51
  rw [e9, c51]; exact ⟨hb, _, _, D15, V95z, rfl, TabsR.fr hS15 hO15, hS95.fr hz95 hO95, fun _ => ⟨by rw [hM15, addT_v zx], by rw [hVd]; exact AddV.v zx hvl15 hvs15 hnd⟩, fun h => absurd rfl h⟩
 refine zD (zA hN rfl) ?_
 refine zB ?_
 refine hK88 _ _ (wp_cond_false (zA hN rfl) (wp_skip (hK34 _ _ (zF fun K119 hK119 => ?_))))
 refine zF fun K120 hK120 => ?_
 refine zH ?_
 refine zG (zA hN rfl) ?_
 refine op_bin (v := .bool true) (zA hN rfl) rfl (by rw [binOp_neq]; rfl) (zB ?_)
 refine hK120 _ _ (wp_cond_true (zA hN rfl) (zF fun K121 hK121 => ?_))
 refine zH ?_
 refine zf (pv := []) (v := (Value.agg #[(.slice none 0 0), (.slice none 0 0)])) trivial zy ?_
 refine zG (zA hN rfl) ?_
 refine zZ size39 (zA hN rfl) (zA hN rfl) rfl rfl hB13 rfl ?_
 intro w124 hB13 E125
 have := E125.size
 have hb := below_step1 hb E125 hb.size zx
 refine zD (zA hN rfl) ?_
 refine zB ?_
 refine hK121 _ _ (wp_ret (zO ( ?_)))
 refine retN (rs := [.cell 6 39, .tmp 7]) (vs := [(.agg #[(.slice none 0 0), (.slice none 0 0)]), (.int .i64 1)]) rfl hd ⟨⟨_, (zA hN rfl), run_loadA (cs := [(.slice none 0 0), (.slice none 0 0)]) agg39 rfl (fun j u hu => by rw [Nat.zero_add]; exact hB13.cell hu)⟩, ⟨(zA hN rfl), trivial⟩⟩ rfl ⟨_, rfl, ?_⟩
 have e9 : (addE (D.map DTab.t) (V.map DVw.nm) o s) = 1 := addE_5 zx
 rw [e9]; exact ⟨hb, _, _, [], [], rfl, ⟨RdC.nil _ _ _ _, fun _ h => (by cases h)⟩, VsFr.nil _ _ _, fun h => absurd h zz, fun _ => ⟨rfl, rfl⟩⟩

theorem begun9_ret {w : World} : Ret Try.prog 26 #[] w (fun v' w' => Below w.heap.size w w' ∧ v' = .bool true) := by
 have hb := Below.refl w.heap.size w
 refine enter (N := 37) Try.func26 rfl rfl (by simp) fun a0 hN hd hA => ?_
 clear hA
 refine zF fun K1 hK1 => ?_
 refine zH ?_
 refine zD rfl ?_
 refine zB ?_
 refine hK1 _ _ (zF fun K2 hK2 => ?_)
 refine zH ?_
 refine zf (pv := []) (v := (Value.agg #[(.slice none 0 0), (.slice none 0 0)])) trivial zy ?_
 refine zf (pv := [(0, (.string (bs [107]))), (1, (.int .i64 1))]) (v := (Value.agg #[(.string (bs [107])), (.int .i64 1), (.string (bs []))])) ⟨rfl, rfl, ⟨rfl, rfl, trivial⟩⟩ zy ?_
 refine op_bslice (e := 68) (pv := [(0, (.agg #[(.string (bs [107])), (.int .i64 1), (.string (bs []))]))]) (cs := [(.string (bs [107])), (.int .i64 1), (.string (bs []))]) ⟨rfl, (zA hN rfl), trivial⟩ zy ?_
 intro w3 b4 lo_b4 hi_b4 hB6 E5
 have := E5.size
 have hb := zP hb E5 hb.size
 refine zf (pv := [(0, (.int .i64 1)), (2, (.string (bs [116]))), (3, (.slice (some ⟨b4, 0, none⟩) 1 1))]) (v := (Value.agg #[(.int .i64 1), (.string (bs [])), (.string (bs [116])), (.slice (some ⟨b4, 0, none⟩) 1 1), (.slice none 0 0), (.slice none 0 0), (.slice none 0 0), (.string (bs [])), (.slice none 0 0), (.slice none 0 0), (.slice none 0 0), (.bool false), (.slice none 0 0)])) ⟨rfl, rfl, ⟨rfl, rfl, ⟨rfl, (zA hN rfl), trivial⟩⟩⟩ zy ?_
 refine zj ok27 (AddN_ret (D := ([] : List DTab)) (V := ([] : List DVw)) (o := ([] : Lb)) (s := (XS.mk (StF.mk 1 [] ([116]) (.slice (some ⟨b4, 0, none⟩) 1 1) ([(PCol.mk ([107]) 1 [])]) (.slice none 0 0) [] (.slice none 0 0) [] (.slice none 0 0) [] [] (.slice none 0 0) [] (.slice none 0 0) [] (.slice none 0 0) [] false) (.slice none 0 0) [])) ⟨RdC.nil _ _ _ _, fun _ h => (by cases h)⟩ zz (fun _ h => (by cases h)) (VsFr.nil _ _ _) (SFr.flat (s := (XS.mk (StF.mk 1 [] ([116]) (.slice (some ⟨b4, 0, none⟩) 1 1) ([(PCol.mk ([107]) 1 [])]) (.slice none 0 0) [] (.slice none 0 0) [] (.slice none 0 0) [] [] (.slice none 0 0) [] (.slice none 0 0) [] (.slice none 0 0) [] false) (.slice none 0 0) [])) ⟨(((RdC.ofBx (sz := 3) (n := 1) hB6 rfl zz).mono (Nat.zero_le _) hB6.lt).cast rfl rfl), (RdC.nil _ _ _ _), XsFr.nil _ _ _, (RdC.nil _ _ _ _), XsFr.nil _ _ _, XsFr.nil _ _ _, XsFr.nil _ _ _⟩ ⟨(zI rfl), (zI rfl), (zI rfl)⟩ rfl rfl) (zI rfl) (RdC.nil _ _ _ _) (show (1 : Int) ≠ 2 by decide)) ⟨(zA hN rfl), ⟨(zA hN rfl), ⟨rfl, trivial⟩⟩⟩ ?_
 rintro _ w8 ⟨E9, tz7, vz7, D7z, V7z, rfl, hT7, hV7, hE7, hN7⟩
 have hR7 := hT7.1
 have hVR7 := hV7.1
 have E9 := zQ E9
 have := E9.size
 have hb := zP hb E9 hb.size
 refine zG (zA hN rfl) ?_
 refine zW (zA hN rfl) rfl ?_
 refine zW (zA hN rfl) rfl ?_
 refine op_alloc (cs := [(.slice none 0 0), (.slice none 0 0)]) zero39 rfl ?_
 intro w10 b11 lo_b11 hi_b11 hB13 E12
 have := E12.size
 have hT7 := hT7.keep0 E12
 have hR7 := hR7.keep0 E12
 have hV7 := hV7.keep0 E12
 have hb := zP hb E12 hb.size
 refine zZ size39 (zA hN rfl) (zA hN rfl) rfl (by simp only [List.all_cons, List.all_nil, Bool.true_and, Bool.and_true, hR7.one, hV7.rdc.one]; try rfl) hB13 rfl ?_
 intro w16 hB13 E17
 have := E17.size
 have hT7 := hT7.keep E17 sO
 have hV7 := hV7.keep E17 sO
 have hb := below_step1 hb E17 hb.size zx
 refine zD (zA hN rfl) ?_
 refine zB ?_
 refine hK2 _ _ (zF fun K18 hK18 => ?_)
 refine zH ?_
 obtain ⟨hM9, _⟩ := hE7 rfl
 have hM8 : D7z.map DTab.t = [PTab.mk [116] [PCol.mk [107] 1 []] []] := hM9.trans rfl
 have hDz := SzT.d (D := D7z) (by rw [hM8]; exact ⟨by decide, by decide⟩)
 refine zY agg39 rfl (zA hN rfl) hB13 ?_
 rcases Bool.eq_false_or_eq_true ((tabAt (D7z.map DTab.t) ([116])).isSome) with k15 | k15
 ·
  refine zj ok57 (Table2T k15 (hT7.rd.mono zx) hDz.1 hDz.2 (hV7.mono (Nat.zero_le _) zx)) ⟨(zA hN rfl), ⟨rfl, trivial⟩⟩ ?_
  rintro _ w20 ⟨E21, d19, rfl, ht19, hO19, hP19⟩
  have E21 := zQ E21
  have := E21.size
  have hb := zP hb E21 hb.size
  have hO19 := hO19.mono (base' := w.heap.size) zx
  have hP19 := hP19.mono (base' := w.heap.size) zx
  refine zG (zA hN rfl) ?_
  refine zW (zA hN rfl) rfl ?_
  refine zW (zA hN rfl) rfl ?_
  refine op_alloc (cs := [(.string (bs [])), (.slice none 0 0), (.slice none 0 0)]) zero55 rfl ?_
  intro w22 b23 lo_b23 hi_b23 hB25 E24
  have := E24.size
  have hO19 := hO19.keep0 E24
  have hP19 := hP19.keep0 E24
  have hb := zP hb E24 hb.size
  have hB25_old := hB25
  refine zZ size55 (zA hN rfl) (zA hN rfl) rfl (by simp only [List.all_cons, List.all_nil, Bool.true_and, Bool.and_true, hO19.one, hP19.one]; try rfl) hB25 rfl ?_
  intro w28 hB25 E29
  have := E29.size
  have hO19 := hO19.keepX hB25_old E29 zz
  have hP19 := hP19.keepX hB25_old E29 zz
  have hb := below_step1 hb E29 hb.size zx
  refine zD (zA hN rfl) ?_
  refine zB ?_
  refine hK18 _ _ (zF fun K30 hK30 => ?_)
  refine zH ?_
  have hd8 : d19.t = PTab.mk [116] [PCol.mk [107] 1 []] [] := by rw [hM8] at ht19; exact (zE ht19).symm
  refine zG (zA hN rfl) ?_
  refine op_eql (zA hN rfl) rfl (fun c19 => ?_) (fun c19 => ?_)
  ·
   refine zG (zA hN rfl) ?_
   refine zS (j := 2) (dj := 20) (b := true) rfl rfl rfl (zA hN rfl) ?_
   refine zG (zA hN rfl) ?_
   refine zc (zA hN rfl) (zA hN rfl) ?_
   refine zG (zA hN rfl) ?_
   refine zS (j := 5) (dj := 23) (b := true) rfl rfl rfl (zA hN rfl) ?_
   refine zY agg55 rfl (zA hN rfl) hB25 ?_
   refine zS (j := 5) (dj := 23) (b := true) rfl rfl rfl (zA hN rfl) ?_
   refine zj ok58 (Column_ret d19.t.nm d19.t.cols _ d19.iv ([107]) _ (hO19.rdw.mono (Nat.zero_le _) zx)) ⟨(zA hN rfl), ⟨rfl, trivial⟩⟩ ?_
   rintro _ w31 ⟨E32, rfl⟩
   have E32 := zQ E32
   have := E32.size
   have hO19 := hO19.keep0 E32
   have hP19 := hP19.keep0 E32
   have hB25 := hB25.keep0 E32
   have hb := zP hb E32 hb.size
   refine zS (j := 5) (dj := 23) (b := true) rfl rfl rfl (zA hN rfl) ?_
   refine op_eql (zA hN rfl) rfl (fun c26 => ?_) (fun c26 => ?_)
   ·
    refine zc (zA hN rfl) (zA hN rfl) ?_
    refine zG (zA hN rfl) ?_
    refine zS (j := 10) (dj := 28) (b := true) rfl rfl rfl (zA hN rfl) ?_
    refine zY agg55 rfl (zA hN rfl) hB25 ?_
    refine zS (j := 10) (dj := 28) (b := true) rfl rfl rfl (zA hN rfl) ?_
    refine zj ok58 (Column_ret d19.t.nm d19.t.cols _ d19.iv ([113]) _ (hO19.rdw.mono (Nat.zero_le _) zx)) ⟨(zA hN rfl), ⟨rfl, trivial⟩⟩ ?_
    rintro _ w33 ⟨E34, rfl⟩
    have E34 := zQ E34
    have := E34.size
    have hO19 := hO19.keep0 E34
    have hP19 := hP19.keep0 E34
    have hB25 := hB25.keep0 E34
    have hb := zP hb E34 hb.size
    refine zS (j := 10) (dj := 28) (b := true) rfl rfl rfl (zA hN rfl) ?_
    refine op_eql (zA hN rfl) rfl (fun c31 => ?_) (fun c31 => ?_)
    ·
     refine zc (zA hN rfl) (zA hN rfl) ?_
     refine zG (zA hN rfl) ?_
     refine zS (j := 15) (dj := 33) (b := true) rfl rfl rfl (zA hN rfl) ?_
     refine zY agg55 rfl (zA hN rfl) hB25 ?_
     refine zS (j := 15) (dj := 33) (b := true) rfl rfl rfl (zA hN rfl) ?_
     refine zj ok59 (Indexed_ret ([107]) (hO19.rdw.mono (Nat.zero_le _) zx) (hP19.rdw.mono (Nat.zero_le _) zx)) ⟨(zA hN rfl), ⟨rfl, trivial⟩⟩ ?_
     rintro _ w35 ⟨E36, rfl⟩
     have E36 := zQ E36
     have := E36.size
     have hb := zP hb E36 hb.size
     rcases Bool.eq_false_or_eq_true ((decide ((colIx d19.t.cols ([107])) = 0 ∨ [107] ∈ d19.t.idx))) with c35 | c35
     ·
      rw [c35]
      refine zc (zA hN rfl) (zA hN rfl) ?_
      refine zD (zA hN rfl) ?_
      refine zB ?_
      refine hK30 _ _ (wp_ret ?_)
      refine ret1 rfl hd (zA hN rfl) ⟨_, rfl, ?_⟩
      exact ⟨hb, rfl⟩
     exact absurd (.inl (by rw [hd8]; rfl)) (of_decide_eq_false c35)
    exact absurd (by rw [hd8]; rfl) c31
   exact absurd (by rw [hd8]; rfl) c26
  exact absurd rfl c19
 exact absurd (show (tabAt [PTab.mk [116] [PCol.mk [107] 1 []] []] [116]).isSome = true from rfl) (by rw [hM8] at k15; rw [k15]; decide)

theorem index_ret {tv vv : Value} {D : List DTab} {V : List DVw} {F FV : Nat → Prop} {base Bs : Nat} {s : XS} {w : World} (O : Own w base 55 3 tv D.length (D.flatMap cellsT)) (S : TabsR w base D F) (P : Own w base 98 15 vv V.length (V.flatMap cellsW)) (Q : VsIn w base V FV) (d1 : Dj (Bl vv) FV) (d2 : Dj (Bl tv) FV) (hD : D.length ≤ 1000000) (hsz : ∀ d ∈ D, d.t.cols.length ≤ 1000000 ∧ d.t.idx.length ≤ 1000000) (hVz : V.length ≤ 1000) (d3 : Dj F FV) (hPw : PwI D) (he : SFr w 0 Bs s) (hBs : Bs ≤ base) (hbw : base ≤ w.heap.size) : Ret Try.prog 62 #[(.agg #[tv, vv]), (.agg #[(.int .i64 s.f.kind), (.string (bs s.f.tb)), (.string (bs s.f.nm)), s.f.cv, s.f.gv, s.f.vv, s.f.iv, (.string (bs s.f.join)), s.f.ov, s.f.wv, s.f.rv, (.bool s.f.desc), s.nv])] w (fun v' w' => Gr w w' (fun x => Bl tv x ∨ F x) ∧ ∃ (D' : List DTab) (F' : Nat → Prop), v' = .tuple #[.agg #[tv, vv], .int .i64 (idxE (D.map DTab.t) s.f.tb s.f.nm)] ∧ Own w' base 55 3 tv D'.length (D'.flatMap cellsT) ∧ TabsR w' base D' F' ∧ ((idxE (D.map DTab.t) s.f.tb s.f.nm) = 0 → D'.map DTab.t = idxT (D.map DTab.t) s.f.tb s.f.nm)) := by
 obtain ⟨hfc, hfg, hfv, hfi, hfo, hfw, hfr⟩ := he.ff
 have hfn := he.inn
 obtain ⟨⟨hs1, hs2, hs3⟩, hs4⟩ := he.sm
 have hiz9 := fun d hd => (hsz d hd).2
 have hb := Gr.refl w (fun x => Bl tv x ∨ F x)
 refine enter (N := 53) Try.func62 rfl rfl (by simp) fun a0 hN hd hA => ?_
 have s0 : a0.tmps.getD 0 undef = (.agg #[tv, vv]) := hA 0 (by simp)
 have s1 : a0.tmps.getD 1 undef = (.agg #[(.int .i64 s.f.kind), (.string (bs s.f.tb)), (.string (bs s.f.nm)), s.f.cv, s.f.gv, s.f.vv, s.f.iv, (.string (bs s.f.join)), s.f.ov, s.f.wv, s.f.rv, (.bool s.f.desc), s.nv]) := hA 1 (by simp)
 clear hA
 refine zF fun K1 hK1 => ?_
 refine zH ?_
 refine op_box (cs := [tv, vv]) (zC hN rfl s0) rfl ?_
 intro w2 b3 lo_b3 hi_b3 hB5 E4
 have := E4.size
 have O := O.keep0 E4
 have S := S.keepG (zi E4 NoB) (fun _ _ h => h)
 have P := P.keep0 E4
 have hb := hb.step0 E4
 refine op_box (cs := [(.int .i64 s.f.kind), (.string (bs s.f.tb)), (.string (bs s.f.nm)), s.f.cv, s.f.gv, s.f.vv, s.f.iv, (.string (bs s.f.join)), s.f.ov, s.f.wv, s.f.rv, (.bool s.f.desc), s.nv]) (zC hN rfl s1) rfl ?_
 intro w8 b9 lo_b9 hi_b9 hB11 E10
 have := E10.size
 have O := O.keep0 E10
 have S := S.keepG (zi E10 NoB) (fun _ _ h => h)
 have P := P.keep0 E10
 have hB5 := hB5.keep0 E10
 have hb := hb.step0 E10
 refine op_alloc (cs := [(.slice none 0 0), (.slice none 0 0)]) zero39 rfl ?_
 intro w14 b15 lo_b15 hi_b15 hB17 E16
 have dj18 : ¬ F b15 := fun hf => by have := (S.lt _ hf).2; omega
 have := E16.size
 have O := O.keep0 E16
 have S := S.keepG (zi E16 NoB) (fun _ _ h => h)
 have P := P.keep0 E16
 obtain ⟨hB5, hB11⟩ := kb2 E16 hB5 hB11
 have hb := hb.step0 E16
 refine zD rfl ?_
 refine zB ?_
 refine hK1 _ _ (zF fun K20 hK20 => ?_)
 refine zH ?_
 refine zM fld39_0 (zA hN rfl) ?_
 refine zN (v := tv) one36 (zA hN rfl) (hB5.cell rfl) ?_
 refine zM fld45_1 (zA hN rfl) ?_
 refine zN (v := (Value.string (bs s.f.tb))) one9 (zA hN rfl) (hB11.cell rfl) ?_
 refine zj ok84 (findTable (L := (D : List DTab)) s.f.tb (O.rdw.mono (Nat.zero_le _) zx)) ⟨(zA hN rfl), ⟨(zA hN rfl), ⟨rfl, trivial⟩⟩⟩ ?_
 rintro _ w21 ⟨E22, rfl⟩
 have E22 := zQ E22
 have := E22.size
 have O := O.keep0 E22
 have S := S.keepG (zi E22 NoB) (fun _ _ h => h)
 have P := P.keep0 E22
 obtain ⟨hB5, hB11, hB17⟩ := kb3 E22 hB5 hB11 hB17
 have hb := hb.step0 E22
 refine zD (zA hN rfl) ?_
 refine zB ?_
 refine hK20 _ _ (zF fun K23 hK23 => ?_)
 refine wp_block ?_
 refine zF fun K24 hK24 => ?_
 refine zH ?_
 refine zG (zA hN rfl) ?_
 refine op_lss (zA hN rfl) rfl (fun c14 => ?_) (fun c14 => ?_)
 ·
  refine zD (zA hN rfl) ?_
  refine zB ?_
  refine hK24 _ _ (wp_cond_true (zA hN rfl) (zF fun K25 hK25 => ?_))
  refine zH ?_
  refine zY agg39 rfl (zA hN rfl) hB5 ?_
  have hB17_old := hB17
  refine zZ size39 (zA hN rfl) (zA hN rfl) rfl (by simp only [List.all_cons, List.all_nil, Bool.true_and, Bool.and_true, O.one, P.one]; try rfl) hB17 rfl ?_
  intro w28 hB17 E29
  have := E29.size
  have O := O.keepX hB17_old E29 zz
  have S := S.keepG (Gr.of E29) (Dj.one dj18)
  have hb := hb.step1 E29 zx
  refine zD rfl ?_
  refine zB ?_
  refine hK25 _ _ (wp_ret (zb (zO ( ?_))))
  refine retN (rs := [.cell 4 39, .tmp 5]) (vs := [(.agg #[tv, vv]), (.int .i64 9)]) rfl hd ⟨⟨_, (zA hN rfl), run_loadA (cs := [tv, vv]) agg39 rfl (fun j u hu => by rw [Nat.zero_add]; exact hB17.cell hu)⟩, ⟨(zA hN rfl), trivial⟩⟩ rfl ⟨_, rfl, ?_⟩
  have e9 : (idxE (D.map DTab.t) s.f.tb s.f.nm) = 9 := idxE_1 (tab_none c14)
  rw [e9]; exact ⟨hb, D, F, rfl, O, S, fun h => absurd h zz⟩
 refine zD (zA hN rfl) ?_
 refine zB ?_
 refine hK24 _ _ (wp_cond_false (zA hN rfl) (zF fun K30 hK30 => ?_))
 obtain ⟨k9, hk9, hkl, hkn, hkt⟩ := tab_some c14
 have hcv9 := (S.1 (D.getD k9 default) (getD_mem hkl)).1.rdw
 have hiv9 := (S.1 (D.getD k9 default) (getD_mem hkl)).2.rdw
 refine reg_split (hd := [_, _, _, _, _, _, _, _]) (tl := _) 8 mixed zy rfl rfl ?_
 refine any_tree (φ := phiV [(fun uz => uz = (ptr b3 0)), (fun uz => uz = tv), (fun uz => uz = (.int .i64 (ixOf (fun d => decide (d.t.nm = s.f.tb)) D))), (fun _ => True), (fun _ => True), (fun uz => uz = (ptr b9 2)), (fun uz => uz = (.string (bs s.f.nm))), (fun _ => True)]) (G := fun w' => Bx w' b3 39 [tv, vv] ∧ Bx w' b9 45 [(.int .i64 s.f.kind), (.string (bs s.f.tb)), (.string (bs s.f.nm)), s.f.cv, s.f.gv, s.f.vv, s.f.iv, (.string (bs s.f.join)), s.f.ov, s.f.wv, s.f.rv, (.bool s.f.desc), s.nv]) [3, 4, 7] zy zy zy zy zy hN (fun w1 w2 E h => by obtain ⟨h0, h1⟩ := h; exact ⟨h0.keep0 E, h1.keep0 E⟩) ⟨hB5, hB11⟩ (ObRs9.cons ?_ (ObRs9.cons ?_ (ObRs9.cons ?_ (ObRs9.pass rfl (ObRs9.pass rfl (ObRs9.cons ?_ (ObRs9.cons ?_ (ObRs9.pass rfl (ObRs9.nil))))))))) (by simp only [putsL_defers]) ?_
 ·
  intro eA aA wA hNA hGA hbsA hdpA
  have qA_2 := (hbsA 2 rfl).trans (zU hN rfl)
  refine zM fld39_0 (zC hNA rfl qA_2) ?_
  exact obT_end rfl rfl
 ·
  intro eA aA wA hNA hGA hbsA hdpA
  have qA_17 : Sl aA 17 (ptr b3 0) := (hdpA 0 _ 17 zy rfl rfl).2 rfl
  obtain ⟨hB5, hB11⟩ := hGA
  refine zN (v := tv) one36 (zC hNA rfl qA_17) (hB5.cell rfl) ?_
  exact obT_end rfl rfl
 ·
  intro eA aA wA hNA hGA hbsA hdpA
  have qA_6 := (hbsA 6 rfl).trans (zU hN rfl)
  refine zG (zC hNA rfl qA_6) ?_
  exact obT_end rfl rfl
 ·
  intro eA aA wA hNA hGA hbsA hdpA
  have qA_3 := (hbsA 3 rfl).trans (zU hN rfl)
  refine zM fld45_2 (zC hNA rfl qA_3) ?_
  exact obT_end rfl rfl
 ·
  intro eA aA wA hNA hGA hbsA hdpA
  have qA_22 : Sl aA 22 (ptr b9 2) := (hdpA 5 _ 22 zy rfl rfl).2 rfl
  obtain ⟨hB5, hB11⟩ := hGA
  refine zN (v := (Value.string (bs s.f.nm))) one9 (zC hNA rfl qA_22) (hB11.cell rfl) ?_
  exact obT_end rfl rfl
 refine kt_step (rs := [3]) zy ?_
 refine one_mem ?_
 intro w32 E32 _ a32 hN32 hbs32 hdp32 o_ ho_; obtain rfl := zE ho_
 have := E32.size
 have O := O.keep0 E32
 have S := S.keepG (zi E32 NoB) (fun _ _ h => h)
 have P := P.keep0 E32
 have hcv9 := hcv9.keep0 E32
 have hiv9 := hiv9.keep0 E32
 obtain ⟨hB5, hB11, hB17⟩ := kb3 E32 hB5 hB11 hB17
 have hb := hb.step0 E32
 have q32_18 : Sl a32 18 tv := (hdp32 1 _ 18 zy rfl rfl).2 rfl
 have q32_19 : Sl a32 19 (.int .i64 (ixOf (fun d => decide (d.t.nm = s.f.tb)) D)) := (hdp32 2 _ 19 zy rfl rfl).2 rfl
 refine zh slt36 (zC hN32 rfl q32_18) O.rdw (zC hN32 rfl q32_19) zx zx ?_
 intro b33 o34 h0b33 h1b33 hc35
 have hp36 : PtC w32 b33 (b33 + 1) b33 o34 [(.string (bs (D.getD k9 default).t.nm)), (D.getD k9 default).cv, (D.getD k9 default).iv] := ⟨by omega, by omega, fun j u hu => hc35 j u (by have := (List.getElem?_eq_some_iff.1 hu).1; simpa using this) ((el_dt (i := k9) zx zx) j u hu)⟩
 refine kt_end rfl ⟨hB5, hB11⟩ ?_
 refine kt_step (rs := [4]) zy ?_
 refine one_mem ?_
 intro w38 E38 _ a38 hN38 hbs38 hdp38 o_ ho_; obtain rfl := zE ho_
 have := E38.size
 have O := O.keep0 E38
 have S := S.keepG (zi E38 NoB) (fun _ _ h => h)
 have P := P.keep0 E38
 have hcv9 := hcv9.keep0 E38
 have hiv9 := hiv9.keep0 E38
 have hp36 := hp36.keep0 E38
 obtain ⟨hB5, hB11, hB17⟩ := kb3 E38 hB5 hB11 hB17
 have hb := hb.step0 E38
 have q38_20 : Sl a38 20 (ptr b33 o34) := (zE ((hdp38 3 _ 20 zy rfl rfl).1 rfl)).symm
 refine zX (cs := [(.string (bs (D.getD k9 default).t.nm)), (D.getD k9 default).cv, (D.getD k9 default).iv]) agg55 rfl (zC hN38 rfl q38_20) (fun j u hu => hp36.2.2 j u hu) ?_
 refine kt_end rfl ⟨hB5, hB11⟩ ?_
 refine kt_step (rs := [7]) zy ?_
 refine one_mem ?_
 intro w40 E40 _ a40 hN40 hbs40 hdp40 o_ ho_; obtain rfl := zE ho_
 have := E40.size
 have O := O.keep0 E40
 have S := S.keepG (zi E40 NoB) (fun _ _ h => h)
 have P := P.keep0 E40
 have hcv9 := hcv9.keep0 E40
 have hiv9 := hiv9.keep0 E40
 obtain ⟨hB5, hB11, hB17⟩ := kb3 E40 hB5 hB11 hB17
 have hb := hb.step0 E40
 have q40_21 : Sl a40 21 (.agg #[(.string (bs (D.getD k9 default).t.nm)), (D.getD k9 default).cv, (D.getD k9 default).iv]) := (zE ((hdp40 4 _ 21 zy rfl rfl).1 rfl)).symm
 have q40_23 : Sl a40 23 (.string (bs s.f.nm)) := (hdp40 6 _ 23 zy rfl rfl).2 rfl
 refine zj ok58 (Column_ret ((D.getD k9 default).t.nm) ((D.getD k9 default).t.cols) _ ((D.getD k9 default).iv) s.f.nm _ (hcv9.mono (Nat.zero_le _) zx)) ⟨(zC hN40 rfl q40_21), ⟨(zC hN40 rfl q40_23), trivial⟩⟩ ?_
 rintro _ w41 ⟨E42, rfl⟩
 have E42 := zQ E42
 have := E42.size
 have O := O.keep0 E42
 have S := S.keepG (zi E42 NoB) (fun _ _ h => h)
 have P := P.keep0 E42
 have hcv9 := hcv9.keep0 E42
 have hiv9 := hiv9.keep0 E42
 obtain ⟨hB5, hB11, hB17⟩ := kb3 E42 hB5 hB11 hB17
 have hb := hb.step0 E42
 refine kt_end rfl ⟨hB5, hB11⟩ ?_
 intro w43 E43 a43 hN43 hd43 hbs43 hph43
 have hd43 := hd43.trans ((by simp only [putsL_defers] : _ = _).trans hd)
 have := E43.size
 have O := O.keep0 E43
 have S := S.keepG (zi E43 NoB) (fun _ _ h => h)
 have P := P.keep0 E43
 have hcv9 := hcv9.keep0 E43
 have hiv9 := hiv9.keep0 E43
 obtain ⟨hB5, hB11, hB17⟩ := kb3 E43 hB5 hB11 hB17
 have hb := hb.step0 E43
 have s43_2 := (hbs43 2 rfl).trans (zU hN rfl)
 have s43_3 := (hbs43 3 rfl).trans (zU hN rfl)
 have s43_4 := (hbs43 4 rfl).trans (zU hN rfl)
 have s43_6 := (hbs43 6 rfl).trans (zU hN rfl)
 have s43_24 : Sl a43 24 (.int .i64 (colIx ((D.getD k9 default).t.cols) s.f.nm)) := (zE ((hph43 7 _ 24 rfl rfl).1 rfl)).symm
 refine split_end ?_
 refine from_seq (tl := [_, _]) zz zy rfl ?_
 refine op_lss (zC hN43 rfl s43_24) rfl (fun c25 => ?_) (fun c25 => ?_)
 ·
  refine zD (zA hN43 rfl) ?_
  refine zB ?_
  refine hK30 _ _ (wp_cond_true (zA hN43 rfl) (zF fun K44 hK44 => ?_))
  refine zH ?_
  skip
  refine zY agg39 rfl (zC hN43 rfl s43_2) hB5 ?_
  have hB17_old := hB17
  refine zZ size39 (zC hN43 rfl s43_4) (zA hN43 rfl) rfl (by simp only [List.all_cons, List.all_nil, Bool.true_and, Bool.and_true, O.one, P.one]; try rfl) hB17 rfl ?_
  intro w47 hB17 E48
  have := E48.size
  have O := O.keepX hB17_old E48 zz
  have S := S.keepG (Gr.of E48) (Dj.one dj18)
  have hb := hb.step1 E48 zx
  refine zD rfl ?_
  refine zB ?_
  refine hK44 _ _ (wp_ret (zb (zO ( ?_))))
  refine retN (rs := [.cell 4 39, .tmp 5]) (vs := [(.agg #[tv, vv]), (.int .i64 10)]) rfl hd43 ⟨⟨_, (zC hN43 rfl s43_4), run_loadA (cs := [tv, vv]) agg39 rfl (fun j u hu => by rw [Nat.zero_add]; exact hB17.cell hu)⟩, ⟨(zA hN43 rfl), trivial⟩⟩ rfl ⟨_, rfl, ?_⟩
  have e9 : (idxE (D.map DTab.t) s.f.tb s.f.nm) = 10 := (idxE_2 hkt).trans (if_pos c25)
  rw [e9]; exact ⟨hb, D, F, rfl, O, S, fun h => absurd h zz⟩
 refine zD (zA hN43 rfl) ?_
 refine zB ?_
 refine hK30 _ _ (wp_cond_false (zA hN43 rfl) (zF fun K49 hK49 => ?_))
 have hcv9 := (S.1 (D.getD k9 default) (getD_mem hkl)).1.rdw
 have hiv9 := (S.1 (D.getD k9 default) (getD_mem hkl)).2.rdw
 refine reg_split (hd := [_, _, _, _, _, _, _, _]) (tl := _) 8 mixed zy rfl rfl ?_
 refine any_tree (φ := phiV [(fun uz => uz = (ptr b3 0)), (fun uz => uz = tv), (fun uz => uz = (.int .i64 (ixOf (fun d => decide (d.t.nm = s.f.tb)) D))), (fun _ => True), (fun _ => True), (fun uz => uz = (ptr b9 2)), (fun uz => uz = (.string (bs s.f.nm))), (fun _ => True)]) (G := fun w' => Bx w' b3 39 [tv, vv] ∧ Bx w' b9 45 [(.int .i64 s.f.kind), (.string (bs s.f.tb)), (.string (bs s.f.nm)), s.f.cv, s.f.gv, s.f.vv, s.f.iv, (.string (bs s.f.join)), s.f.ov, s.f.wv, s.f.rv, (.bool s.f.desc), s.nv]) [3, 4, 7] zy zy zy zy zy hN43 (fun w1 w2 E h => by obtain ⟨h0, h1⟩ := h; exact ⟨h0.keep0 E, h1.keep0 E⟩) ⟨hB5, hB11⟩ (ObRs9.cons ?_ (ObRs9.cons ?_ (ObRs9.cons ?_ (ObRs9.pass rfl (ObRs9.pass rfl (ObRs9.cons ?_ (ObRs9.cons ?_ (ObRs9.pass rfl (ObRs9.nil))))))))) (by simp only [putsL_defers]) ?_
 ·
  intro eA aA wA hNA hGA hbsA hdpA
  have qA_2 := (hbsA 2 rfl).trans (zL hN43 rfl s43_2)
  refine zM fld39_0 (zC hNA rfl qA_2) ?_
  exact obT_end rfl rfl
 ·
  intro eA aA wA hNA hGA hbsA hdpA
  have qA_28 : Sl aA 28 (ptr b3 0) := (hdpA 0 _ 28 zy rfl rfl).2 rfl
  obtain ⟨hB5, hB11⟩ := hGA
  refine zN (v := tv) one36 (zC hNA rfl qA_28) (hB5.cell rfl) ?_
  exact obT_end rfl rfl
 ·
  intro eA aA wA hNA hGA hbsA hdpA
  have qA_6 := (hbsA 6 rfl).trans (zL hN43 rfl s43_6)
  refine zG (zC hNA rfl qA_6) ?_
  exact obT_end rfl rfl
 ·
  intro eA aA wA hNA hGA hbsA hdpA
  have qA_3 := (hbsA 3 rfl).trans (zL hN43 rfl s43_3)
  refine zM fld45_2 (zC hNA rfl qA_3) ?_
  exact obT_end rfl rfl
 ·
  intro eA aA wA hNA hGA hbsA hdpA
  have qA_33 : Sl aA 33 (ptr b9 2) := (hdpA 5 _ 33 zy rfl rfl).2 rfl
  obtain ⟨hB5, hB11⟩ := hGA
  refine zN (v := (Value.string (bs s.f.nm))) one9 (zC hNA rfl qA_33) (hB11.cell rfl) ?_
  exact obT_end rfl rfl
 refine kt_step (rs := [3]) zy ?_
 refine one_mem ?_
 intro w51 E51 _ a51 hN51 hbs51 hdp51 o_ ho_; obtain rfl := zE ho_
 have := E51.size
 have O := O.keep0 E51
 have S := S.keepG (zi E51 NoB) (fun _ _ h => h)
 have P := P.keep0 E51
 have hcv9 := hcv9.keep0 E51
 have hiv9 := hiv9.keep0 E51
 obtain ⟨hB5, hB11, hB17⟩ := kb3 E51 hB5 hB11 hB17
 have hb := hb.step0 E51
 have q51_29 : Sl a51 29 tv := (hdp51 1 _ 29 zy rfl rfl).2 rfl
 have q51_30 : Sl a51 30 (.int .i64 (ixOf (fun d => decide (d.t.nm = s.f.tb)) D)) := (hdp51 2 _ 30 zy rfl rfl).2 rfl
 refine zh slt36 (zC hN51 rfl q51_29) O.rdw (zC hN51 rfl q51_30) zx zx ?_
 intro b52 o53 h0b52 h1b52 hc54
 have hp55 : PtC w51 b52 (b52 + 1) b52 o53 [(.string (bs (D.getD k9 default).t.nm)), (D.getD k9 default).cv, (D.getD k9 default).iv] := ⟨by omega, by omega, fun j u hu => hc54 j u (by have := (List.getElem?_eq_some_iff.1 hu).1; simpa using this) ((el_dt (i := k9) zx zx) j u hu)⟩
 refine kt_end rfl ⟨hB5, hB11⟩ ?_
 refine kt_step (rs := [4]) zy ?_
 refine one_mem ?_
 intro w57 E57 _ a57 hN57 hbs57 hdp57 o_ ho_; obtain rfl := zE ho_
 have := E57.size
 have O := O.keep0 E57
 have S := S.keepG (zi E57 NoB) (fun _ _ h => h)
 have P := P.keep0 E57
 have hcv9 := hcv9.keep0 E57
 have hiv9 := hiv9.keep0 E57
 have hp55 := hp55.keep0 E57
 obtain ⟨hB5, hB11, hB17⟩ := kb3 E57 hB5 hB11 hB17
 have hb := hb.step0 E57
 have q57_31 : Sl a57 31 (ptr b52 o53) := (zE ((hdp57 3 _ 31 zy rfl rfl).1 rfl)).symm
 refine zX (cs := [(.string (bs (D.getD k9 default).t.nm)), (D.getD k9 default).cv, (D.getD k9 default).iv]) agg55 rfl (zC hN57 rfl q57_31) (fun j u hu => hp55.2.2 j u hu) ?_
 refine kt_end rfl ⟨hB5, hB11⟩ ?_
 refine kt_step (rs := [7]) zy ?_
 refine one_mem ?_
 intro w59 E59 _ a59 hN59 hbs59 hdp59 o_ ho_; obtain rfl := zE ho_
 have := E59.size
 have O := O.keep0 E59
 have S := S.keepG (zi E59 NoB) (fun _ _ h => h)
 have P := P.keep0 E59
 have hcv9 := hcv9.keep0 E59
 have hiv9 := hiv9.keep0 E59
 obtain ⟨hB5, hB11, hB17⟩ := kb3 E59 hB5 hB11 hB17
 have hb := hb.step0 E59
 have q59_32 : Sl a59 32 (.agg #[(.string (bs (D.getD k9 default).t.nm)), (D.getD k9 default).cv, (D.getD k9 default).iv]) := (zE ((hdp59 4 _ 32 zy rfl rfl).1 rfl)).symm
 have q59_34 : Sl a59 34 (.string (bs s.f.nm)) := (hdp59 6 _ 34 zy rfl rfl).2 rfl
 refine zj ok59 (Indexed_ret s.f.nm (hcv9.mono (Nat.zero_le _) zx) (hiv9.mono (Nat.zero_le _) zx)) ⟨(zC hN59 rfl q59_32), ⟨(zC hN59 rfl q59_34), trivial⟩⟩ ?_
 rintro _ w60 ⟨E61, rfl⟩
 have E61 := zQ E61
 have := E61.size
 have O := O.keep0 E61
 have S := S.keepG (zi E61 NoB) (fun _ _ h => h)
 have P := P.keep0 E61
 have hcv9 := hcv9.keep0 E61
 obtain ⟨hB5, hB11, hB17⟩ := kb3 E61 hB5 hB11 hB17
 have hb := hb.step0 E61
 rcases Bool.eq_false_or_eq_true ((decide ((colIx ((D.getD k9 default).t.cols) s.f.nm) = 0 ∨ s.f.nm ∈ ((D.getD k9 default).t.idx)))) with c35 | c35
 ·
  rw [c35]
  refine kt_end rfl ⟨hB5, hB11⟩ ?_
  intro w62 E62 a62 hN62 hd62 hbs62 hph62
  have hd62 := hd62.trans ((by simp only [putsL_defers] : _ = _).trans hd43)
  have := E62.size
  have O := O.keep0 E62
  have S := S.keepG (zi E62 NoB) (fun _ _ h => h)
  have P := P.keep0 E62
  have hcv9 := hcv9.keep0 E62
  obtain ⟨hB5, hB17⟩ := kb2 E62 hB5 hB17
  have hb := hb.step0 E62
  have s62_2 := (hbs62 2 rfl).trans (zL hN43 rfl s43_2)
  have s62_4 := (hbs62 4 rfl).trans (zL hN43 rfl s43_4)
  have s62_35 : Sl a62 35 (.bool true) := (zE ((hph62 7 _ 35 rfl rfl).1 rfl)).symm
  refine split_end ?_
  refine from_seq (tl := [_]) zz zy rfl ?_
  refine zD (zC hN62 rfl s62_35) ?_
  refine zB ?_
  refine hK49 _ _ (wp_cond_true (zA hN62 rfl) (zF fun K63 hK63 => ?_))
  refine zH ?_
  skip
  refine zY agg39 rfl (zC hN62 rfl s62_2) hB5 ?_
  have hB17_old := hB17
  refine zZ size39 (zC hN62 rfl s62_4) (zA hN62 rfl) rfl (by simp only [List.all_cons, List.all_nil, Bool.true_and, Bool.and_true, O.one, P.one]; try rfl) hB17 rfl ?_
  intro w66 hB17 E67
  have := E67.size
  have O := O.keepX hB17_old E67 zz
  have S := S.keepG (Gr.of E67) (Dj.one dj18)
  have hb := hb.step1 E67 zx
  refine zD rfl ?_
  refine zB ?_
  refine hK63 _ _ (wp_ret (zb (zO ( ?_))))
  refine retN (rs := [.cell 4 39, .tmp 5]) (vs := [(.agg #[tv, vv]), (.int .i64 12)]) rfl hd62 ⟨⟨_, (zC hN62 rfl s62_4), run_loadA (cs := [tv, vv]) agg39 rfl (fun j u hu => by rw [Nat.zero_add]; exact hB17.cell hu)⟩, ⟨(zA hN62 rfl), trivial⟩⟩ rfl ⟨_, rfl, ?_⟩
  have e9 : (idxE (D.map DTab.t) s.f.tb s.f.nm) = 12 := (idxE_2 hkt).trans ((if_neg c25).trans (if_pos (of_decide_eq_true c35)))
  rw [e9]; exact ⟨hb, D, F, rfl, O, S, fun h => absurd h zz⟩
 rw [c35]
 refine kt_end rfl ⟨hB5, hB11⟩ ?_
 intro w68 E68 a68 hN68 hd68 hbs68 hph68
 have hd68 := hd68.trans ((by simp only [putsL_defers] : _ = _).trans hd43)
 have := E68.size
 have O := O.keep0 E68
 have S := S.keepG (zi E68 NoB) (fun _ _ h => h)
 have P := P.keep0 E68
 have hcv9 := hcv9.keep0 E68
 obtain ⟨hB5, hB11, hB17⟩ := kb3 E68 hB5 hB11 hB17
 have hb := hb.step0 E68
 have s68_2 := (hbs68 2 rfl).trans (zL hN43 rfl s43_2)
 have s68_3 := (hbs68 3 rfl).trans (zL hN43 rfl s43_3)
 have s68_4 := (hbs68 4 rfl).trans (zL hN43 rfl s43_4)
 have s68_6 := (hbs68 6 rfl).trans (zL hN43 rfl s43_6)
 have s68_35 : Sl a68 35 (.bool false) := (zE ((hph68 7 _ 35 rfl rfl).1 rfl)).symm
 refine split_end ?_
 refine from_seq (tl := [_]) zz zy rfl ?_
 refine zD (zC hN68 rfl s68_35) ?_
 refine zB ?_
 refine hK49 _ _ (wp_cond_false (zA hN68 rfl) (wp_skip (hK23 _ _ (zF fun K69 hK69 => ?_))))
 have hI9 := (S.1 (D.getD k9 default) (getD_mem hkl)).2
 obtain ⟨G9, hK9, hdj9, hGF9, hIF9⟩ := TabsR.splitK S hkl hPw
 have hivm := hiz9 (D.getD k9 default) (getD_mem hkl)
 refine reg_split (hd := [_, _, _, _, _, _, _, _, _, _, _, _, _]) (tl := _) 13 mixed zy rfl rfl ?_
 refine any_tree (φ := phiV [(fun uz => uz = (ptr b3 0)), (fun uz => uz = tv), (fun uz => uz = (.int .i64 (ixOf (fun d => decide (d.t.nm = s.f.tb)) D))), (fun uz => uz = (ptr b3 0)), (fun uz => uz = tv), (fun uz => uz = (.int .i64 (ixOf (fun d => decide (d.t.nm = s.f.tb)) D))), (fun _ => True), (fun _ => True), (fun _ => True), (fun uz => uz = (ptr b9 2)), (fun uz => uz = (.string (bs s.f.nm))), (fun _ => True), (fun _ => True)]) (G := fun w' => Bx w' b3 39 [tv, vv] ∧ Bx w' b9 45 [(.int .i64 s.f.kind), (.string (bs s.f.tb)), (.string (bs s.f.nm)), s.f.cv, s.f.gv, s.f.vv, s.f.iv, (.string (bs s.f.join)), s.f.ov, s.f.wv, s.f.rv, (.bool s.f.desc), s.nv]) [6, 7, 8, 11, 12] zy zy zy zy zy hN68 (fun w1 w2 E h => by obtain ⟨h0, h1⟩ := h; exact ⟨h0.keep0 E, h1.keep0 E⟩) ⟨hB5, hB11⟩ (ObRs9.cons ?_ (ObRs9.cons ?_ (ObRs9.cons ?_ (ObRs9.cons ?_ (ObRs9.cons ?_ (ObRs9.cons ?_ (ObRs9.pass rfl (ObRs9.pass rfl (ObRs9.pass rfl (ObRs9.cons ?_ (ObRs9.cons ?_ (ObRs9.pass rfl (ObRs9.pass rfl (ObRs9.nil)))))))))))))) (by simp only [putsL_defers]) ?_
 ·
  intro eA aA wA hNA hGA hbsA hdpA
  have qA_2 := (hbsA 2 rfl).trans (zL hN68 rfl s68_2)
  refine zM fld39_0 (zC hNA rfl qA_2) ?_
  exact obT_end rfl rfl
 ·
  intro eA aA wA hNA hGA hbsA hdpA
  have qA_37 : Sl aA 37 (ptr b3 0) := (hdpA 0 _ 37 zy rfl rfl).2 rfl
  obtain ⟨hB5, hB11⟩ := hGA
  refine zN (v := tv) one36 (zC hNA rfl qA_37) (hB5.cell rfl) ?_
  exact obT_end rfl rfl
 ·
  intro eA aA wA hNA hGA hbsA hdpA
  have qA_6 := (hbsA 6 rfl).trans (zL hN68 rfl s68_6)
  refine zG (zC hNA rfl qA_6) ?_
  exact obT_end rfl rfl
 ·
  intro eA aA wA hNA hGA hbsA hdpA
  have qA_2 := (hbsA 2 rfl).trans (zL hN68 rfl s68_2)
  refine zM fld39_0 (zC hNA rfl qA_2) ?_
  exact obT_end rfl rfl
 ·
  intro eA aA wA hNA hGA hbsA hdpA
  have qA_40 : Sl aA 40 (ptr b3 0) := (hdpA 3 _ 40 zy rfl rfl).2 rfl
  obtain ⟨hB5, hB11⟩ := hGA
  refine zN (v := tv) one36 (zC hNA rfl qA_40) (hB5.cell rfl) ?_
  exact obT_end rfl rfl
 ·
  intro eA aA wA hNA hGA hbsA hdpA
  have qA_6 := (hbsA 6 rfl).trans (zL hN68 rfl s68_6)
  refine zG (zC hNA rfl qA_6) ?_
  exact obT_end rfl rfl
 ·
  intro eA aA wA hNA hGA hbsA hdpA
  have qA_3 := (hbsA 3 rfl).trans (zL hN68 rfl s68_3)
  refine zM fld45_2 (zC hNA rfl qA_3) ?_
  exact obT_end rfl rfl
 ·
  intro eA aA wA hNA hGA hbsA hdpA
  have qA_46 : Sl aA 46 (ptr b9 2) := (hdpA 9 _ 46 zy rfl rfl).2 rfl
  obtain ⟨hB5, hB11⟩ := hGA
  refine zN (v := (Value.string (bs s.f.nm))) one9 (zC hNA rfl qA_46) (hB11.cell rfl) ?_
  exact obT_end rfl rfl
 refine kt_step (rs := [6, 11]) zy ?_
 refine more_mem ?_ ?_
 ·
  intro w71 E71 _ a71 hN71 hbs71 hdp71 o_ ho_; obtain rfl := zE ho_
  have := E71.size
  have O := O.keep0 E71
  have P := P.keep0 E71
  have hI9 := hI9.keep0 E71
  obtain ⟨hB5, hB11, hB17⟩ := kb3 E71 hB5 hB11 hB17
  have hK9 := hK9.keepG (zi E71 NoB) (fun _ _ h => h)
  have hb := hb.step0 E71
  have q71_41 : Sl a71 41 tv := (hdp71 4 _ 41 zy rfl rfl).2 rfl
  have q71_42 : Sl a71 42 (.int .i64 (ixOf (fun d => decide (d.t.nm = s.f.tb)) D)) := (hdp71 5 _ 42 zy rfl rfl).2 rfl
  refine zh slt36 (zC hN71 rfl q71_41) O.rdw (zC hN71 rfl q71_42) zx zx ?_
  intro b72 o73 h0b72 h1b72 hc74
  have hp75 : PtC w71 b72 (b72 + 1) b72 o73 [(.string (bs (D.getD k9 default).t.nm)), (D.getD k9 default).cv, (D.getD k9 default).iv] := ⟨by omega, by omega, fun j u hu => hc74 j u (by have := (List.getElem?_eq_some_iff.1 hu).1; simpa using this) ((el_dt (i := k9) zx zx) j u hu)⟩
  refine kt_end rfl ⟨hB5, hB11⟩ ?_
  refine kt_step (rs := [7, 11]) zy ?_
  refine more_mem ?_ ?_
  ·
   intro w77 E77 _ a77 hN77 hbs77 hdp77 o_ ho_; obtain rfl := zE ho_
   have := E77.size
   have O := O.keep0 E77
   have P := P.keep0 E77
   have hI9 := hI9.keep0 E77
   obtain ⟨hB5, hB11, hB17⟩ := kb3 E77 hB5 hB11 hB17
   have hK9 := hK9.keepG (zi E77 NoB) (fun _ _ h => h)
   have hp75 := hp75.keep0 E77
   have hb := hb.step0 E77
   have q77_43 : Sl a77 43 (ptr b72 o73) := (zE ((hdp77 6 _ 43 zy rfl rfl).1 rfl)).symm
   refine zM fld55_2 (zC hN77 rfl q77_43) ?_
   refine kt_end rfl ⟨hB5, hB11⟩ ?_
   refine kt_step (rs := [8, 11]) zy ?_
   refine more_mem ?_ ?_
   ·
    intro w79 E79 _ a79 hN79 hbs79 hdp79 o_ ho_; obtain rfl := zE ho_
    have := E79.size
    have O := O.keep0 E79
    have P := P.keep0 E79
    have hI9 := hI9.keep0 E79
    obtain ⟨hB5, hB11, hB17⟩ := kb3 E79 hB5 hB11 hB17
    have hK9 := hK9.keepG (zi E79 NoB) (fun _ _ h => h)
    have hp75 := hp75.keep0 E79
    have hb := hb.step0 E79
    have q79_44 : Sl a79 44 (ptr b72 (o73 + 2)) := (zE ((hdp79 7 _ 44 zy rfl rfl).1 rfl)).symm
    refine zN (v := (D.getD k9 default).iv) one53 (zC hN79 rfl q79_44) (hp75.2.2 2 _ rfl) ?_
    refine kt_end rfl ⟨hB5, hB11⟩ ?_
    refine kt_step (rs := [11]) zy ?_
    refine one_mem ?_
    intro w81 E81 _ a81 hN81 hbs81 hdp81 o_ ho_; obtain rfl := zE ho_
    have := E81.size
    have O := O.keep0 E81
    have P := P.keep0 E81
    have hI9 := hI9.keep0 E81
    obtain ⟨hB5, hB11, hB17⟩ := kb3 E81 hB5 hB11 hB17
    have hK9 := hK9.keepG (zi E81 NoB) (fun _ _ h => h)
    have hb := hb.step0 E81
    have q81_47 : Sl a81 47 (.string (bs s.f.nm)) := (hdp81 10 _ 47 zy rfl rfl).2 rfl
    refine op_bslice (e := 9) (pv := [(0, (.string (bs s.f.nm)))]) (cs := [(.string (bs s.f.nm))]) ⟨rfl, (zC hN81 rfl q81_47), trivial⟩ zy ?_
    intro w82 b83 lo_b83 hi_b83 hB85 E84
    have := E84.size
    have O := O.keep0 E84
    have P := P.keep0 E84
    have hI9 := hI9.keep0 E84
    obtain ⟨hB5, hB11, hB17⟩ := kb3 E84 hB5 hB11 hB17
    have hK9 := hK9.keepG (zi E84 NoB) (fun _ _ h => h)
    have hb := hb.step0 E84
    refine kt_end rfl ⟨hB5, hB11⟩ ?_
    refine kt_step (rs := [12]) zy ?_
    refine one_mem ?_
    intro w89 E89 _ a89 hN89 hbs89 hdp89 o_ ho_; obtain rfl := zE ho_
    have := E89.size
    have O := O.keep0 E89
    have P := P.keep0 E89
    have hI9 := hI9.keep0 E89
    obtain ⟨hB5, hB11, hB17⟩ := kb3 E89 hB5 hB11 hB17
    have hK9 := hK9.keepG (zi E89 NoB) (fun _ _ h => h)
    have hB85 := hB85.keep0 E89
    have hb := hb.step0 E89
    have q89_45 : Sl a89 45 (D.getD k9 default).iv := (zE ((hdp89 8 _ 45 zy rfl rfl).1 rfl)).symm
    have q89_48 : Sl a89 48 (.slice (some ⟨b83, 0, none⟩) 1 1) := (zE ((hdp89 11 _ 48 zy rfl rfl).1 rfl)).symm
    have hP95 := hI9
    refine op_append slt53 (zC hN89 rfl q89_45) hP95 (zC hN89 rfl q89_48) (Src.ofRd Try.underlying53 zz (RdC.ofBx (sz := 1) (n := 1) hB85 rfl zz) (by simp [Value.oneCell', u8v])) (by unfold maxLen; omega) zx (by first | exact Nat.le_trans (by assumption) hb.size | (have := hb.size; omega)) ?_
    intro v90 w91 hO93 E92 hm94
    have := E92.size
    have O := O.keepT hP95 E92 zz
    have P := P.keepT hP95 E92 zz
    have hB5 := hB5.keepO hP95 E92 zz
    have hB11 := hB11.keepO hP95 E92 zz
    have hB17 := hB17.keepO hP95 E92 zz
    have hK9 := hK9.keepG (Gr.of E92) hdj9.symm
    have hb := hb.stepL E92 (fun k _ h => .inr (hIF9 k h))
    have hO93 : Own w91 base 9 1 v90 ((D.getD k9 default).t.idx.length + 1) ((((D.getD k9 default).t.idx ++ [s.f.nm])).map sv) := by simpa [u8v, u16v, sv, cellsI, cellsC, cellsX, cellsS] using hO93
    refine kt_end rfl ⟨hB5, hB11⟩ ?_
    intro w98 E98 a98 hN98 hd98 hbs98 hph98
    have hd98 := hd98.trans ((by simp only [putsL_defers] : _ = _).trans hd68)
    have := E98.size
    have O := O.keep0 E98
    have P := P.keep0 E98
    obtain ⟨hB5, hB17⟩ := kb2 E98 hB5 hB17
    have hK9 := hK9.keepG (zi E98 NoB) (fun _ _ h => h)
    have hO93 := hO93.keep0 E98
    have hb := hb.step0 E98
    have s98_2 := (hbs98 2 rfl).trans (zL hN68 rfl s68_2)
    have s98_4 := (hbs98 4 rfl).trans (zL hN68 rfl s68_4)
    have s98_38 : Sl a98 38 tv := (hph98 1 _ 38 rfl rfl).2 rfl
    have s98_39 : Sl a98 39 (.int .i64 (ixOf (fun d => decide (d.t.nm = s.f.tb)) D)) := (hph98 2 _ 39 rfl rfl).2 rfl
    have s98_49 : Sl a98 49 v90 := (zE ((hph98 12 _ 49 rfl rfl).1 rfl)).symm
    refine split_end ?_
    refine from_seq (tl := [_, _, _]) zz zy rfl ?_
    refine op_index_own (i := k9) slt36 (zC hN98 rfl s98_38) O (zC hN98 rfl s98_39) zx zx ?_
    intro b99 o100 lo_b99 hA101
    refine zM fld55_2 (zA hN98 rfl) ?_
    have hP104 := O
    refine op_store_own (vs := [v90]) size53 (zA hN98 rfl) (zC hN98 rfl s98_49) hO93.cl rfl (by simp only [List.all_cons, List.all_nil, Bool.true_and, Bool.and_true, hO93.one]; try rfl) hP104 (hA101.fld 2) (by have h9 := hP104.1; rw [h9]; simp only [List.length_cons, List.length_nil]; omega) ?_
    intro w102 hO105 E103
    have := E103.size
    have P := P.keepT hP104 E103 zz
    have hB5 := hB5.keepO hP104 E103 zz
    have hB17 := hB17.keepO hP104 E103 zz
    have hK9 := hK9.keepG (Gr.of E103) (hK9.notOwn hP104 zz zz).symm
    have hO93 := hO93.keepT hP104 E103 zz
    have hb := hb.stepL E103 (fun k _ h => .inl h)
    have hO105 : Own w102 base 55 3 tv D.length (((D.set k9 (DTab.mk { (D.getD k9 default).t with idx := (D.getD k9 default).t.idx ++ [s.f.nm] } (D.getD k9 default).cv v90))).flatMap cellsT) := by exact hO105.cast rfl (flat_setT D k9 _ _ hkl rfl rfl rfl)
    refine zB ?_
    refine hK69 _ _ (zF fun K106 hK106 => ?_)
    refine zH ?_
    refine zY agg39 rfl (zC hN98 rfl s98_2) hB5 ?_
    have hB17_old := hB17
    refine zZ size39 (zC hN98 rfl s98_4) (zA hN98 rfl) rfl (by simp only [List.all_cons, List.all_nil, Bool.true_and, Bool.and_true, hO105.one, P.one]; try rfl) hB17 rfl ?_
    intro w109 hB17 E110
    have := E110.size
    have hK9 := hK9.keepG (Gr.of E110) (Dj.one (hK9.notBx hB17_old zz zz))
    have hO93 := hO93.keepX hB17_old E110 zz
    have hO105 := hO105.keepX hB17_old E110 zz
    have hb := hb.step1 E110 zx
    refine zD rfl ?_
    refine zB ?_
    refine hK106 _ _ (wp_ret ?_)
    refine retN (rs := [.cell 4 39, .tmp 5]) (vs := [(.agg #[tv, vv]), (.int .i64 0)]) rfl hd98 ⟨⟨_, (zC hN98 rfl s98_4), run_loadA (cs := [tv, vv]) agg39 rfl (fun j u hu => by rw [Nat.zero_add]; exact hB17.cell hu)⟩, ⟨(zA hN98 rfl), trivial⟩⟩ rfl ⟨_, rfl, ?_⟩
    have e9 : (idxE (D.map DTab.t) s.f.tb s.f.nm) = 0 := (idxE_2 hkt).trans ((if_neg c25).trans (if_neg (of_decide_eq_false c35)))
    obtain ⟨F9, hF9⟩ := hK9.join (d := (DTab.mk { (D.getD k9 default).t with idx := (D.getD k9 default).t.idx ++ [s.f.nm] } (D.getD k9 default).cv v90)) hkl rfl rfl (hO93.cast (by simp) (by simp))
    rw [e9]; exact ⟨hb, D.set k9 (DTab.mk { (D.getD k9 default).t with idx := (D.getD k9 default).t.idx ++ [s.f.nm] } (D.getD k9 default).cv v90), F9, rfl, (hO105.cast (by simp) rfl), hF9, fun _ => idxT_set D k9 _ _ _ (ix_first hk9) hkl hkn rfl⟩
   refine one_mem ?_
   intro w111 E111 _ a111 hN111 hbs111 hdp111 o_ ho_; obtain rfl := zE ho_
   have := E111.size
   have O := O.keep0 E111
   have P := P.keep0 E111
   have hI9 := hI9.keep0 E111
   obtain ⟨hB5, hB11, hB17⟩ := kb3 E111 hB5 hB11 hB17
   have hK9 := hK9.keepG (zi E111 NoB) (fun _ _ h => h)
   have hp75 := hp75.keep0 E111
   have hb := hb.step0 E111
   have q111_47 : Sl a111 47 (.string (bs s.f.nm)) := (hdp111 10 _ 47 zy rfl rfl).2 rfl
   refine op_bslice (e := 9) (pv := [(0, (.string (bs s.f.nm)))]) (cs := [(.string (bs s.f.nm))]) ⟨rfl, (zC hN111 rfl q111_47), trivial⟩ zy ?_
   intro w112 b113 lo_b113 hi_b113 hB115 E114
   have := E114.size
   have O := O.keep0 E114
   have P := P.keep0 E114
   have hI9 := hI9.keep0 E114
   obtain ⟨hB5, hB11, hB17⟩ := kb3 E114 hB5 hB11 hB17
   have hK9 := hK9.keepG (zi E114 NoB) (fun _ _ h => h)
   have hp75 := hp75.keep0 E114
   have hb := hb.step0 E114
   refine kt_end rfl ⟨hB5, hB11⟩ ?_
   refine kt_step (rs := [8]) zy ?_
   refine one_mem ?_
   intro w119 E119 _ a119 hN119 hbs119 hdp119 o_ ho_; obtain rfl := zE ho_
   have := E119.size
   have O := O.keep0 E119
   have P := P.keep0 E119
   have hI9 := hI9.keep0 E119
   obtain ⟨hB5, hB11, hB17⟩ := kb3 E119 hB5 hB11 hB17
   have hK9 := hK9.keepG (zi E119 NoB) (fun _ _ h => h)
   have hp75 := hp75.keep0 E119
   have hB115 := hB115.keep0 E119
   have hb := hb.step0 E119
   have q119_44 : Sl a119 44 (ptr b72 (o73 + 2)) := (zE ((hdp119 7 _ 44 zy rfl rfl).1 rfl)).symm
   refine zN (v := (D.getD k9 default).iv) one53 (zC hN119 rfl q119_44) (hp75.2.2 2 _ rfl) ?_
   refine kt_end rfl ⟨hB5, hB11⟩ ?_
   refine kt_step (rs := [12]) zy ?_
   refine one_mem ?_
   intro w121 E121 _ a121 hN121 hbs121 hdp121 o_ ho_; obtain rfl := zE ho_
   have := E121.size
   have O := O.keep0 E121
   have P := P.keep0 E121
   have hI9 := hI9.keep0 E121
   obtain ⟨hB5, hB11, hB17⟩ := kb3 E121 hB5 hB11 hB17
   have hK9 := hK9.keepG (zi E121 NoB) (fun _ _ h => h)
   have hB115 := hB115.keep0 E121
   have hb := hb.step0 E121
   have q121_45 : Sl a121 45 (D.getD k9 default).iv := (zE ((hdp121 8 _ 45 zy rfl rfl).1 rfl)).symm
   have q121_48 : Sl a121 48 (.slice (some ⟨b113, 0, none⟩) 1 1) := (zE ((hdp121 11 _ 48 zy rfl rfl).1 rfl)).symm
   have hP127 := hI9
   refine op_append slt53 (zC hN121 rfl q121_45) hP127 (zC hN121 rfl q121_48) (Src.ofRd Try.underlying53 zz (RdC.ofBx (sz := 1) (n := 1) hB115 rfl zz) (by simp [Value.oneCell', u8v])) (by unfold maxLen; omega) zx (by first | exact Nat.le_trans (by assumption) hb.size | (have := hb.size; omega)) ?_
   intro v122 w123 hO125 E124 hm126
   have := E124.size
   have O := O.keepT hP127 E124 zz
   have P := P.keepT hP127 E124 zz
   have hB5 := hB5.keepO hP127 E124 zz
   have hB11 := hB11.keepO hP127 E124 zz
   have hB17 := hB17.keepO hP127 E124 zz
   have hK9 := hK9.keepG (Gr.of E124) hdj9.symm
   have hb := hb.stepL E124 (fun k _ h => .inr (hIF9 k h))
   have hO125 : Own w123 base 9 1 v122 ((D.getD k9 default).t.idx.length + 1) ((((D.getD k9 default).t.idx ++ [s.f.nm])).map sv) := by simpa [u8v, u16v, sv, cellsI, cellsC, cellsX, cellsS] using hO125
   refine kt_end rfl ⟨hB5, hB11⟩ ?_
   intro w130 E130 a130 hN130 hd130 hbs130 hph130
   have hd130 := hd130.trans ((by simp only [putsL_defers] : _ = _).trans hd68)
   have := E130.size
   have O := O.keep0 E130
   have P := P.keep0 E130
   obtain ⟨hB5, hB17⟩ := kb2 E130 hB5 hB17
   have hK9 := hK9.keepG (zi E130 NoB) (fun _ _ h => h)
   have hO125 := hO125.keep0 E130
   have hb := hb.step0 E130
   have s130_2 := (hbs130 2 rfl).trans (zL hN68 rfl s68_2)
   have s130_4 := (hbs130 4 rfl).trans (zL hN68 rfl s68_4)
   have s130_38 : Sl a130 38 tv := (hph130 1 _ 38 rfl rfl).2 rfl
   have s130_39 : Sl a130 39 (.int .i64 (ixOf (fun d => decide (d.t.nm = s.f.tb)) D)) := (hph130 2 _ 39 rfl rfl).2 rfl
   have s130_49 : Sl a130 49 v122 := (zE ((hph130 12 _ 49 rfl rfl).1 rfl)).symm
   refine split_end ?_
   refine from_seq (tl := [_, _, _]) zz zy rfl ?_
   refine op_index_own (i := k9) slt36 (zC hN130 rfl s130_38) O (zC hN130 rfl s130_39) zx zx ?_
   intro b131 o132 lo_b131 hA133
   refine zM fld55_2 (zA hN130 rfl) ?_
   have hP136 := O
   refine op_store_own (vs := [v122]) size53 (zA hN130 rfl) (zC hN130 rfl s130_49) hO125.cl rfl (by simp only [List.all_cons, List.all_nil, Bool.true_and, Bool.and_true, hO125.one]; try rfl) hP136 (hA133.fld 2) (by have h9 := hP136.1; rw [h9]; simp only [List.length_cons, List.length_nil]; omega) ?_
   intro w134 hO137 E135
   have := E135.size
   have P := P.keepT hP136 E135 zz
   have hB5 := hB5.keepO hP136 E135 zz
   have hB17 := hB17.keepO hP136 E135 zz
   have hK9 := hK9.keepG (Gr.of E135) (hK9.notOwn hP136 zz zz).symm
   have hO125 := hO125.keepT hP136 E135 zz
   have hb := hb.stepL E135 (fun k _ h => .inl h)
   have hO137 : Own w134 base 55 3 tv D.length (((D.set k9 (DTab.mk { (D.getD k9 default).t with idx := (D.getD k9 default).t.idx ++ [s.f.nm] } (D.getD k9 default).cv v122))).flatMap cellsT) := by exact hO137.cast rfl (flat_setT D k9 _ _ hkl rfl rfl rfl)
   refine zB ?_
   refine hK69 _ _ (zF fun K138 hK138 => ?_)
   refine zH ?_
   refine zY agg39 rfl (zC hN130 rfl s130_2) hB5 ?_
   have hB17_old := hB17
   refine zZ size39 (zC hN130 rfl s130_4) (zA hN130 rfl) rfl (by simp only [List.all_cons, List.all_nil, Bool.true_and, Bool.and_true, hO137.one, P.one]; try rfl) hB17 rfl ?_
   intro w141 hB17 E142
   have := E142.size
   have hK9 := hK9.keepG (Gr.of E142) (Dj.one (hK9.notBx hB17_old zz zz))
   have hO125 := hO125.keepX hB17_old E142 zz
   have hO137 := hO137.keepX hB17_old E142 zz
   have hb := hb.step1 E142 zx
   refine zD rfl ?_
   refine zB ?_
   refine hK138 _ _ (wp_ret ?_)
   refine retN (rs := [.cell 4 39, .tmp 5]) (vs := [(.agg #[tv, vv]), (.int .i64 0)]) rfl hd130 ⟨⟨_, (zC hN130 rfl s130_4), run_loadA (cs := [tv, vv]) agg39 rfl (fun j u hu => by rw [Nat.zero_add]; exact hB17.cell hu)⟩, ⟨(zA hN130 rfl), trivial⟩⟩ rfl ⟨_, rfl, ?_⟩
   have e9 : (idxE (D.map DTab.t) s.f.tb s.f.nm) = 0 := (idxE_2 hkt).trans ((if_neg c25).trans (if_neg (of_decide_eq_false c35)))
   obtain ⟨F9, hF9⟩ := hK9.join (d := (DTab.mk { (D.getD k9 default).t with idx := (D.getD k9 default).t.idx ++ [s.f.nm] } (D.getD k9 default).cv v122)) hkl rfl rfl (hO125.cast (by simp) (by simp))
   rw [e9]; exact ⟨hb, D.set k9 (DTab.mk { (D.getD k9 default).t with idx := (D.getD k9 default).t.idx ++ [s.f.nm] } (D.getD k9 default).cv v122), F9, rfl, (hO137.cast (by simp) rfl), hF9, fun _ => idxT_set D k9 _ _ _ (ix_first hk9) hkl hkn rfl⟩
  refine one_mem ?_
  intro w143 E143 _ a143 hN143 hbs143 hdp143 o_ ho_; obtain rfl := zE ho_
  have := E143.size
  have O := O.keep0 E143
  have P := P.keep0 E143
  have hI9 := hI9.keep0 E143
  obtain ⟨hB5, hB11, hB17⟩ := kb3 E143 hB5 hB11 hB17
  have hK9 := hK9.keepG (zi E143 NoB) (fun _ _ h => h)
  have hp75 := hp75.keep0 E143
  have hb := hb.step0 E143
  have q143_47 : Sl a143 47 (.string (bs s.f.nm)) := (hdp143 10 _ 47 zy rfl rfl).2 rfl
  refine op_bslice (e := 9) (pv := [(0, (.string (bs s.f.nm)))]) (cs := [(.string (bs s.f.nm))]) ⟨rfl, (zC hN143 rfl q143_47), trivial⟩ zy ?_
  intro w144 b145 lo_b145 hi_b145 hB147 E146
  have := E146.size
  have O := O.keep0 E146
  have P := P.keep0 E146
  have hI9 := hI9.keep0 E146
  obtain ⟨hB5, hB11, hB17⟩ := kb3 E146 hB5 hB11 hB17
  have hK9 := hK9.keepG (zi E146 NoB) (fun _ _ h => h)
  have hp75 := hp75.keep0 E146
  have hb := hb.step0 E146
  refine kt_end rfl ⟨hB5, hB11⟩ ?_
  refine kt_step (rs := [7]) zy ?_
  refine one_mem ?_
  intro w151 E151 _ a151 hN151 hbs151 hdp151 o_ ho_; obtain rfl := zE ho_
  have := E151.size
  have O := O.keep0 E151
  have P := P.keep0 E151
  have hI9 := hI9.keep0 E151
  obtain ⟨hB5, hB11, hB17⟩ := kb3 E151 hB5 hB11 hB17
  have hK9 := hK9.keepG (zi E151 NoB) (fun _ _ h => h)
  have hp75 := hp75.keep0 E151
  have hB147 := hB147.keep0 E151
  have hb := hb.step0 E151
  have q151_43 : Sl a151 43 (ptr b72 o73) := (zE ((hdp151 6 _ 43 zy rfl rfl).1 rfl)).symm
  refine zM fld55_2 (zC hN151 rfl q151_43) ?_
  refine kt_end rfl ⟨hB5, hB11⟩ ?_
  refine kt_step (rs := [8]) zy ?_
  refine one_mem ?_
  intro w153 E153 _ a153 hN153 hbs153 hdp153 o_ ho_; obtain rfl := zE ho_
  have := E153.size
  have O := O.keep0 E153
  have P := P.keep0 E153
  have hI9 := hI9.keep0 E153
  obtain ⟨hB5, hB11, hB17⟩ := kb3 E153 hB5 hB11 hB17
  have hK9 := hK9.keepG (zi E153 NoB) (fun _ _ h => h)
  have hp75 := hp75.keep0 E153
  have hB147 := hB147.keep0 E153
  have hb := hb.step0 E153
  have q153_44 : Sl a153 44 (ptr b72 (o73 + 2)) := (zE ((hdp153 7 _ 44 zy rfl rfl).1 rfl)).symm
  refine zN (v := (D.getD k9 default).iv) one53 (zC hN153 rfl q153_44) (hp75.2.2 2 _ rfl) ?_
  refine kt_end rfl ⟨hB5, hB11⟩ ?_
  refine kt_step (rs := [12]) zy ?_
  refine one_mem ?_
  intro w155 E155 _ a155 hN155 hbs155 hdp155 o_ ho_; obtain rfl := zE ho_
  have := E155.size
  have O := O.keep0 E155
  have P := P.keep0 E155
  have hI9 := hI9.keep0 E155
  obtain ⟨hB5, hB11, hB17⟩ := kb3 E155 hB5 hB11 hB17
  have hK9 := hK9.keepG (zi E155 NoB) (fun _ _ h => h)
  have hB147 := hB147.keep0 E155
  have hb := hb.step0 E155
  have q155_45 : Sl a155 45 (D.getD k9 default).iv := (zE ((hdp155 8 _ 45 zy rfl rfl).1 rfl)).symm
  have q155_48 : Sl a155 48 (.slice (some ⟨b145, 0, none⟩) 1 1) := (zE ((hdp155 11 _ 48 zy rfl rfl).1 rfl)).symm
  have hP161 := hI9
  refine op_append slt53 (zC hN155 rfl q155_45) hP161 (zC hN155 rfl q155_48) (Src.ofRd Try.underlying53 zz (RdC.ofBx (sz := 1) (n := 1) hB147 rfl zz) (by simp [Value.oneCell', u8v])) (by unfold maxLen; omega) zx (by first | exact Nat.le_trans (by assumption) hb.size | (have := hb.size; omega)) ?_
  intro v156 w157 hO159 E158 hm160
  have := E158.size
  have O := O.keepT hP161 E158 zz
  have P := P.keepT hP161 E158 zz
  have hB5 := hB5.keepO hP161 E158 zz
  have hB11 := hB11.keepO hP161 E158 zz
  have hB17 := hB17.keepO hP161 E158 zz
  have hK9 := hK9.keepG (Gr.of E158) hdj9.symm
  have hb := hb.stepL E158 (fun k _ h => .inr (hIF9 k h))
  have hO159 : Own w157 base 9 1 v156 ((D.getD k9 default).t.idx.length + 1) ((((D.getD k9 default).t.idx ++ [s.f.nm])).map sv) := by simpa [u8v, u16v, sv, cellsI, cellsC, cellsX, cellsS] using hO159
  refine kt_end rfl ⟨hB5, hB11⟩ ?_
  intro w164 E164 a164 hN164 hd164 hbs164 hph164
  have hd164 := hd164.trans ((by simp only [putsL_defers] : _ = _).trans hd68)
  have := E164.size
  have O := O.keep0 E164
  have P := P.keep0 E164
  obtain ⟨hB5, hB17⟩ := kb2 E164 hB5 hB17
  have hK9 := hK9.keepG (zi E164 NoB) (fun _ _ h => h)
  have hO159 := hO159.keep0 E164
  have hb := hb.step0 E164
  have s164_2 := (hbs164 2 rfl).trans (zL hN68 rfl s68_2)
  have s164_4 := (hbs164 4 rfl).trans (zL hN68 rfl s68_4)
  have s164_38 : Sl a164 38 tv := (hph164 1 _ 38 rfl rfl).2 rfl
  have s164_39 : Sl a164 39 (.int .i64 (ixOf (fun d => decide (d.t.nm = s.f.tb)) D)) := (hph164 2 _ 39 rfl rfl).2 rfl
  have s164_49 : Sl a164 49 v156 := (zE ((hph164 12 _ 49 rfl rfl).1 rfl)).symm
  refine split_end ?_
  refine from_seq (tl := [_, _, _]) zz zy rfl ?_
  refine op_index_own (i := k9) slt36 (zC hN164 rfl s164_38) O (zC hN164 rfl s164_39) zx zx ?_
  intro b165 o166 lo_b165 hA167
  refine zM fld55_2 (zA hN164 rfl) ?_
  have hP170 := O
  refine op_store_own (vs := [v156]) size53 (zA hN164 rfl) (zC hN164 rfl s164_49) hO159.cl rfl (by simp only [List.all_cons, List.all_nil, Bool.true_and, Bool.and_true, hO159.one]; try rfl) hP170 (hA167.fld 2) (by have h9 := hP170.1; rw [h9]; simp only [List.length_cons, List.length_nil]; omega) ?_
  intro w168 hO171 E169
  have := E169.size
  have P := P.keepT hP170 E169 zz
  have hB5 := hB5.keepO hP170 E169 zz
  have hB17 := hB17.keepO hP170 E169 zz
  have hK9 := hK9.keepG (Gr.of E169) (hK9.notOwn hP170 zz zz).symm
  have hO159 := hO159.keepT hP170 E169 zz
  have hb := hb.stepL E169 (fun k _ h => .inl h)
  have hO171 : Own w168 base 55 3 tv D.length (((D.set k9 (DTab.mk { (D.getD k9 default).t with idx := (D.getD k9 default).t.idx ++ [s.f.nm] } (D.getD k9 default).cv v156))).flatMap cellsT) := by exact hO171.cast rfl (flat_setT D k9 _ _ hkl rfl rfl rfl)
  refine zB ?_
  refine hK69 _ _ (zF fun K172 hK172 => ?_)
  refine zH ?_
  refine zY agg39 rfl (zC hN164 rfl s164_2) hB5 ?_
  have hB17_old := hB17
  refine zZ size39 (zC hN164 rfl s164_4) (zA hN164 rfl) rfl (by simp only [List.all_cons, List.all_nil, Bool.true_and, Bool.and_true, hO171.one, P.one]; try rfl) hB17 rfl ?_
  intro w175 hB17 E176
  have := E176.size
  have hK9 := hK9.keepG (Gr.of E176) (Dj.one (hK9.notBx hB17_old zz zz))
  have hO159 := hO159.keepX hB17_old E176 zz
  have hO171 := hO171.keepX hB17_old E176 zz
  have hb := hb.step1 E176 zx
  refine zD rfl ?_
  refine zB ?_
  refine hK172 _ _ (wp_ret ?_)
  refine retN (rs := [.cell 4 39, .tmp 5]) (vs := [(.agg #[tv, vv]), (.int .i64 0)]) rfl hd164 ⟨⟨_, (zC hN164 rfl s164_4), run_loadA (cs := [tv, vv]) agg39 rfl (fun j u hu => by rw [Nat.zero_add]; exact hB17.cell hu)⟩, ⟨(zA hN164 rfl), trivial⟩⟩ rfl ⟨_, rfl, ?_⟩
  have e9 : (idxE (D.map DTab.t) s.f.tb s.f.nm) = 0 := (idxE_2 hkt).trans ((if_neg c25).trans (if_neg (of_decide_eq_false c35)))
  obtain ⟨F9, hF9⟩ := hK9.join (d := (DTab.mk { (D.getD k9 default).t with idx := (D.getD k9 default).t.idx ++ [s.f.nm] } (D.getD k9 default).cv v156)) hkl rfl rfl (hO159.cast (by simp) (by simp))
  rw [e9]; exact ⟨hb, D.set k9 (DTab.mk { (D.getD k9 default).t with idx := (D.getD k9 default).t.idx ++ [s.f.nm] } (D.getD k9 default).cv v156), F9, rfl, (hO171.cast (by simp) rfl), hF9, fun _ => idxT_set D k9 _ _ _ (ix_first hk9) hkl hkn rfl⟩
 refine one_mem ?_
 intro w177 E177 _ a177 hN177 hbs177 hdp177 o_ ho_; obtain rfl := zE ho_
 have := E177.size
 have O := O.keep0 E177
 have P := P.keep0 E177
 have hI9 := hI9.keep0 E177
 obtain ⟨hB5, hB11, hB17⟩ := kb3 E177 hB5 hB11 hB17
 have hK9 := hK9.keepG (zi E177 NoB) (fun _ _ h => h)
 have hb := hb.step0 E177
 have q177_47 : Sl a177 47 (.string (bs s.f.nm)) := (hdp177 10 _ 47 zy rfl rfl).2 rfl
 refine op_bslice (e := 9) (pv := [(0, (.string (bs s.f.nm)))]) (cs := [(.string (bs s.f.nm))]) ⟨rfl, (zC hN177 rfl q177_47), trivial⟩ zy ?_
 intro w178 b179 lo_b179 hi_b179 hB181 E180
 have := E180.size
 have O := O.keep0 E180
 have P := P.keep0 E180
 have hI9 := hI9.keep0 E180
 obtain ⟨hB5, hB11, hB17⟩ := kb3 E180 hB5 hB11 hB17
 have hK9 := hK9.keepG (zi E180 NoB) (fun _ _ h => h)
 have hb := hb.step0 E180
 refine kt_end rfl ⟨hB5, hB11⟩ ?_
 refine kt_step (rs := [6]) zy ?_
 refine one_mem ?_
 intro w185 E185 _ a185 hN185 hbs185 hdp185 o_ ho_; obtain rfl := zE ho_
 have := E185.size
 have O := O.keep0 E185
 have P := P.keep0 E185
 have hI9 := hI9.keep0 E185
 obtain ⟨hB5, hB11, hB17⟩ := kb3 E185 hB5 hB11 hB17
 have hK9 := hK9.keepG (zi E185 NoB) (fun _ _ h => h)
 have hB181 := hB181.keep0 E185
 have hb := hb.step0 E185
 have q185_41 : Sl a185 41 tv := (hdp185 4 _ 41 zy rfl rfl).2 rfl
 have q185_42 : Sl a185 42 (.int .i64 (ixOf (fun d => decide (d.t.nm = s.f.tb)) D)) := (hdp185 5 _ 42 zy rfl rfl).2 rfl
 refine zh slt36 (zC hN185 rfl q185_41) O.rdw (zC hN185 rfl q185_42) zx zx ?_
 intro b186 o187 h0b186 h1b186 hc188
 have hp189 : PtC w185 b186 (b186 + 1) b186 o187 [(.string (bs (D.getD k9 default).t.nm)), (D.getD k9 default).cv, (D.getD k9 default).iv] := ⟨by omega, by omega, fun j u hu => hc188 j u (by have := (List.getElem?_eq_some_iff.1 hu).1; simpa using this) ((el_dt (i := k9) zx zx) j u hu)⟩
 refine kt_end rfl ⟨hB5, hB11⟩ ?_
 refine kt_step (rs := [7]) zy ?_
 refine one_mem ?_
 intro w191 E191 _ a191 hN191 hbs191 hdp191 o_ ho_; obtain rfl := zE ho_
 have := E191.size
 have O := O.keep0 E191
 have P := P.keep0 E191
 have hI9 := hI9.keep0 E191
 obtain ⟨hB5, hB11, hB17⟩ := kb3 E191 hB5 hB11 hB17
 have hK9 := hK9.keepG (zi E191 NoB) (fun _ _ h => h)
 have hB181 := hB181.keep0 E191
 have hp189 := hp189.keep0 E191
 have hb := hb.step0 E191
 have q191_43 : Sl a191 43 (ptr b186 o187) := (zE ((hdp191 6 _ 43 zy rfl rfl).1 rfl)).symm
 refine zM fld55_2 (zC hN191 rfl q191_43) ?_
 refine kt_end rfl ⟨hB5, hB11⟩ ?_
 refine kt_step (rs := [8]) zy ?_
 refine one_mem ?_
 intro w193 E193 _ a193 hN193 hbs193 hdp193 o_ ho_; obtain rfl := zE ho_
 have := E193.size
 have O := O.keep0 E193
 have P := P.keep0 E193
 have hI9 := hI9.keep0 E193
 obtain ⟨hB5, hB11, hB17⟩ := kb3 E193 hB5 hB11 hB17
 have hK9 := hK9.keepG (zi E193 NoB) (fun _ _ h => h)
 have hB181 := hB181.keep0 E193
 have hp189 := hp189.keep0 E193
 have hb := hb.step0 E193
 have q193_44 : Sl a193 44 (ptr b186 (o187 + 2)) := (zE ((hdp193 7 _ 44 zy rfl rfl).1 rfl)).symm
 refine zN (v := (D.getD k9 default).iv) one53 (zC hN193 rfl q193_44) (hp189.2.2 2 _ rfl) ?_
 refine kt_end rfl ⟨hB5, hB11⟩ ?_
 refine kt_step (rs := [12]) zy ?_
 refine one_mem ?_
 intro w195 E195 _ a195 hN195 hbs195 hdp195 o_ ho_; obtain rfl := zE ho_
 have := E195.size
 have O := O.keep0 E195
 have P := P.keep0 E195
 have hI9 := hI9.keep0 E195
 obtain ⟨hB5, hB11, hB17⟩ := kb3 E195 hB5 hB11 hB17
 have hK9 := hK9.keepG (zi E195 NoB) (fun _ _ h => h)
 have hB181 := hB181.keep0 E195
 have hb := hb.step0 E195
 have q195_45 : Sl a195 45 (D.getD k9 default).iv := (zE ((hdp195 8 _ 45 zy rfl rfl).1 rfl)).symm
 have q195_48 : Sl a195 48 (.slice (some ⟨b179, 0, none⟩) 1 1) := (zE ((hdp195 11 _ 48 zy rfl rfl).1 rfl)).symm
 have hP201 := hI9
 refine op_append slt53 (zC hN195 rfl q195_45) hP201 (zC hN195 rfl q195_48) (Src.ofRd Try.underlying53 zz (RdC.ofBx (sz := 1) (n := 1) hB181 rfl zz) (by simp [Value.oneCell', u8v])) (by unfold maxLen; omega) zx (by first | exact Nat.le_trans (by assumption) hb.size | (have := hb.size; omega)) ?_
 intro v196 w197 hO199 E198 hm200
 have := E198.size
 have O := O.keepT hP201 E198 zz
 have P := P.keepT hP201 E198 zz
 have hB5 := hB5.keepO hP201 E198 zz
 have hB11 := hB11.keepO hP201 E198 zz
 have hB17 := hB17.keepO hP201 E198 zz
 have hK9 := hK9.keepG (Gr.of E198) hdj9.symm
 have hb := hb.stepL E198 (fun k _ h => .inr (hIF9 k h))
 have hO199 : Own w197 base 9 1 v196 ((D.getD k9 default).t.idx.length + 1) ((((D.getD k9 default).t.idx ++ [s.f.nm])).map sv) := by simpa [u8v, u16v, sv, cellsI, cellsC, cellsX, cellsS] using hO199
 refine kt_end rfl ⟨hB5, hB11⟩ ?_
 intro w204 E204 a204 hN204 hd204 hbs204 hph204
 have hd204 := hd204.trans ((by simp only [putsL_defers] : _ = _).trans hd68)
 have := E204.size
 have O := O.keep0 E204
 have P := P.keep0 E204
 obtain ⟨hB5, hB17⟩ := kb2 E204 hB5 hB17
 have hK9 := hK9.keepG (zi E204 NoB) (fun _ _ h => h)
 have hO199 := hO199.keep0 E204
 have hb := hb.step0 E204
 have s204_2 := (hbs204 2 rfl).trans (zL hN68 rfl s68_2)
 have s204_4 := (hbs204 4 rfl).trans (zL hN68 rfl s68_4)
 have s204_38 : Sl a204 38 tv := (hph204 1 _ 38 rfl rfl).2 rfl
 have s204_39 : Sl a204 39 (.int .i64 (ixOf (fun d => decide (d.t.nm = s.f.tb)) D)) := (hph204 2 _ 39 rfl rfl).2 rfl
 have s204_49 : Sl a204 49 v196 := (zE ((hph204 12 _ 49 rfl rfl).1 rfl)).symm
 refine split_end ?_
 refine from_seq (tl := [_, _, _]) zz zy rfl ?_
 refine op_index_own (i := k9) slt36 (zC hN204 rfl s204_38) O (zC hN204 rfl s204_39) zx zx ?_
 intro b205 o206 lo_b205 hA207
 refine zM fld55_2 (zA hN204 rfl) ?_
 have hP210 := O
 refine op_store_own (vs := [v196]) size53 (zA hN204 rfl) (zC hN204 rfl s204_49) hO199.cl rfl (by simp only [List.all_cons, List.all_nil, Bool.true_and, Bool.and_true, hO199.one]; try rfl) hP210 (hA207.fld 2) (by have h9 := hP210.1; rw [h9]; simp only [List.length_cons, List.length_nil]; omega) ?_
 intro w208 hO211 E209
 have := E209.size
 have P := P.keepT hP210 E209 zz
 have hB5 := hB5.keepO hP210 E209 zz
 have hB17 := hB17.keepO hP210 E209 zz
 have hK9 := hK9.keepG (Gr.of E209) (hK9.notOwn hP210 zz zz).symm
 have hO199 := hO199.keepT hP210 E209 zz
 have hb := hb.stepL E209 (fun k _ h => .inl h)
 have hO211 : Own w208 base 55 3 tv D.length (((D.set k9 (DTab.mk { (D.getD k9 default).t with idx := (D.getD k9 default).t.idx ++ [s.f.nm] } (D.getD k9 default).cv v196))).flatMap cellsT) := by exact hO211.cast rfl (flat_setT D k9 _ _ hkl rfl rfl rfl)
 refine zB ?_
 refine hK69 _ _ (zF fun K212 hK212 => ?_)
 refine zH ?_
 refine zY agg39 rfl (zC hN204 rfl s204_2) hB5 ?_
 have hB17_old := hB17
 refine zZ size39 (zC hN204 rfl s204_4) (zA hN204 rfl) rfl (by simp only [List.all_cons, List.all_nil, Bool.true_and, Bool.and_true, hO211.one, P.one]; try rfl) hB17 rfl ?_
 intro w215 hB17 E216
 have := E216.size
 have hK9 := hK9.keepG (Gr.of E216) (Dj.one (hK9.notBx hB17_old zz zz))
 have hO199 := hO199.keepX hB17_old E216 zz
 have hO211 := hO211.keepX hB17_old E216 zz
 have hb := hb.step1 E216 zx
 refine zD rfl ?_
 refine zB ?_
 refine hK212 _ _ (wp_ret ?_)
 refine retN (rs := [.cell 4 39, .tmp 5]) (vs := [(.agg #[tv, vv]), (.int .i64 0)]) rfl hd204 ⟨⟨_, (zC hN204 rfl s204_4), run_loadA (cs := [tv, vv]) agg39 rfl (fun j u hu => by rw [Nat.zero_add]; exact hB17.cell hu)⟩, ⟨(zA hN204 rfl), trivial⟩⟩ rfl ⟨_, rfl, ?_⟩
 have e9 : (idxE (D.map DTab.t) s.f.tb s.f.nm) = 0 := (idxE_2 hkt).trans ((if_neg c25).trans (if_neg (of_decide_eq_false c35)))
 obtain ⟨F9, hF9⟩ := hK9.join (d := (DTab.mk { (D.getD k9 default).t with idx := (D.getD k9 default).t.idx ++ [s.f.nm] } (D.getD k9 default).cv v196)) hkl rfl rfl (hO199.cast (by simp) (by simp))
 rw [e9]; exact ⟨hb, D.set k9 (DTab.mk { (D.getD k9 default).t with idx := (D.getD k9 default).t.idx ++ [s.f.nm] } (D.getD k9 default).cv v196), F9, rfl, (hO211.cast (by simp) rfl), hF9, fun _ => idxT_set D k9 _ _ _ (ix_first hk9) hkl hkn rfl⟩

theorem Add_ret {tv vv ow : Value} {D : List DTab} {V : List DVw} {o : Lb} {s : XS} {w : World} (hT : TsRd w w.heap.size tv D) (hD : D.length ≤ 1000000) (hsz : ∀ d ∈ D, d.t.cols.length ≤ 1000000 ∧ d.t.idx.length ≤ 1000000) (hV : VsFr w 0 w.heap.size vv V) (he : SFr w 0 w.heap.size s) (hol : o.length ≤ 100) (ho : RdC w 0 w.heap.size 1 ow o.length (o.map u16v)) : Ret Try.prog 27 #[(.agg #[tv, vv]), (.agg #[(.int .i64 s.f.kind), (.string (bs s.f.tb)), (.string (bs s.f.nm)), s.f.cv, s.f.gv, s.f.vv, s.f.iv, (.string (bs s.f.join)), s.f.ov, s.f.wv, s.f.rv, (.bool s.f.desc), s.nv]), ow] w (fun v' w' => Below w.heap.size w w' ∧ ∃ (tv' vv' : Value) (D' : List DTab) (V' : List DVw), v' = .tuple #[.agg #[tv', vv'], .int .i64 (addE (D.map DTab.t) (V.map DVw.nm) o s)] ∧ TsFr w' w.heap.size w'.heap.size tv' D' ∧ VsFr w' w.heap.size w'.heap.size vv' V' ∧ ((addE (D.map DTab.t) (V.map DVw.nm) o s) = 0 → D'.map DTab.t = addT (D.map DTab.t) s ∧ AddV V V' s) ∧ ((addE (D.map DTab.t) (V.map DVw.nm) o s) ≠ 0 → D' = [] ∧ V' = [])) := by
 have hR := hT.1
 have hVz0 := hV.3
 have hb := Below.refl w.heap.size w
 refine enter (N := 55) Try.func27 rfl rfl (by simp) fun a0 hN hd hA => ?_
 have s0 : a0.tmps.getD 0 undef = (.agg #[tv, vv]) := hA 0 (by simp)
 have s1 : a0.tmps.getD 1 undef = (.agg #[(.int .i64 s.f.kind), (.string (bs s.f.tb)), (.string (bs s.f.nm)), s.f.cv, s.f.gv, s.f.vv, s.f.iv, (.string (bs s.f.join)), s.f.ov, s.f.wv, s.f.rv, (.bool s.f.desc), s.nv]) := hA 1 (by simp)
 have s2 : a0.tmps.getD 2 undef = ow := hA 2 (by simp)
 clear hA
 refine zF fun K1 hK1 => ?_
 refine zH ?_
 refine op_box (cs := [tv, vv]) (zC hN rfl s0) rfl ?_
 intro w2 b3 lo_b3 hi_b3 hB5 E4
 have := E4.size
 have hT := hT.keep0 E4
 have hV := hV.keep0 E4
 have he := he.keep0 E4
 have ho := ho.keep0 E4
 have hb := zP hb E4 hb.size
 refine op_box (cs := [(.int .i64 s.f.kind), (.string (bs s.f.tb)), (.string (bs s.f.nm)), s.f.cv, s.f.gv, s.f.vv, s.f.iv, (.string (bs s.f.join)), s.f.ov, s.f.wv, s.f.rv, (.bool s.f.desc), s.nv]) (zC hN rfl s1) rfl ?_
 intro w6 b7 lo_b7 hi_b7 hB9 E8
 have := E8.size
 have hT := hT.keep0 E8
 have hV := hV.keep0 E8
 have he := he.keep0 E8
 have ho := ho.keep0 E8
 have hB5 := hB5.keep0 E8
 have hb := zP hb E8 hb.size
 refine op_alloc (cs := [(.slice none 0 0), (.slice none 0 0)]) zero39 rfl ?_
 intro w10 b11 lo_b11 hi_b11 hB13 E12
 have := E12.size
 have hT := hT.keep0 E12
 have hV := hV.keep0 E12
 have he := he.keep0 E12
 have ho := ho.keep0 E12
 obtain ⟨hB5, hB9⟩ := kb2 E12 hB5 hB9
 have hb := zP hb E12 hb.size
 refine zD rfl ?_
 refine zB ?_
 refine hK1 _ _ (zF fun K14 hK14 => ?_)
 refine zH ?_
 refine zY agg39 rfl (zA hN rfl) hB5 ?_
 refine zj ok60 (twin_ret (hT.mono zx) hD hsz (hV.mono (Nat.zero_le _) zx)) ⟨(zA hN rfl), trivial⟩ ?_
 rintro _ w16 ⟨E17, tv15, vv15, D15, V15, F15, FV15, rfl, hO15, hS15, hM15, hP15, hQ15, hdv15, hdt15, hdf15, hpw15, hvl15, hvs15⟩
 have lo_F15 : ∀ x, F15 x → w10.heap.size ≤ x := fun x hx => (hS15.lt x hx).1
 have dj20 : ¬ F15 b11 := fun hf => by have := lo_F15 _ hf; have := hB13.lt; omega
 have lo_FV15 : ∀ x, FV15 x → w10.heap.size ≤ x := fun x hx => (hQ15.lt x hx).1
 have dj23 : ¬ FV15 b11 := fun hf => by have := lo_FV15 _ hf; have := hB13.lt; omega
 have E17 := zQ E17
 have := E17.size
 have he := he.keep0 E17
 have ho := ho.keep0 E17
 obtain ⟨hB5, hB9, hB13⟩ := kb3 E17 hB5 hB9 hB13
 have hb := zP hb E17 hb.size
 have hO15 := hO15.mono (base' := w.heap.size) zx
 have hP15 := hP15.mono (base' := w.heap.size) zx
 have hS15 : TabsR w16 w.heap.size D15 F15 := hS15.mono zx
 have hQ15 : VsIn w16 w.heap.size V15 FV15 := hQ15.mono zx
 refine op_alloc (cs := [(.slice none 0 0), (.slice none 0 0)]) zero39 rfl ?_
 intro w24 b25 lo_b25 hi_b25 hB27 E26
 have dj28 : ¬ F15 b25 := fun hf => by have := (hS15.lt _ hf).2; omega
 have dj29 : ¬ FV15 b25 := fun hf => by have := (hQ15.lt _ hf).2; omega
 have := E26.size
 have he := he.keep0 E26
 have ho := ho.keep0 E26
 have hO15 := hO15.keep0 E26
 obtain ⟨hB5, hB9, hB13⟩ := kb3 E26 hB5 hB9 hB13
 have hS15 := hS15.keepG (zi E26 NoB) (fun _ _ h => h)
 have hP15 := hP15.keep0 E26
 have hQ15 := hQ15.keepG (zi E26 NoB) (fun _ _ h => h)
 have hb := zP hb E26 hb.size
 have hB27_old := hB27
 refine zZ size39 (zA hN rfl) (zA hN rfl) rfl (by simp only [List.all_cons, List.all_nil, Bool.true_and, Bool.and_true, hO15.one, hP15.one]; try rfl) hB27 rfl ?_
 intro w32 hB27 E33
 have := E33.size
 have he := he.keep E33 sO
 have ho := ho.keep E33 sR
 have hB5 := hB5.keep E33 sB
 have hB9 := hB9.keep E33 (sN hB9 hB27_old)
 have hB13 := hB13.keep E33 sB
 have hO15 := hO15.keepX hB27_old E33 zz
 have hS15 := hS15.keepG (Gr.of E33) (Dj.one dj28)
 have hP15 := hP15.keepX hB27_old E33 zz
 have hQ15 := hQ15.keepG (Gr.of E33) (Dj.one dj29)
 have hb := below_step1 hb E33 hb.size zx
 refine zD rfl ?_
 refine zB ?_
 refine hK14 _ _ (zF fun K34 hK34 => ?_)
 refine zF fun K35 hK35 => ?_
 refine zH ?_
 obtain ⟨hD9, hz9⟩ := sz_of hM15 hD hsz
 have hVz9 : V15.length ≤ 1000 := by have := hVz0; omega
 have hnm9 := names_same hvl15 hvs15
 refine zM fld45_0 (zA hN rfl) ?_
 refine zN (v := (Value.int .i64 s.f.kind)) one3 (zA hN rfl) (hB9.cell rfl) ?_
 refine zB ?_
 refine hK35 _ _ (wp_block ?_)
 refine zF fun K36 hK36 => ?_
 refine zH ?_
 refine op_eql (zA hN rfl) rfl (fun c15 => ?_) (fun c15 => ?_)
 ·
  refine zD (zA hN rfl) ?_
  refine zB ?_
  refine hK36 _ _ (wp_cond_true (zA hN rfl) (zH ?_))
  refine zY agg39 rfl (zA hN rfl) hB27 ?_
  refine zY agg45 rfl (zA hN rfl) hB9 ?_
  refine zj ok61 (table_ret hO15 hS15 hP15 hQ15 hdv15 hdt15 hD9 hz9 hVz9 he (Nat.le_refl _) zx) ⟨(zA hN rfl), ⟨(zA hN rfl), trivial⟩⟩ ?_
  rintro _ w38 ⟨E39, tz37, D37z, F37z, rfl, hO37, hS37, hA37⟩
  have hOld37 := hO15
  have bl_b3 := hB5.lt
  have bl_b7 := hB9.lt
  have bl_b11 := hB13.lt
  have bl_b25 := hB27.lt
  have djo37 : Dj (Bl vv15) (Bl tv15) := hP15.notOwn hOld37 zz
  have := E39.size
  have hB13 := hB13.keepG E39 (hOld37.notBx hB13 zz)
  have hP15 := hP15.keepG E39 djo37
  have hQ15 := hQ15.keepG E39 hdt15.symm
  have hB27 := hB27.keepG E39 (hOld37.notBx hB27 zz)
  have hb := below_stepG hb E39 hb.size (fun k hk => (hOld37.lt k hk).1)
  refine zG (zA hN rfl) ?_
  refine zW (zA hN rfl) rfl ?_
  refine zW (zA hN rfl) rfl ?_
  have hB27_old := hB27
  refine zZ size39 (zA hN rfl) (zA hN rfl) rfl (by simp only [List.all_cons, List.all_nil, Bool.true_and, Bool.and_true, hO37.one, hP15.one]; try rfl) hB27 rfl ?_
  intro w42 hB27 E43
  have := E43.size
  have hB13 := hB13.keep E43 sB
  have hP15 := hP15.keepX hB27_old E43 zz
  have hQ15 := hQ15.keepG (Gr.of E43) (Dj.one dj29)
  have hO37 := hO37.keepX hB27_old E43 zz
  have hS37 := hS37.keepG (Gr.of E43) (Dj.one (hS37.notBx hB27_old zz zz))
  have hb := below_step1 hb E43 hb.size zx
  refine zD (zA hN rfl) ?_
  refine zB ?_
  refine hK34 _ _ (zF fun K44 hK44 => ?_)
  refine zF fun K45 hK45 => ?_
  refine zH ?_
  refine zG (zA hN rfl) ?_
  refine op_neq (zA hN rfl) rfl (fun c51 => ?_) (fun c51 => ?_)
  ·
   refine zB ?_
   refine hK45 _ _ (wp_cond_true (zA hN rfl) (zF fun K46 hK46 => ?_))
   refine zH ?_
   refine zf (pv := []) (v := (Value.agg #[(.slice none 0 0), (.slice none 0 0)])) trivial zy ?_
   refine zG (zA hN rfl) ?_
   refine zZ size39 (zA hN rfl) (zA hN rfl) rfl rfl hB13 rfl ?_
   intro w49 hB13 E50
   have := E50.size
   have hb := below_step1 hb E50 hb.size zx
   refine zD (zA hN rfl) ?_
   refine zB ?_
   refine hK46 _ _ (wp_ret (zO ( ?_)))
   refine retN (rs := [.cell 6 39, .tmp 7]) (vs := [(.agg #[(.slice none 0 0), (.slice none 0 0)]), (.int .i64 (tabE (D15.map DTab.t) s.f.nm s.f.cols))]) rfl hd ⟨⟨_, (zA hN rfl), run_loadA (cs := [(.slice none 0 0), (.slice none 0 0)]) agg39 rfl (fun j u hu => by rw [Nat.zero_add]; exact hB13.cell hu)⟩, ⟨(zA hN rfl), trivial⟩⟩ rfl ⟨_, rfl, ?_⟩
   have e9 : (addE (D.map DTab.t) (V.map DVw.nm) o s) = (tabE (D15.map DTab.t) s.f.nm s.f.cols) := (addE_1 c15).trans (by rw [hM15])
   rw [e9]; exact ⟨hb, _, _, [], [], rfl, ⟨RdC.nil _ _ _ _, fun _ h => (by cases h)⟩, VsFr.nil _ _ _, fun h => absurd h c51, fun _ => ⟨rfl, rfl⟩⟩
  refine zB ?_
  refine hK45 _ _ (wp_cond_false (zA hN rfl) (wp_skip (hK44 _ _ (zF fun K51 hK51 => ?_))))
  refine zH ?_
  refine zY agg39 rfl (zA hN rfl) hB27 ?_
  have hB13_old := hB13
  refine zZ size39 (zA hN rfl) (zA hN rfl) rfl (by simp only [List.all_cons, List.all_nil, Bool.true_and, Bool.and_true, hO37.one, hP15.one]; try rfl) hB13 rfl ?_
  intro w54 hB13 E55
  have := E55.size
  have hP15 := hP15.keepX hB13_old E55 zz
  have hQ15 := hQ15.keepG (Gr.of E55) (Dj.one dj23)
  have hO37 := hO37.keepX hB13_old E55 zz
  have hS37 := hS37.keepG (Gr.of E55) (Dj.one (hS37.notBx hB13_old zz zz))
  have hb := below_step1 hb E55 hb.size zx
  refine zD rfl ?_
  refine zB ?_
  refine hK51 _ _ (wp_ret ?_)
  refine retN (rs := [.cell 6 39, .tmp 7]) (vs := [(.agg #[tz37, vv15]), (.int .i64 0)]) rfl hd ⟨⟨_, (zA hN rfl), run_loadA (cs := [tz37, vv15]) agg39 rfl (fun j u hu => by rw [Nat.zero_add]; exact hB13.cell hu)⟩, ⟨(zA hN rfl), trivial⟩⟩ rfl ⟨_, rfl, ?_⟩
  have e9 : (addE (D.map DTab.t) (V.map DVw.nm) o s) = (tabE (D15.map DTab.t) s.f.nm s.f.cols) := (addE_1 c15).trans (by rw [hM15])
  rw [e9, c51]; exact ⟨hb, _, _, D37z, V15, rfl, TabsR.fr hS37 hO37, hQ15.fr hVz9 hP15, fun _ => ⟨by rw [hA37, if_pos c51, hM15, addT_1 c15], AddV.n zx hvl15 hvs15⟩, fun h => absurd rfl h⟩
 refine zD (zA hN rfl) ?_
 refine zB ?_
 refine hK36 _ _ (wp_cond_false (zA hN rfl) (zF fun K56 hK56 => ?_))
 refine zH ?_
 refine op_eql (zA hN rfl) rfl (fun c23 => ?_) (fun c23 => ?_)
 ·
  refine zD (zA hN rfl) ?_
  refine zB ?_
  refine hK56 _ _ (wp_cond_true (zA hN rfl) (zH ?_))
  refine zY agg39 rfl (zA hN rfl) hB27 ?_
  refine zY agg45 rfl (zA hN rfl) hB9 ?_
  refine zj ok62 (index_ret hO15 hS15 hP15 hQ15 hdv15 hdt15 hD9 hz9 hVz9 hdf15 hpw15 he (Nat.le_refl _) zx) ⟨(zA hN rfl), ⟨(zA hN rfl), trivial⟩⟩ ?_
  rintro _ w58 ⟨E59, D57z, F57z, rfl, hO57, hS57, hA57⟩
  have hOld57 : ∀ k, (fun y => Bl tv15 y ∨ F15 y) k → w.heap.size ≤ k ∧ k < w32.heap.size := fun k hk => hk.elim (hO15.lt k) (hS15.lt k)
  have djo57 : Dj (Bl vv15) (fun y => Bl tv15 y ∨ F15 y) := fun k hk q => q.elim ((hP15.notOwn hO15 zz) k hk) (hS15.notOwn hP15 zz zz k hk)
  have djv57 : Dj FV15 (fun y => Bl tv15 y ∨ F15 y) := fun k hk q => q.elim (fun h => hdt15 k h hk) (fun h => hdf15 k h hk)
  have djb60 : ¬ (fun y => Bl tv15 y ∨ F15 y) b3 := fun q => q.elim (fun h => Own.notBx hO15 hB5 zz h) (fun h => hS15.notBx hB5 zz zz h)
  have djb61 : ¬ (fun y => Bl tv15 y ∨ F15 y) b7 := fun q => q.elim (fun h => Own.notBx hO15 hB9 zz h) (fun h => hS15.notBx hB9 zz zz h)
  have djb62 : ¬ (fun y => Bl tv15 y ∨ F15 y) b11 := fun q => q.elim (fun h => Own.notBx hO15 hB13 zz h) (fun h => hS15.notBx hB13 zz zz h)
  have djb63 : ¬ (fun y => Bl tv15 y ∨ F15 y) b25 := fun q => q.elim (fun h => Own.notBx hO15 hB27 zz h) (fun h => hS15.notBx hB27 zz zz h)
  have := E59.size
  have hB13 := hB13.keepG E59 djb62
  have hP15 := hP15.keepG E59 djo57
  have hQ15 := hQ15.keepG E59 djv57
  have hB27 := hB27.keepG E59 djb63
  have hb := below_stepG hb E59 hb.size (fun k hk => (hOld57 k hk).1)
  refine zG (zA hN rfl) ?_
  refine zW (zA hN rfl) rfl ?_
  refine zW (zA hN rfl) rfl ?_
  have hB27_old := hB27
  refine zZ size39 (zA hN rfl) (zA hN rfl) rfl (by simp only [List.all_cons, List.all_nil, Bool.true_and, Bool.and_true, hO57.one, hP15.one]; try rfl) hB27 rfl ?_
  intro w66 hB27 E67
  have := E67.size
  have hB13 := hB13.keep E67 sB
  have hP15 := hP15.keepX hB27_old E67 zz
  have hQ15 := hQ15.keepG (Gr.of E67) (Dj.one dj29)
  have hO57 := hO57.keepX hB27_old E67 zz
  have hS57 := hS57.keepG (Gr.of E67) (Dj.one (hS57.notBx hB27_old zz zz))
  have hb := below_step1 hb E67 hb.size zx
  refine zD (zA hN rfl) ?_
  refine zB ?_
  refine hK34 _ _ (zF fun K68 hK68 => ?_)
  refine zF fun K69 hK69 => ?_
  refine zH ?_
  refine zG (zA hN rfl) ?_
  refine op_neq (zA hN rfl) rfl (fun c51 => ?_) (fun c51 => ?_)
  ·
   refine zB ?_
   refine hK69 _ _ (wp_cond_true (zA hN rfl) (zF fun K70 hK70 => ?_))
   refine zH ?_
   refine zf (pv := []) (v := (Value.agg #[(.slice none 0 0), (.slice none 0 0)])) trivial zy ?_
   refine zG (zA hN rfl) ?_
   refine zZ size39 (zA hN rfl) (zA hN rfl) rfl rfl hB13 rfl ?_
   intro w73 hB13 E74
   have := E74.size
   have hb := below_step1 hb E74 hb.size zx
   refine zD (zA hN rfl) ?_
   refine zB ?_
   refine hK70 _ _ (wp_ret (zO ( ?_)))
   refine retN (rs := [.cell 6 39, .tmp 7]) (vs := [(.agg #[(.slice none 0 0), (.slice none 0 0)]), (.int .i64 (idxE (D15.map DTab.t) s.f.tb s.f.nm))]) rfl hd ⟨⟨_, (zA hN rfl), run_loadA (cs := [(.slice none 0 0), (.slice none 0 0)]) agg39 rfl (fun j u hu => by rw [Nat.zero_add]; exact hB13.cell hu)⟩, ⟨(zA hN rfl), trivial⟩⟩ rfl ⟨_, rfl, ?_⟩
   have e9 : (addE (D.map DTab.t) (V.map DVw.nm) o s) = (idxE (D15.map DTab.t) s.f.tb s.f.nm) := (addE_2 c23).trans (by rw [hM15])
   rw [e9]; exact ⟨hb, _, _, [], [], rfl, ⟨RdC.nil _ _ _ _, fun _ h => (by cases h)⟩, VsFr.nil _ _ _, fun h => absurd h c51, fun _ => ⟨rfl, rfl⟩⟩
  refine zB ?_
  refine hK69 _ _ (wp_cond_false (zA hN rfl) (wp_skip (hK68 _ _ (zF fun K75 hK75 => ?_))))
  refine zH ?_
  refine zY agg39 rfl (zA hN rfl) hB27 ?_
  have hB13_old := hB13
  refine zZ size39 (zA hN rfl) (zA hN rfl) rfl (by simp only [List.all_cons, List.all_nil, Bool.true_and, Bool.and_true, hO57.one, hP15.one]; try rfl) hB13 rfl ?_
  intro w78 hB13 E79
  have := E79.size
  have hP15 := hP15.keepX hB13_old E79 zz
  have hQ15 := hQ15.keepG (Gr.of E79) (Dj.one dj23)
  have hO57 := hO57.keepX hB13_old E79 zz
  have hS57 := hS57.keepG (Gr.of E79) (Dj.one (hS57.notBx hB13_old zz zz))
  have hb := below_step1 hb E79 hb.size zx
  refine zD rfl ?_
  refine zB ?_
  refine hK75 _ _ (wp_ret ?_)
  refine retN (rs := [.cell 6 39, .tmp 7]) (vs := [(.agg #[tv15, vv15]), (.int .i64 0)]) rfl hd ⟨⟨_, (zA hN rfl), run_loadA (cs := [tv15, vv15]) agg39 rfl (fun j u hu => by rw [Nat.zero_add]; exact hB13.cell hu)⟩, ⟨(zA hN rfl), trivial⟩⟩ rfl ⟨_, rfl, ?_⟩
  have e9 : (addE (D.map DTab.t) (V.map DVw.nm) o s) = (idxE (D15.map DTab.t) s.f.tb s.f.nm) := (addE_2 c23).trans (by rw [hM15])
  rw [e9, c51]; exact ⟨hb, _, _, D57z, V15, rfl, TabsR.fr hS57 hO57, hQ15.fr hVz9 hP15, fun _ => ⟨by rw [hA57 c51, hM15, addT_2 c23], AddV.n zx hvl15 hvs15⟩, fun h => absurd rfl h⟩
 refine zD (zA hN rfl) ?_
 refine zB ?_
 refine hK56 _ _ (wp_cond_false (zA hN rfl) (zF fun K80 hK80 => ?_))
 refine zH ?_
 refine op_eql (zA hN rfl) rfl (fun c31 => ?_) (fun c31 => ?_)
 ·
  refine zD (zA hN rfl) ?_
  refine zB ?_
  refine hK80 _ _ (wp_cond_true (zA hN rfl) (zH ?_))
  refine zY agg39 rfl (zA hN rfl) hB27 ?_
  refine zY agg45 rfl (zA hN rfl) hB9 ?_
  refine zG (zC hN rfl s2) ?_
  refine op_bslice (e := 3) (pv := [(0, (.int .i64 6))]) (cs := [(.int .i64 6)]) ⟨rfl, rfl, trivial⟩ zy ?_
  intro w81 b82 lo_b82 hi_b82 hB84 E83
  have := E83.size
  have he := he.keep0 E83
  have ho := ho.keep0 E83
  have hO15 := hO15.keep0 E83
  obtain ⟨hB5, hB9, hB13⟩ := kb3 E83 hB5 hB9 hB13
  have hS15 := hS15.keepG (zi E83 NoB) (fun _ _ h => h)
  have hP15 := hP15.keep0 E83
  have hQ15 := hQ15.keepG (zi E83 NoB) (fun _ _ h => h)
  have hB27 := hB27.keep0 E83
  have hb := zP hb E83 hb.size
  refine zj ok63 (view_ret (kk := [6]) hO15 hS15 hP15 hQ15 hdv15 hdt15 hD9 hz9 hVz9 he (Nat.le_refl _) zx hol (ho.mono (Nat.le_refl _) zx) ((RdC.ofBx (sz := 1) (n := 1) hB84 rfl zz).mono (Nat.zero_le _) zx)) ⟨(zA hN rfl), ⟨(zA hN rfl), ⟨(zA hN rfl), ⟨(zA hN rfl), trivial⟩⟩⟩⟩ ?_
  rintro _ w88 ⟨E89, vz87, V87z, F87z, rfl, hO87, hS87, hF87, hz87, hE87, hN87⟩
  have hOld87 := hP15
  have bl_b3 := hB5.lt
  have bl_b7 := hB9.lt
  have bl_b11 := hB13.lt
  have bl_b25 := hB27.lt
  have bl_b82 := hB84.lt
  have djo87 : Dj (Bl tv15) (Bl vv15) := hO15.notOwn hOld87 zz
  have dtb87 := (hS15.notOwn hP15 zz zz).symm
  have := E89.size
  have hB13 := hB13.keepG E89 (hOld87.notBx hB13 zz)
  have hO15 := hO15.keepG E89 djo87
  have hS15 := hS15.keepG E89 dtb87
  have hB27 := hB27.keepG E89 (hOld87.notBx hB27 zz)
  have hb := below_stepG hb E89 hb.size (fun k hk => (hOld87.lt k hk).1)
  have dj92 : ¬ F87z b11 := ne_stepF hF87 bl_b11 dj23
  have dj93 : ¬ F87z b25 := ne_stepF hF87 bl_b25 dj29
  refine zG (zA hN rfl) ?_
  refine zW (zA hN rfl) rfl ?_
  refine zW (zA hN rfl) rfl ?_
  have hB27_old := hB27
  refine zZ size39 (zA hN rfl) (zA hN rfl) rfl (by simp only [List.all_cons, List.all_nil, Bool.true_and, Bool.and_true, hO15.one, hO87.one]; try rfl) hB27 rfl ?_
  intro w97 hB27 E98
  have := E98.size
  have hB13 := hB13.keep E98 sB
  have hO15 := hO15.keepX hB27_old E98 zz
  have hS15 := hS15.keepG (Gr.of E98) (Dj.one dj28)
  have hO87 := hO87.keepX hB27_old E98 zz
  have hS87 := hS87.keepG (Gr.of E98) (Dj.one dj93)
  have hb := below_step1 hb E98 hb.size zx
  refine zD (zA hN rfl) ?_
  refine zB ?_
  refine hK34 _ _ (zF fun K99 hK99 => ?_)
  refine zF fun K100 hK100 => ?_
  refine zH ?_
  refine zG (zA hN rfl) ?_
  refine op_neq (zA hN rfl) rfl (fun c51 => ?_) (fun c51 => ?_)
  ·
   refine zB ?_
   refine hK100 _ _ (wp_cond_true (zA hN rfl) (zF fun K101 hK101 => ?_))
   refine zH ?_
   refine zf (pv := []) (v := (Value.agg #[(.slice none 0 0), (.slice none 0 0)])) trivial zy ?_
   refine zG (zA hN rfl) ?_
   refine zZ size39 (zA hN rfl) (zA hN rfl) rfl rfl hB13 rfl ?_
   intro w104 hB13 E105
   have := E105.size
   have hb := below_step1 hb E105 hb.size zx
   refine zD (zA hN rfl) ?_
   refine zB ?_
   refine hK101 _ _ (wp_ret (zO ( ?_)))
   refine retN (rs := [.cell 6 39, .tmp 7]) (vs := [(.agg #[(.slice none 0 0), (.slice none 0 0)]), (.int .i64 (viewE (V15.map DVw.nm) o s [6]))]) rfl hd ⟨⟨_, (zA hN rfl), run_loadA (cs := [(.slice none 0 0), (.slice none 0 0)]) agg39 rfl (fun j u hu => by rw [Nat.zero_add]; exact hB13.cell hu)⟩, ⟨(zA hN rfl), trivial⟩⟩ rfl ⟨_, rfl, ?_⟩
   have e9 : (addE (D.map DTab.t) (V.map DVw.nm) o s) = (viewE (V15.map DVw.nm) o s [6]) := (addE_3 c31).trans (by rw [hnm9])
   rw [e9]; exact ⟨hb, _, _, [], [], rfl, ⟨RdC.nil _ _ _ _, fun _ h => (by cases h)⟩, VsFr.nil _ _ _, fun h => absurd h c51, fun _ => ⟨rfl, rfl⟩⟩
  refine zB ?_
  refine hK100 _ _ (wp_cond_false (zA hN rfl) (wp_skip (hK99 _ _ (zF fun K106 hK106 => ?_))))
  refine zH ?_
  refine zY agg39 rfl (zA hN rfl) hB27 ?_
  have hB13_old := hB13
  refine zZ size39 (zA hN rfl) (zA hN rfl) rfl (by simp only [List.all_cons, List.all_nil, Bool.true_and, Bool.and_true, hO15.one, hO87.one]; try rfl) hB13 rfl ?_
  intro w109 hB13 E110
  have := E110.size
  have hO15 := hO15.keepX hB13_old E110 zz
  have hS15 := hS15.keepG (Gr.of E110) (Dj.one dj20)
  have hO87 := hO87.keepX hB13_old E110 zz
  have hS87 := hS87.keepG (Gr.of E110) (Dj.one dj92)
  have hb := below_step1 hb E110 hb.size zx
  refine zD rfl ?_
  refine zB ?_
  refine hK106 _ _ (wp_ret ?_)
  refine retN (rs := [.cell 6 39, .tmp 7]) (vs := [(.agg #[tv15, vz87]), (.int .i64 0)]) rfl hd ⟨⟨_, (zA hN rfl), run_loadA (cs := [tv15, vz87]) agg39 rfl (fun j u hu => by rw [Nat.zero_add]; exact hB13.cell hu)⟩, ⟨(zA hN rfl), trivial⟩⟩ rfl ⟨_, rfl, ?_⟩
  have e9 : (addE (D.map DTab.t) (V.map DVw.nm) o s) = (viewE (V15.map DVw.nm) o s [6]) := (addE_3 c31).trans (by rw [hnm9])
  obtain ⟨d9, hVd, hnd⟩ := hE87 c51
  rw [e9, c51]; exact ⟨hb, _, _, D15, V87z, rfl, TabsR.fr hS15 hO15, hS87.fr hz87 hO87, fun _ => ⟨by rw [hM15, addT_v zx], by rw [hVd]; exact AddV.v zx hvl15 hvs15 hnd⟩, fun h => absurd rfl h⟩
 refine zD (zA hN rfl) ?_
 refine zB ?_
 refine hK80 _ _ (wp_cond_false (zA hN rfl) (zF fun K111 hK111 => ?_))
 refine zH ?_
 refine op_eql (zA hN rfl) rfl (fun c41 => ?_) (fun c41 => ?_)
 ·
  refine zD (zA hN rfl) ?_
  refine zB ?_
  refine hK111 _ _ (wp_cond_true (zA hN rfl) (zH ?_))
  refine zY agg39 rfl (zA hN rfl) hB27 ?_
  refine zY agg45 rfl (zA hN rfl) hB9 ?_
  refine zG (zC hN rfl s2) ?_
  refine op_bslice (e := 3) (pv := [(0, (.int .i64 5)), (1, (.int .i64 7)), (2, (.int .i64 8))]) (cs := [(.int .i64 5), (.int .i64 7), (.int .i64 8)]) ⟨rfl, rfl, ⟨rfl, rfl, ⟨rfl, rfl, trivial⟩⟩⟩ zy ?_
  intro w112 b113 lo_b113 hi_b113 hB115 E114
  have := E114.size
  have he := he.keep0 E114
  have ho := ho.keep0 E114
  have hO15 := hO15.keep0 E114
  obtain ⟨hB5, hB9, hB13⟩ := kb3 E114 hB5 hB9 hB13
  have hS15 := hS15.keepG (zi E114 NoB) (fun _ _ h => h)
  have hP15 := hP15.keep0 E114
  have hQ15 := hQ15.keepG (zi E114 NoB) (fun _ _ h => h)
  have hB27 := hB27.keep0 E114
  have hb := zP hb E114 hb.size
  refine zj ok63 (view_ret (kk := [5, 7, 8]) hO15 hS15 hP15 hQ15 hdv15 hdt15 hD9 hz9 hVz9 he (Nat.le_refl _) zx hol (ho.mono (Nat.le_refl _) zx) ((RdC.ofBx (sz := 1) (n := 3) hB115 rfl zz).mono (Nat.zero_le _) zx)) ⟨(zA hN rfl), ⟨(zA hN rfl), ⟨(zA hN rfl), ⟨(zA hN rfl), trivial⟩⟩⟩⟩ ?_
  rintro _ w119 ⟨E120, vz118, V118z, F118z, rfl, hO118, hS118, hF118, hz118, hE118, hN118⟩
  have hOld118 := hP15
  have bl_b3 := hB5.lt
  have bl_b7 := hB9.lt
  have bl_b11 := hB13.lt
  have bl_b25 := hB27.lt
  have bl_b113 := hB115.lt
  have djo118 : Dj (Bl tv15) (Bl vv15) := hO15.notOwn hOld118 zz
  have dtb118 := (hS15.notOwn hP15 zz zz).symm
  have := E120.size
  have hB13 := hB13.keepG E120 (hOld118.notBx hB13 zz)
  have hO15 := hO15.keepG E120 djo118
  have hS15 := hS15.keepG E120 dtb118
  have hB27 := hB27.keepG E120 (hOld118.notBx hB27 zz)
  have hb := below_stepG hb E120 hb.size (fun k hk => (hOld118.lt k hk).1)
  have dj123 : ¬ F118z b11 := ne_stepF hF118 bl_b11 dj23
  have dj124 : ¬ F118z b25 := ne_stepF hF118 bl_b25 dj29
  refine zG (zA hN rfl) ?_
  refine zW (zA hN rfl) rfl ?_
  refine zW (zA hN rfl) rfl ?_
  have hB27_old := hB27
  refine zZ size39 (zA hN rfl) (zA hN rfl) rfl (by simp only [List.all_cons, List.all_nil, Bool.true_and, Bool.and_true, hO15.one, hO118.one]; try rfl) hB27 rfl ?_
  intro w128 hB27 E129
  have := E129.size
  have hB13 := hB13.keep E129 sB
  have hO15 := hO15.keepX hB27_old E129 zz
  have hS15 := hS15.keepG (Gr.of E129) (Dj.one dj28)
  have hO118 := hO118.keepX hB27_old E129 zz
  have hS118 := hS118.keepG (Gr.of E129) (Dj.one dj124)
  have hb := below_step1 hb E129 hb.size zx
  refine zD (zA hN rfl) ?_
  refine zB ?_
  refine hK34 _ _ (zF fun K130 hK130 => ?_)
  refine zF fun K131 hK131 => ?_
  refine zH ?_
  refine zG (zA hN rfl) ?_
  refine op_neq (zA hN rfl) rfl (fun c51 => ?_) (fun c51 => ?_)
  ·
   refine zB ?_
   refine hK131 _ _ (wp_cond_true (zA hN rfl) (zF fun K132 hK132 => ?_))
   refine zH ?_
   refine zf (pv := []) (v := (Value.agg #[(.slice none 0 0), (.slice none 0 0)])) trivial zy ?_
   refine zG (zA hN rfl) ?_
   refine zZ size39 (zA hN rfl) (zA hN rfl) rfl rfl hB13 rfl ?_
   intro w135 hB13 E136
   have := E136.size
   have hb := below_step1 hb E136 hb.size zx
   refine zD (zA hN rfl) ?_
   refine zB ?_
   refine hK132 _ _ (wp_ret (zO ( ?_)))
   refine retN (rs := [.cell 6 39, .tmp 7]) (vs := [(.agg #[(.slice none 0 0), (.slice none 0 0)]), (.int .i64 (viewE (V15.map DVw.nm) o s [5, 7, 8]))]) rfl hd ⟨⟨_, (zA hN rfl), run_loadA (cs := [(.slice none 0 0), (.slice none 0 0)]) agg39 rfl (fun j u hu => by rw [Nat.zero_add]; exact hB13.cell hu)⟩, ⟨(zA hN rfl), trivial⟩⟩ rfl ⟨_, rfl, ?_⟩
   have e9 : (addE (D.map DTab.t) (V.map DVw.nm) o s) = (viewE (V15.map DVw.nm) o s [5, 7, 8]) := (addE_4 c41).trans (by rw [hnm9])
   rw [e9]; exact ⟨hb, _, _, [], [], rfl, ⟨RdC.nil _ _ _ _, fun _ h => (by cases h)⟩, VsFr.nil _ _ _, fun h => absurd h c51, fun _ => ⟨rfl, rfl⟩⟩
  refine zB ?_
  refine hK131 _ _ (wp_cond_false (zA hN rfl) (wp_skip (hK130 _ _ (zF fun K137 hK137 => ?_))))
  refine zH ?_
  refine zY agg39 rfl (zA hN rfl) hB27 ?_
  have hB13_old := hB13
  refine zZ size39 (zA hN rfl) (zA hN rfl) rfl (by simp only [List.all_cons, List.all_nil, Bool.true_and, Bool.and_true, hO15.one, hO118.one]; try rfl) hB13 rfl ?_
  intro w140 hB13 E141
  have := E141.size
  have hO15 := hO15.keepX hB13_old E141 zz
  have hS15 := hS15.keepG (Gr.of E141) (Dj.one dj20)
  have hO118 := hO118.keepX hB13_old E141 zz
  have hS118 := hS118.keepG (Gr.of E141) (Dj.one dj123)
  have hb := below_step1 hb E141 hb.size zx
  refine zD rfl ?_
  refine zB ?_
  refine hK137 _ _ (wp_ret ?_)
  refine retN (rs := [.cell 6 39, .tmp 7]) (vs := [(.agg #[tv15, vz118]), (.int .i64 0)]) rfl hd ⟨⟨_, (zA hN rfl), run_loadA (cs := [tv15, vz118]) agg39 rfl (fun j u hu => by rw [Nat.zero_add]; exact hB13.cell hu)⟩, ⟨(zA hN rfl), trivial⟩⟩ rfl ⟨_, rfl, ?_⟩
  have e9 : (addE (D.map DTab.t) (V.map DVw.nm) o s) = (viewE (V15.map DVw.nm) o s [5, 7, 8]) := (addE_4 c41).trans (by rw [hnm9])
  obtain ⟨d9, hVd, hnd⟩ := hE118 c51
  rw [e9, c51]; exact ⟨hb, _, _, D15, V118z, rfl, TabsR.fr hS15 hO15, hS118.fr hz118 hO118, fun _ => ⟨by rw [hM15, addT_v zx], by rw [hVd]; exact AddV.v zx hvl15 hvs15 hnd⟩, fun h => absurd rfl h⟩
 refine zD (zA hN rfl) ?_
 refine zB ?_
 refine hK111 _ _ (wp_cond_false (zA hN rfl) (wp_skip (hK34 _ _ (zF fun K142 hK142 => ?_))))
 refine zF fun K143 hK143 => ?_
 refine zH ?_
 refine zG (zA hN rfl) ?_
 refine op_bin (v := .bool true) (zA hN rfl) rfl (by rw [binOp_neq]; rfl) (zB ?_)
 refine hK143 _ _ (wp_cond_true (zA hN rfl) (zF fun K144 hK144 => ?_))
 refine zH ?_
 refine zf (pv := []) (v := (Value.agg #[(.slice none 0 0), (.slice none 0 0)])) trivial zy ?_
 refine zG (zA hN rfl) ?_
 refine zZ size39 (zA hN rfl) (zA hN rfl) rfl rfl hB13 rfl ?_
 intro w147 hB13 E148
 have := E148.size
 have hb := below_step1 hb E148 hb.size zx
 refine zD (zA hN rfl) ?_
 refine zB ?_
 refine hK144 _ _ (wp_ret (zO ( ?_)))
 refine retN (rs := [.cell 6 39, .tmp 7]) (vs := [(.agg #[(.slice none 0 0), (.slice none 0 0)]), (.int .i64 1)]) rfl hd ⟨⟨_, (zA hN rfl), run_loadA (cs := [(.slice none 0 0), (.slice none 0 0)]) agg39 rfl (fun j u hu => by rw [Nat.zero_add]; exact hB13.cell hu)⟩, ⟨(zA hN rfl), trivial⟩⟩ rfl ⟨_, rfl, ?_⟩
 have e9 : (addE (D.map DTab.t) (V.map DVw.nm) o s) = 1 := addE_5 zx
 rw [e9]; exact ⟨hb, _, _, [], [], rfl, ⟨RdC.nil _ _ _ _, fun _ h => (by cases h)⟩, VsFr.nil _ _ _, fun h => absurd h zz, fun _ => ⟨rfl, rfl⟩⟩

end Go.Proofs.Ythflnkfghogaoaa

namespace Go.Proofs.Ythflnkfghogaoaa
open Go.Gx
end Go.Proofs.Ythflnkfghogaoaa

namespace Go.Proofs.Ythflnkfghogaoaa
open Go.Gx
end Go.Proofs.Ythflnkfghogaoaa

namespace Go.Proofs.Ythflnkfghogaoaa
open Go.Gx
def LsRd (w : World) (B : Nat) (L : List (Value × List UInt8)) : Prop := ∀ x ∈ L, RdC w 0 B 1 x.1 x.2.length (x.2.map u8v)
section
variable {w w' : World} {B B' base e sz n : Nat} {L : List (Value × List UInt8)} {row : Option Nat} {F : Nat → Prop} {u : Value} {ws : List Value}
theorem LsRd.keep (h : LsRd w B L) (E : w.grownBy w' row) (hne : ∀ k, row = some k → k < 0 ∨ B ≤ k) : LsRd w' B L := fun a ha => (h a ha).keep E hne
theorem LsRd.keep0 (h : LsRd w B L) (E : w.grownBy w' none) : LsRd w' B L := h.keep E (by simp)
theorem LsRd.keepG (h : LsRd w B L) (E : Gr w w' F) (hn : ∀ k, F k → k < 0 ∨ B ≤ k) : LsRd w' B L := fun a ha => (h a ha).keepG E hn
end
def refsP (x : List UInt8) (t : PTab) : Bool := decide (0 ≤ ixOf (fun d : PCol => decide (d.ref = x ∧ d.ref ≠ [])) t.cols)
def refsL (T : List PTab) (x : List UInt8) : List (List UInt8) := (T.filter (refsP x)).map PTab.nm
theorem refsL_t {D : List DTab} {x : List UInt8} {i : Nat} (hi : i < D.length) (h : refsP x (D.getD i default).t = true) : refsL ((D.take (i + 1)).map DTab.t) x = refsL ((D.take i).map DTab.t) x ++ [(D.getD i default).t.nm] := by
  unfold refsL; rw [take_map_snoc _ hi, List.filter_append, List.filter_cons, if_pos h, List.map_append]; rfl
theorem refsL_f {D : List DTab} {x : List UInt8} {i : Nat} (hi : i < D.length) (h : refsP x (D.getD i default).t = false) : refsL ((D.take (i + 1)).map DTab.t) x = refsL ((D.take i).map DTab.t) x := by
  unfold refsL; rw [take_map_snoc _ hi, List.filter_append, List.filter_cons, if_neg (by rw [h]; decide), List.map_append]; simp
theorem refsL_le {T : List PTab} {x : List UInt8} : (refsL T x).length ≤ T.length := by unfold refsL; rw [List.length_map]; exact List.length_filter_le _ _
def placeL (T : List PTab) (x : List UInt8) : Int := ixOf (fun t : PTab => decide (t.nm = x)) T
theorem placeL_d (D : List DTab) (x : List UInt8) : ixOf (fun d : DTab => decide (d.t.nm = x)) D = placeL (D.map DTab.t) x := by unfold placeL ixOf; rw [List.findIdx?_map]; rfl
def InvT (T : List PTab) (n : Nat) : Prop :=
  T.length ≤ 8 ∧ (∀ t ∈ T, t.cols.length ≤ 6 ∧ t.idx.length ≤ n) ∧ (∀ i j, i < j → j < T.length → (T.getD i default).nm ≠ (T.getD j default).nm) ∧ ∀ j, j < T.length → ∀ c ∈ (T.getD j default).cols, c.ref ≠ [] → ∃ m, m < j ∧ (T.getD m default).nm = c.ref
theorem InvT.nil (n : Nat) : InvT [] n := ⟨by simp, fun _ h => (by cases h), fun _ _ _ h => absurd h (Nat.not_lt_zero _), fun _ h => absurd h (Nat.not_lt_zero _)⟩
theorem InvT.mono {T : List PTab} {n m : Nat} (h : InvT T n) (hn : n ≤ m) : InvT T m := ⟨h.1, fun t ht => ⟨(h.2.1 t ht).1, Nat.le_trans (h.2.1 t ht).2 hn⟩, h.2.2⟩
theorem InvT.sz {T : List PTab} {n : Nat} (h : InvT T n) (hn : n ≤ 1000) : SzT T := ⟨by have := h.1; omega, fun t ht => by have := h.2.1 t ht; omega⟩
theorem mem_get {α : Type} [Inhabited α] {l : List α} {a : α} (h : a ∈ l) : ∃ j, j < l.length ∧ l.getD j default = a := by
  obtain ⟨j, hj, rfl⟩ := List.mem_iff_getElem.1 h
  exact ⟨j, hj, by simp [List.getD_eq_getElem?_getD, hj]⟩
theorem InvT.behind {T : List PTab} {n k : Nat} (h : InvT T n) (hk : k < T.length) : ∀ r ∈ refsL T (T.getD k default).nm, (k : Int) < placeL T r := fun r hr => by
  obtain ⟨t, ht, rfl⟩ := List.mem_map.1 hr
  obtain ⟨ht, hp⟩ := List.mem_filter.1 ht
  obtain ⟨j, hj, rfl⟩ := mem_get ht
  have hp := of_decide_eq_true hp
  rcases ixOf_cases (fun d : PCol => decide (d.ref = (T.getD k default).nm ∧ d.ref ≠ [])) (T.getD j default).cols with ⟨h1, _⟩ | ⟨i, h1, h2, h3, _⟩
  · rw [h1] at hp; exact absurd hp (by decide)
  · have h3 := of_decide_eq_true h3
    obtain ⟨m, hm, hmn⟩ := h.2.2.2 j hj _ (getD_mem h2) h3.2
    have hmk : m = k := by
      rcases Nat.lt_trichotomy m k with q | q | q
      · exact absurd (hmn.trans h3.1) (h.2.2.1 m k q hk)
      · exact q
      · exact absurd (hmn.trans h3.1).symm (h.2.2.1 k m q (by omega))
    have hpl : placeL T (T.getD j default).nm = j := ixOf_hit (p := fun t : PTab => decide (t.nm = (T.getD j default).nm)) hj (fun i hi => decide_eq_false (h.2.2.1 i j hi hj)) (decide_eq_true rfl)
    rw [hpl]; omega
theorem tabAt_get {T : List PTab} {x : List UInt8} {t : PTab} (h : tabAt T x = some t) : ∃ m, m < T.length ∧ (T.getD m default).nm = x := by
  obtain ⟨m, hm, e⟩ := mem_get (List.mem_of_find?_eq_some h)
  have := List.find?_some h
  exact ⟨m, hm, by rw [e]; exact of_decide_eq_true this⟩
theorem tabAt_no {T : List PTab} {x : List UInt8} (h : (tabAt T x).isSome = false) {j : Nat} (hj : j < T.length) : (T.getD j default).nm ≠ x := fun e => by
  cases hh : tabAt T x with
  | some t => rw [hh] at h; cases h
  | none =>
    have := List.find?_eq_none.1 hh _ (getD_mem (d := default) hj)
    exact this (decide_eq_true e)
theorem tabE_0 {T : List PTab} {nm : List UInt8} {l : List PCol} (h : tabE T nm l = 0) : (tabAt T nm).isSome = false ∧ T.length < 8 ∧ l.length ≤ 6 ∧ ∀ i, i < l.length → colE T l i = 0 := by
  unfold tabE at h
  by_cases h1 : (tabAt T nm).isSome = true
  · rw [if_pos h1] at h; exact absurd h (by decide)
  · rw [if_neg h1] at h
    by_cases h2 : 8 ≤ T.length
    · rw [if_pos h2] at h; exact absurd h (by decide)
    · rw [if_neg h2] at h
      by_cases h3 : l.length = 0 ∨ 6 < l.length
      · rw [if_pos h3] at h; exact absurd h (by decide)
      · rw [if_neg h3] at h
        exact ⟨by simpa using h1, by omega, by omega, fun i hi => firstE_all h _ (List.mem_map.2 ⟨i, List.mem_range.2 hi, rfl⟩)⟩
theorem colE_ref {T : List PTab} {l : List PCol} {i : Nat} (h : colE T l i = 0) (hr : (l.getD i default).ref ≠ []) : ∃ t, tabAt T (l.getD i default).ref = some t := by
  unfold colE at h
  by_cases h1 : 0 ≤ ixOf (fun d => decide (d.nm = (l.getD i default).nm)) (l.take i)
  · rw [if_pos h1] at h; exact absurd h (by decide)
  · rw [if_neg h1] at h
    by_cases h2 : (l.getD i default).kind ≠ 1 ∧ (l.getD i default).kind ≠ 2
    · rw [if_pos h2] at h; exact absurd h (by decide)
    · rw [if_neg h2, if_neg hr] at h
      by_cases h3 : i = 0 ∨ 0 ≤ ixOf (fun d : PCol => decide (d.ref ≠ [])) (l.take i)
      · rw [if_pos h3] at h; exact absurd h (by decide)
      · rw [if_neg h3] at h
        cases hh : tabAt T (l.getD i default).ref with
        | some t => exact ⟨t, rfl⟩
        | none => rw [hh] at h; exact absurd (show (9 : Int) = 0 from h) (by decide)
theorem InvT.table {T : List PTab} {n : Nat} {nm : List UInt8} {l : List PCol} (h : InvT T n) (he : tabE T nm l = 0) : InvT (T ++ [⟨nm, l, []⟩]) n := by
  obtain ⟨e1, e2, e3, e4⟩ := tabE_0 he
  have hl : (T ++ [(⟨nm, l, []⟩ : PTab)]).length = T.length + 1 := by simp
  refine ⟨by rw [hl]; omega, fun t ht => ?_, fun i j hij hj => ?_, fun j hj c hc hr => ?_⟩
  · rcases List.mem_append.1 ht with ht | ht
    · exact h.2.1 t ht
    · rw [List.mem_singleton] at ht; subst ht; exact ⟨e3, Nat.zero_le _⟩
  · rw [hl] at hj; rw [getD_old (show i < T.length by omega)]
    by_cases hjt : j < T.length
    · rw [getD_old hjt]; exact h.2.2.1 i j hij hjt
    · rw [getD_snoc (show j = T.length by omega)]; exact tabAt_no e1 (by omega)
  · rw [hl] at hj
    by_cases hjt : j < T.length
    · rw [getD_old hjt] at hc
      obtain ⟨m, hm, hmn⟩ := h.2.2.2 j hjt c hc hr
      exact ⟨m, hm, by rw [getD_old (by omega)]; exact hmn⟩
    · rw [getD_snoc (show j = T.length by omega)] at hc
      obtain ⟨i, hi, rfl⟩ := mem_get hc
      obtain ⟨t, ht⟩ := colE_ref (e4 i hi) hr
      obtain ⟨m, hm, hmn⟩ := tabAt_get ht
      exact ⟨m, by omega, by rw [getD_old hm]; exact hmn⟩
theorem idxT_get (tb nm : List UInt8) : ∀ (T : List PTab), (idxT T tb nm).length = T.length ∧ ∀ j, ((idxT T tb nm).getD j default).nm = (T.getD j default).nm ∧ ((idxT T tb nm).getD j default).cols = (T.getD j default).cols ∧ ((idxT T tb nm).getD j default).idx.length ≤ (T.getD j default).idx.length + 1
  | [] => ⟨rfl, fun j => ⟨rfl, rfl, Nat.le_succ _⟩⟩
  | t :: T => by
    obtain ⟨h1, h2⟩ := idxT_get tb nm T
    by_cases ht : t.nm = tb
    · rw [show idxT (t :: T) tb nm = { t with idx := t.idx ++ [nm] } :: T by simp [idxT, ht]]
      refine ⟨rfl, fun j => ?_⟩
      cases j with
      | zero => exact ⟨rfl, rfl, by simp⟩
      | succ j => exact ⟨rfl, rfl, Nat.le_succ _⟩
    · rw [show idxT (t :: T) tb nm = t :: idxT T tb nm by simp [idxT, ht]]
      refine ⟨by simp [h1], fun j => ?_⟩
      cases j with
      | zero => exact ⟨rfl, rfl, Nat.le_succ _⟩
      | succ j => simpa using h2 j
theorem InvT.index {T : List PTab} {n : Nat} {tb nm : List UInt8} (h : InvT T n) : InvT (idxT T tb nm) (n + 1) := by
  obtain ⟨hl, hg⟩ := idxT_get tb nm T
  refine ⟨by rw [hl]; exact h.1, fun t ht => ?_, fun i j hij hj => ?_, fun j hj c hc hr => ?_⟩
  · obtain ⟨j, hj, rfl⟩ := mem_get ht
    rw [hl] at hj
    have := h.2.1 _ (getD_mem (d := default) hj)
    exact ⟨by rw [(hg j).2.1]; exact this.1, Nat.le_trans (hg j).2.2 (by omega)⟩
  · rw [hl] at hj; rw [(hg i).1, (hg j).1]; exact h.2.2.1 i j hij hj
  · rw [hl] at hj; rw [(hg j).2.1] at hc
    obtain ⟨m, hm, hmn⟩ := h.2.2.2 j hj c hc hr
    exact ⟨m, hm, by rw [(hg m).1]; exact hmn⟩
theorem grow_law {T : List PTab} {V V' : List DVw} {o : Lb} {s : XS} {n : Nat} (h : InvT T n) (hv : V.length ≤ 8) (he : addE T (V.map DVw.nm) o s = 0) (ha : AddV V V' s) :
    InvT (addT T s) (n + 1) ∧ V'.length ≤ 8 ∧ (addT T s).length + V'.length = T.length + V.length + (if s.f.kind = 2 then 0 else 1) ∧ T.length ≤ (addT T s).length ∧ V.length ≤ V'.length ∧ ∀ k, k < T.length → ((addT T s).getD k default).nm = (T.getD k default).nm ∧ ((addT T s).getD k default).cols.length = (T.getD k default).cols.length := by
  by_cases h1 : s.f.kind = 1
  · rw [addE_1 h1] at he; unfold AddV at ha; rw [if_neg (by omega)] at ha; rw [addT_1 h1, if_neg (by omega)]
    exact ⟨(h.table he).mono (Nat.le_succ _), by rw [ha.1]; exact hv, by rw [ha.1]; simp; omega, by simp, by rw [ha.1]; exact Nat.le_refl _, fun k hk => by rw [getD_old hk]; exact ⟨rfl, rfl⟩⟩
  · by_cases h2 : s.f.kind = 2
    · unfold AddV at ha; rw [if_neg (by omega)] at ha; rw [addT_2 h2, if_pos h2]
      obtain ⟨hl, hg⟩ := idxT_get s.f.tb s.f.nm T
      exact ⟨h.index, by rw [ha.1]; exact hv, by rw [ha.1, hl]; rfl, by rw [hl]; exact Nat.le_refl _, by rw [ha.1]; exact Nat.le_refl _, fun k _ => ⟨(hg k).1, by rw [(hg k).2.1]⟩⟩
    · by_cases h3 : s.f.kind = 3 ∨ s.f.kind = 4
      · unfold AddV at ha; rw [if_pos h3] at ha
        obtain ⟨W, d, rfl, hl, _, _⟩ := ha
        have hv8 : V.length < 8 := by
          have q : ∀ k, viewE (V.map DVw.nm) o s k = 0 → V.length < 8 := fun k hk => by
            unfold viewE at hk
            by_cases a : s.f.nm ∈ V.map DVw.nm
            · rw [if_pos a] at hk; exact absurd hk (by decide)
            · rw [if_neg a] at hk
              by_cases b : 8 ≤ (V.map DVw.nm).length
              · rw [if_pos b] at hk; exact absurd hk (by decide)
              · rw [List.length_map] at b; omega
          rcases h3 with h3 | h3
          · rw [addE_3 h3] at he; exact q _ he
          · rw [addE_4 h3] at he; exact q _ he
        rw [addT_v ⟨h1, h2⟩, if_neg h2]
        exact ⟨h.mono (Nat.le_succ _), by simp; omega, by simp; omega, Nat.le_refl _, by simp; omega, fun _ _ => ⟨rfl, rfl⟩⟩
      · rw [addE_5 ⟨h1, h2, fun q => h3 (.inl q), fun q => h3 (.inr q)⟩] at he; exact absurd he (by decide)
end Go.Proofs.Ythflnkfghogaoaa

namespace Go.Proofs.Ythflnkfghogaoaa
open Go.Gx Go.RowKit
attribute [local irreducible] wpList wpStill Code.wp Calls

theorem Refs_ret {tv vv : Value} {D : List DTab} (x : List UInt8) {w : World} (hT : TsRd w w.heap.size tv D) (hD : D.length ≤ 1000) : Ret Try.prog 28 #[(.agg #[tv, vv]), (.string (bs x))] w (fun v' w' => Below w.heap.size w w' ∧ RdC w' w.heap.size w'.heap.size 1 v' (refsL (D.map DTab.t) x).length ((refsL (D.map DTab.t) x).map sv)) := by
 have hR := hT.1
 have hb := Below.refl w.heap.size w
 refine enter (N := 26) Try.func28 rfl rfl (by simp) fun a0 hN hd hA => ?_
 have s0 : a0.tmps.getD 0 undef = (.agg #[tv, vv]) := hA 0 (by simp)
 have s1 : a0.tmps.getD 1 undef = (.string (bs x)) := hA 1 (by simp)
 clear hA
 refine zF fun K1 hK1 => ?_
 refine zH ?_
 refine op_box (cs := [tv, vv]) (zC hN rfl s0) rfl ?_
 intro w2 b3 lo_b3 hi_b3 hB5 E4
 have := E4.size
 have hR := hR.keep0 E4
 have hT := hT.keep0 E4
 have hb := zP hb E4 hb.size
 refine op_box (cs := [(.string (bs x))]) (zC hN rfl s1) rfl ?_
 intro w6 b7 lo_b7 hi_b7 hB9 E8
 have := E8.size
 have hR := hR.keep0 E8
 have hT := hT.keep0 E8
 have hB5 := hB5.keep0 E8
 have hb := zP hb E8 hb.size
 refine zD rfl ?_
 refine zB ?_
 refine hK1 _ _ (zF fun K10 hK10 => ?_)
 refine zH ?_
 refine zD rfl ?_
 refine zB ?_
 refine hK10 _ _ (zF fun K11 hK11 => ?_)
 refine zF fun K12 hK12 => ?_
 refine zH ?_
 refine zM fld39_0 (zA hN rfl) ?_
 refine zN (v := tv) one36 (zA hN rfl) (hB5.cell rfl) ?_
 refine op_len_rd Try.underlying36 (zA hN rfl) hR ?_
 refine zG rfl ?_
 refine zB ?_
 refine hK12 _ _ (wp_block ?_)
 refine loop_m (fun mz_ az_ w' => ∃ (i : Nat) (lv2 : Value), mz_ = D.length - i ∧ (az_.tmps.getD 3 undef = (ptr b7 0)) ∧ (az_.tmps.getD 4 undef = (.slice none 0 0)) ∧ (az_.tmps.getD 9 undef = tv) ∧ (az_.tmps.getD 10 undef = (.int .i64 ((D.length : Nat) : Int))) ∧ (az_.tmps.getD 11 undef = (.int .i64 ((i : Nat) : Int))) ∧ (az_.tmps.getD 5 undef = lv2) ∧ (i ≤ D.length) ∧ (Below w.heap.size w w') ∧ (w6.heap.size ≤ w'.heap.size) ∧ (RdC w' 0 w.heap.size 3 tv D.length (D.flatMap cellsT)) ∧ (TsRd w' w.heap.size tv D) ∧ (Bx w' b3 39 [tv, vv]) ∧ (Bx w' b7 9 [(.string (bs x))]) ∧ (Own w' w6.heap.size 9 1 lv2 (refsL ((D.take i).map DTab.t) x).length ((refsL ((D.take i).map DTab.t) x).map sv))) _ hN hd ⟨0, (.slice none 0 0), rfl, (zU hN rfl), (zU hN rfl), (zU hN rfl), (zU hN rfl), (zU hN rfl), (zU hN rfl), (Nat.zero_le _), hb, (Nat.le_refl _), hR, hT, hB5, hB9, (Own.nil _ _ _ _)⟩ ?_
 rintro _ a13 w13 hN13 hd13 ⟨i, lv2, rfl, s13_3, s13_4, s13_9, s13_10, s13_11, s13_5, hi, hb, zl_w13, hR, hT, hB5, hB9, hO14⟩
 have := hb.size
 refine zF fun K15 hK15 => ?_
 refine zH ?_
 refine op_lss (zC hN13 rfl s13_11) (zC hN13 rfl s13_10) (fun c12 => ?_) (fun c12 => ?_)
 ·
  refine zB ?_
  refine hK15 _ _ (zF fun K16 hK16 => ?_)
  refine wp_cond_true (zA hN13 rfl) (wp_skip (hK16 _ _ (zF fun K17 hK17 => ?_)))
  refine wp_block ?_
  refine zF fun K18 hK18 => ?_
  refine zH ?_
  refine zh slt36 (zC hN13 rfl s13_9) hR (zC hN13 rfl s13_11) zx zx ?_
  intro b19 o20 h0b19 h1b19 hc21
  refine zX (cs := [(.string (bs (D.getD i default).t.nm)), (D.getD i default).cv, (D.getD i default).iv]) agg55 rfl (zA hN13 rfl) (fun j u hu => hc21 j u (by have := (List.getElem?_eq_some_iff.1 hu).1; simpa using this) ((el_dt (i := i) zx zx) j u hu)) ?_
  refine op_alloc (cs := [(.string (bs [])), (.slice none 0 0), (.slice none 0 0)]) zero55 rfl ?_
  intro w22 b23 lo_b23 hi_b23 hB25 E24
  have := E24.size
  have hR := hR.keep0 E24
  have hT := hT.keep0 E24
  have hO14 := hO14.keep0 E24
  obtain ⟨hB5, hB9⟩ := kb2 E24 hB5 hB9
  have hb := zP hb E24 hb.size
  have hB25_old := hB25
  refine zZ size55 (zA hN13 rfl) (zA hN13 rfl) rfl (by simp only [List.all_cons, List.all_nil, Bool.true_and, Bool.and_true, (hT.2 (D.getD i default) (getD_mem zx)).1.one, (hT.2 (D.getD i default) (getD_mem zx)).2.one]; try rfl) hB25 rfl ?_
  intro w28 hB25 E29
  have := E29.size
  have hR := hR.keep E29 sR
  have hT := hT.keep E29 sR
  have hB5 := hB5.keep E29 (sN hB5 hB25_old)
  have hB9 := hB9.keep E29 (sN hB9 hB25_old)
  have hO14 := hO14.keepX hB25_old E29 zz
  have hb := below_step1 hb E29 hb.size zx
  refine zB ?_
  refine hK18 _ _ (zF fun K30 hK30 => ?_)
  refine zH ?_
  refine zM fld55_1 (zA hN13 rfl) ?_
  refine zN (v := (D.getD i default).cv) one41 (zA hN13 rfl) (hB25.cell rfl) ?_
  refine op_mkfn (cv := [(ptr b7 0)]) ⟨(zC hN13 rfl s13_3), trivial⟩ ?_
  refine zj ok64 (ContNm x hB9 ((hT.2 (D.getD i default) (getD_mem zx)).1.mono (Nat.zero_le _) zx)) ⟨(zA hN13 rfl), ⟨(zA hN13 rfl), trivial⟩⟩ ?_
  rintro _ w31 ⟨E32, rfl⟩
  have E32 := zQ E32
  have := E32.size
  have hR := hR.keep0 E32
  have hT := hT.keep0 E32
  have hO14 := hO14.keep0 E32
  obtain ⟨hB5, hB9, hB25⟩ := kb3 E32 hB5 hB9 hB25
  have hb := zP hb E32 hb.size
  rcases Bool.eq_false_or_eq_true ((decide (0 ≤ ixOf (fun d : PCol => decide (d.ref = x ∧ d.ref ≠ [])) ((D.getD i default).t.cols)))) with c18 | c18
  ·
   rw [c18]
   refine zB ?_
   refine hK30 _ _ (wp_cond_true (zA hN13 rfl) (zH ?_))
   have hrl := @refsL_le ((D.take i).map DTab.t) x
   rw [List.length_map, List.length_take] at hrl
   refine zG (zC hN13 rfl s13_5) ?_
   refine zM fld55_0 (zA hN13 rfl) ?_
   refine zN (v := (Value.string (bs (D.getD i default).t.nm))) one9 (zA hN13 rfl) (hB25.cell rfl) ?_
   refine op_bslice (e := 9) (pv := [(0, (.string (bs (D.getD i default).t.nm)))]) (cs := [(.string (bs (D.getD i default).t.nm))]) ⟨rfl, (zA hN13 rfl), trivial⟩ zy ?_
   intro w33 b34 lo_b34 hi_b34 hB36 E35
   have := E35.size
   have hR := hR.keep0 E35
   have hT := hT.keep0 E35
   have hO14 := hO14.keep0 E35
   obtain ⟨hB5, hB9⟩ := kb2 E35 hB5 hB9
   have hb := zP hb E35 hb.size
   have hP42 := hO14
   refine op_append slt53 (zA hN13 rfl) hP42 (zA hN13 rfl) (Src.ofRd Try.underlying53 zz (RdC.ofBx (sz := 1) (n := 1) hB36 rfl zz) (by simp [Value.oneCell', u8v])) (by unfold maxLen; omega) zx (by first | exact Nat.le_trans (by assumption) hb.size | (have := hb.size; omega)) ?_
   intro v37 w38 hO40 E39 hm41
   have := E39.size
   have hR := hR.keepO hP42 E39 zx
   have hT := hT.keepO hP42 E39 zx
   have hB5 := hB5.keepO hP42 E39 zz
   have hB9 := hB9.keepB hP42 E39 zx
   have hb := below_stepO hb hP42 E39 hb.size zx
   have hO40 : Own w38 w6.heap.size 9 1 v37 ((refsL ((D.take i).map DTab.t) x).length + 1) ((((refsL ((D.take i).map DTab.t) x) ++ [(D.getD i default).t.nm])).map sv) := by simpa [u8v, u16v, sv, cellsI, cellsC, cellsX, cellsS] using hO40
   refine zD (zA hN13 rfl) ?_
   refine zB ?_
   refine hK17 _ _ (zH ?_)
   refine op_add (zC hN13 rfl s13_11) rfl (add64 zx) ?_
   refine zG (zA hN13 rfl) ?_
   refine zB ?_
   -- round 12T 18T
   exact zg _ hN13 hd13 ⟨(i + 1), v37, rfl, (zL hN13 rfl s13_3), (zL hN13 rfl s13_4), (zL hN13 rfl s13_9), (zL hN13 rfl s13_10), (zU hN13 rfl).trans (congrArg (Value.int .i64) zx), (zU hN13 rfl), zx, hb, zx, hR, hT, hB5, hB9, (hO40.cast (by rw [refsL_t zx c18]; simp) (by rw [refsL_t zx c18]))⟩ zx
  rw [c18]
  refine zB ?_
  refine hK30 _ _ (wp_cond_false (zA hN13 rfl) (wp_skip (hK17 _ _ (zH ?_))))
  refine op_add (zC hN13 rfl s13_11) rfl (add64 zx) ?_
  refine zG (zA hN13 rfl) ?_
  refine zB ?_
  -- round 12T 18F
  exact zg _ hN13 hd13 ⟨(i + 1), lv2, rfl, (zL hN13 rfl s13_3), (zL hN13 rfl s13_4), (zL hN13 rfl s13_9), (zL hN13 rfl s13_10), (zU hN13 rfl).trans (congrArg (Value.int .i64) zx), (zL hN13 rfl s13_5), zx, hb, zx, hR, hT, hB5, hB9, (hO14.cast (by rw [refsL_f zx c18]) (by rw [refsL_f zx c18]))⟩ zx
 refine zB ?_
 refine hK15 _ _ (zF fun K43 hK43 => ?_)
 refine wp_cond_false (zA hN13 rfl) (wp_exit (then_exit (then_exit (blk_hit ?_))))
 refine hK11 _ _ (zF fun K44 hK44 => ?_)
 refine zH ?_
 refine zG (zC hN13 rfl s13_5) ?_
 refine zD (zA hN13 rfl) ?_
 refine zB ?_
 refine hK44 _ _ (wp_ret ?_)
 refine ret1 rfl hd13 (zA hN13 rfl) ⟨_, rfl, ?_⟩
 have e9 : D.take i = D := List.take_of_length_le zx
 rw [e9] at hO14
 exact ⟨hb, hO14.rdw.mono zx (Nat.le_refl _)⟩

theorem place_ret {tv vv : Value} {D : List DTab} (x : List UInt8) {B : Nat} {w : World} (hT : TsRd w B tv D) (hB : B ≤ w.heap.size) (hD : D.length ≤ 1000) : Ret Try.prog 29 #[(.agg #[tv, vv]), (.string (bs x))] w (fun v' w' => Below w.heap.size w w' ∧ v' = .int .i64 (placeL (D.map DTab.t) x)) := by
 have hR := hT.1
 have hb := Below.refl w.heap.size w
 refine enter (N := 22) Try.func29 rfl rfl (by simp) fun a0 hN hd hA => ?_
 have s0 : a0.tmps.getD 0 undef = (.agg #[tv, vv]) := hA 0 (by simp)
 have s1 : a0.tmps.getD 1 undef = (.string (bs x)) := hA 1 (by simp)
 clear hA
 refine zF fun K45 hK45 => ?_
 refine zH ?_
 refine op_box (cs := [tv, vv]) (zC hN rfl s0) rfl ?_
 intro w46 b47 lo_b47 hi_b47 hB49 E48
 have := E48.size
 have hR := hR.keep0 E48
 have hT := hT.keep0 E48
 have hb := zP hb E48 hb.size
 refine zD rfl ?_
 refine zB ?_
 refine hK45 _ _ (zF fun K50 hK50 => ?_)
 refine zF fun K51 hK51 => ?_
 refine zH ?_
 refine zD rfl ?_
 refine zB ?_
 refine hK51 _ _ (wp_block ?_)
 refine loop_m (fun mz_ az_ w' => ∃ (i : Nat), mz_ = D.length - i ∧ (az_.tmps.getD 1 undef = (.string (bs x))) ∧ (az_.tmps.getD 2 undef = (ptr b47 0)) ∧ (az_.tmps.getD 5 undef = (.int .i64 ((i : Nat) : Int))) ∧ (i ≤ D.length) ∧ (∀ j, j < i → decide ((D.getD j default).t.nm = x) = false) ∧ (Below w.heap.size w w') ∧ (w46.heap.size ≤ w'.heap.size) ∧ (RdC w' 0 B 3 tv D.length (D.flatMap cellsT)) ∧ (TsRd w' B tv D) ∧ (Bx w' b47 39 [tv, vv])) _ hN hd ⟨0, rfl, (zL hN rfl s1), (zU hN rfl), (zU hN rfl), (Nat.zero_le _), (fun _ h => absurd h (Nat.not_lt_zero _)), hb, (Nat.le_refl _), hR, hT, hB49⟩ ?_
 rintro _ a52 w52 hN52 hd52 ⟨i, rfl, s52_1, s52_2, s52_5, hi, hall, hb, zl_w52, hR, hT, hB49⟩
 have := hb.size
 refine zF fun K53 hK53 => ?_
 refine zF fun K54 hK54 => ?_
 refine zH ?_
 refine zG (zC hN52 rfl s52_5) ?_
 refine zM fld39_0 (zC hN52 rfl s52_2) ?_
 refine zN (v := tv) one36 (zA hN52 rfl) (hB49.cell rfl) ?_
 refine op_len_rd Try.underlying36 (zA hN52 rfl) hR ?_
 refine op_lss (zA hN52 rfl) (zA hN52 rfl) (fun c10 => ?_) (fun c10 => ?_)
 ·
  refine zB ?_
  refine hK54 _ _ (wp_cond_true (zA hN52 rfl) (wp_skip (hK53 _ _ (zF fun K55 hK55 => ?_))))
  refine wp_block ?_
  refine zF fun K56 hK56 => ?_
  refine zH ?_
  refine zM fld39_0 (zC hN52 rfl s52_2) ?_
  refine zN (v := tv) one36 (zA hN52 rfl) (hB49.cell rfl) ?_
  refine zG (zC hN52 rfl s52_5) ?_
  refine zh slt36 (zA hN52 rfl) hR (zA hN52 rfl) zx zx ?_
  intro b57 o58 h0b57 h1b57 hc59
  refine zM fld55_0 (zA hN52 rfl) ?_
  refine zN (v := (Value.string (bs (D.getD i default).t.nm))) one9 (zA hN52 rfl) (hc59 0 ((.string (bs (D.getD i default).t.nm))) zz ((el_dt (i := i) zx zx) 0 ((.string (bs (D.getD i default).t.nm))) rfl)) ?_
  refine zG (zC hN52 rfl s52_1) ?_
  refine op_seql (zA hN52 rfl) (zA hN52 rfl) (fun c20 => ?_) (fun c20 => ?_)
  ·
   refine zB ?_
   refine hK56 _ _ (wp_cond_true (zA hN52 rfl) (zF fun K60 hK60 => ?_))
   refine zH ?_
   refine zG (zC hN52 rfl s52_5) ?_
   refine zD (zA hN52 rfl) ?_
   refine zB ?_
   refine hK60 _ _ (wp_ret (zb (zO (zO (zb (zO ( ?_)))))))
   refine ret1 rfl hd52 (zA hN52 rfl) ⟨_, rfl, ?_⟩
   have e9 : (placeL (D.map DTab.t) x) = (i : Int) := (placeL_d D x).symm.trans (ixOf_hit (p := fun d : DTab => decide (d.t.nm = x)) zx hall (decide_eq_true c20))
   rw [e9]; exact ⟨hb, rfl⟩
  refine zB ?_
  refine hK56 _ _ (wp_cond_false (zA hN52 rfl) (wp_skip (hK55 _ _ (zH ?_))))
  refine zG (zC hN52 rfl s52_5) ?_
  refine op_add (zA hN52 rfl) rfl (add64 zx) ?_
  refine zD (zA hN52 rfl) ?_
  refine zB ?_
  -- round 10T 20F
  exact zg _ hN52 hd52 ⟨(i + 1), rfl, (zL hN52 rfl s52_1), (zL hN52 rfl s52_2), (zU hN52 rfl).trans (congrArg (Value.int .i64) zx), zx, (all_next hall (decide_eq_false c20)), hb, zx, hR, hT, hB49⟩ zx
 refine zB ?_
 refine hK54 _ _ (wp_cond_false (zA hN52 rfl) (wp_exit (then_exit (then_exit (blk_hit ?_)))))
 refine hK50 _ _ (zF fun K61 hK61 => ?_)
 refine zH ?_
 refine zD rfl ?_
 refine zB ?_
 refine hK61 _ _ (wp_ret ?_)
 refine ret1 rfl hd52 (zA hN52 rfl) ⟨_, rfl, ?_⟩
 have e9 : (placeL (D.map DTab.t) x) = -1 := (placeL_d D x).symm.trans (ixOf_none (p := fun d : DTab => decide (d.t.nm = x)) zx hall)
 rw [e9]; exact ⟨hb, rfl⟩

end Go.Proofs.Ythflnkfghogaoaa

namespace Go.Proofs.Ythflnkfghogaoaa
open Go.Gx
theorem map_t (D : List DTab) (k : Nat) : (D.map DTab.t).getD k default = (D.getD k default).t := by
  simp only [List.getD_eq_getElem?_getD, List.getElem?_map]
  cases D[k]? <;> rfl
theorem grow_D {D D' : List DTab} {V V' : List DVw} {o : Lb} {s : XS} {n : Nat} (h : InvT (D.map DTab.t) n) (hv : V.length ≤ 8) (he : addE (D.map DTab.t) (V.map DVw.nm) o s = 0) (hA : addE (D.map DTab.t) (V.map DVw.nm) o s = 0 → D'.map DTab.t = addT (D.map DTab.t) s ∧ AddV V V' s) :
    InvT (D'.map DTab.t) (n + 1) ∧ V'.length ≤ 8 ∧ D'.length ≤ 8 ∧ D.length ≤ D'.length ∧ (∃ m, D'.length + V'.length = D.length + V.length + m ∧ m ≤ 1 ∧ (s.f.kind = 2 ↔ ((m : Nat) : Int) = 0)) ∧ ∀ k, k < D.length → (D'.getD k default).t.nm = (D.getD k default).t.nm ∧ (D'.getD k default).t.cols.length = (D.getD k default).t.cols.length := by
  obtain ⟨hm, ha⟩ := hA he
  obtain ⟨h1, h2, h3, h4, h5, h6⟩ := grow_law h hv he ha
  rw [← hm] at h1 h3 h4 h6
  have h7 := h1.1
  rw [List.length_map] at h3 h4 h7
  refine ⟨h1, h2, h7, by simpa using h4, ?_, fun k hk => ?_⟩
  · by_cases h8 : s.f.kind = 2
    · rw [if_pos h8] at h3; exact ⟨0, by simpa using h3, by omega, by simp [h8]⟩
    · rw [if_neg h8] at h3; exact ⟨1, by simpa using h3, by omega, by simp [h8]⟩
  · have := h6 k (by rw [List.length_map]; exact hk)
    rw [map_t, map_t] at this; exact this
theorem behind_D {D : List DTab} {n k m : Nat} (h : InvT (D.map DTab.t) n) (hk : k < D.length) (hm : m < (refsL (D.map DTab.t) (D.getD k default).t.nm).length) : (k : Int) < placeL (D.map DTab.t) ((refsL (D.map DTab.t) (D.getD k default).t.nm).getD m []) := by
  have h9 := h.behind (k := k) (by rw [List.length_map]; exact hk)
  rw [map_t] at h9
  exact h9 _ (getD_mem (d := []) hm)
theorem lsrd_at {w : World} {B : Nat} {L : List (Value × List UInt8)} {i : Nat} (h : LsRd w B L) (hi : i < L.length) : RdC w 0 B 1 (L.getD i default).1 (L.getD i default).2.length ((L.getD i default).2.map u8v) := h _ (getD_mem hi)
theorem el_lb {L : List (Value × List UInt8)} {e : Int} {i : Nat} (he : e = (i : Int)) (h : i < L.length) : (L.flatMap (fun x9 => [x9.1]))[e.toNat * 1 + 0]? = some (L.getD i default).1 := el_ll he h
end Go.Proofs.Ythflnkfghogaoaa

namespace Go.Proofs.Ythflnkfghogaoaa
open Go.Gx Go.RowKit
attribute [local irreducible] wpList wpStill Code.wp Calls

theorem Num_ret {base p n Bp : Nat} {lv : Value} {bl : List UInt8} {m : Nat} {w : World} (hpk : PickR w base p lv bl n (fun k => k = p)) (hBp : Bp ≤ p) (hbl : RdC w 0 Bp 1 lv bl.length (bl.map u8v)) (hm : 0 < m) (hm2 : m ≤ 1000000) : Ret Try.prog 35 #[(ptr p 0), (.int .i64 ((m : Nat) : Int))] w (fun v' w' => Gr w w' (fun k => k = p) ∧ ∃ r : Nat, v' = .int .i64 ((r : Nat) : Int) ∧ r < m ∧ ∃ n' : Nat, PickR w' base p lv bl n' (fun k => k = p) ∧ n ≤ n' ∧ (n < bl.length → n < n')) := by
 have hi_p : p < w.heap.size := (hpk.lt p rfl).2
 obtain ⟨_, h1, h2, h3, hx⟩ := hpk
 have hb := Gr.refl w (fun k => k = p)
 refine enter (N := 36) Try.func35 rfl rfl (by simp) fun a0 hN hd hA => ?_
 have s0 : a0.tmps.getD 0 undef = (ptr p 0) := hA 0 (by simp)
 have s1 : a0.tmps.getD 1 undef = (.int .i64 ((m : Nat) : Int)) := hA 1 (by simp)
 clear hA
 refine zF fun K1 hK1 => ?_
 refine zH ?_
 refine zD rfl ?_
 refine zB ?_
 refine hK1 _ _ (zF fun K2 hK2 => ?_)
 refine zF fun K3 hK3 => ?_
 refine reg_still mixed zy ?_
 intro w5 E4
 have := E4.size
 have hx := hx.keep0 E4
 have hbl := hbl.keep0 E4
 have hb := hb.step0 E4
 refine st_step rfl (fun _ h9 => zG (zC hN rfl s0) h9) ?_
 refine st_step rfl (fun _ h9 => op_nil (zA hN rfl) h9) ?_
 refine st_step rfl (fun _ h9 => zM fld85_1 (zA hN rfl) h9) ?_
 refine st_step rfl (fun _ h9 => zN (v := (Value.int .i64 ((n : Nat) : Int))) one3 (zA hN rfl) (hx.cell rfl) h9) ?_
 refine st_step rfl (fun _ h9 => zG (zC hN rfl s0) h9) ?_
 refine st_step rfl (fun _ h9 => op_nil (zA hN rfl) h9) ?_
 refine st_step rfl (fun _ h9 => zM fld85_0 (zA hN rfl) h9) ?_
 refine st_step rfl (fun _ h9 => zN (v := lv) one35 (zA hN rfl) (hx.cell rfl) h9) ?_
 refine st_step rfl (fun _ h9 => op_len_rd Try.underlying35 (zA hN rfl) hbl h9) ?_
 refine st_step rfl (fun _ h9 => op_cmp (b := (decide (((bl.length : Nat) : Int) ≤ ((n : Nat) : Int)))) (zA hN rfl) (zA hN rfl) (b_geq rfl) h9) ?_
 refine st_nil ?_
 refine hK3 _ _ (wp_cond_split (zA hN rfl) (fun c14 => ?_) (fun c14 => ?_))
 ·
  have c14 := of_decide_eq_true c14
  refine zF fun K6 hK6 => ?_
  refine zH ?_
  refine zD rfl ?_
  refine zB ?_
  refine hK6 _ _ (wp_ret (zO ( ?_)))
  refine ret1 rfl hd (zA hN rfl) ⟨_, rfl, ?_⟩
  exact ⟨hb, 0, rfl, hm, n, ⟨rfl, h1, h2, h3, hx⟩, Nat.le_refl _, fun h => absurd h zx⟩
 have c14 := of_decide_eq_false c14
 refine wp_skip (hK2 _ _ (zF fun K7 hK7 => ?_))
 refine zH ?_
 refine zG (zC hN rfl s0) ?_
 refine op_nil (zA hN rfl) (zM fld85_1 (zA hN rfl) ?_)
 refine zN (v := (Value.int .i64 ((n : Nat) : Int))) one3 (zA hN rfl) (hx.cell rfl) ?_
 refine op_add (r := ((n + 1 : Nat) : Int)) (zA hN rfl) rfl ((add64 zx).trans zx) ?_
 refine op_nil (zA hN rfl) (zM fld85_1 (zA hN rfl) ?_)
 refine za (vs := [(.int .i64 ((n + 1 : Nat) : Int))]) (cs' := [lv, (.int .i64 ((n + 1 : Nat) : Int))]) size3 (zA hN rfl) (zA hN rfl) rfl rfl rfl hx (zI rfl) rfl ?_
 intro w10 hx E11
 have := E11.size
 have hbl := hbl.keep E11 sR
 have hb := hb.stepB E11 rfl
 refine zB ?_
 refine hK7 _ _ (zF fun K12 hK12 => ?_)
 refine reg_still mixed zy ?_
 intro w14 E13
 have := E13.size
 have hbl := hbl.keep0 E13
 have hx := hx.keep0 E13
 have hb := hb.step0 E13
 refine st_step rfl (fun _ h9 => zG (zC hN rfl s0) h9) ?_
 refine st_step rfl (fun _ h9 => op_nil (zA hN rfl) h9) ?_
 refine st_step rfl (fun _ h9 => zM fld85_0 (zA hN rfl) h9) ?_
 refine st_step rfl (fun _ h9 => zN (v := lv) one35 (zA hN rfl) (hx.cell rfl) h9) ?_
 refine st_step rfl (fun _ h9 => zG (zC hN rfl s0) h9) ?_
 refine st_step rfl (fun _ h9 => op_nil (zA hN rfl) h9) ?_
 refine st_step rfl (fun _ h9 => zM fld85_1 (zA hN rfl) h9) ?_
 refine st_step rfl (fun _ h9 => zN (v := (Value.int .i64 ((n + 1 : Nat) : Int))) one3 (zA hN rfl) (hx.cell rfl) h9) ?_
 refine st_step rfl (fun _ h9 => op_sub (r := ((n : Nat) : Int)) (zA hN rfl) rfl ((sub64 zx).trans zx) h9) ?_
 refine st_index_rd slt35 (zA hN rfl) hbl (zA hN rfl) zx zx ?_
 intro b15 o16 h0b15 h1b15 hc17
 refine st_step rfl (fun _ h9 => zN (v := (Value.int .u8 ((bl.getD n 0).toNat : Int))) one5 (zA hN rfl) (by have := hc17 0 (.int .u8 ((bl.getD n 0).toNat : Int)) zz (el_u8 (i := n) zx zx); simpa using this) h9) ?_
 refine st_step rfl (fun _ h9 => op_conv (r := ((bl.getD n 0).toNat : Int)) (zA hN rfl) us5 Try.underlying3 (wrap_i64 (by have := ((bl.getD n 0)).toNat_lt; omega)) h9) ?_
 refine st_step rfl (fun _ h9 => zG (zC hN rfl s1) h9) ?_
 refine st_step rfl (fun _ h9 => op_rem (r := (((bl.getD n 0).toNat % m : Nat) : Int)) (zA hN rfl) (zA hN rfl) zx (by rw [Int.tmod_eq_emod_of_nonneg zx]; omega) h9) ?_
 refine st_step rfl (fun _ h9 => zD (zA hN rfl) h9) ?_
 refine st_nil ?_
 refine hK12 _ _ (wp_ret ?_)
 refine ret1 rfl hd (zA hN rfl) ⟨_, rfl, ?_⟩
 exact ⟨hb, _, rfl, Nat.mod_lt _ zx, n + 1, ⟨rfl, h1, by omega, h3, hx⟩, by omega, fun _ => by omega⟩

theorem Over_ret {base p n Bp : Nat} {lv : Value} {bl : List UInt8} {w : World} (hpk : PickR w base p lv bl n (fun k => k = p)) (hBp : Bp ≤ p) (hbl : RdC w 0 Bp 1 lv bl.length (bl.map u8v)) : Ret Try.prog 40 #[(ptr p 0)] w (fun v' w' => Gr w w' (fun k => k = p) ∧ v' = .bool (decide (bl.length ≤ n)) ∧ PickR w' base p lv bl n (fun k => k = p)) := by
 have hi_p : p < w.heap.size := (hpk.lt p rfl).2
 obtain ⟨_, h1, h2, h3, hx⟩ := hpk
 have hb := Gr.refl w (fun k => k = p)
 refine enter (N := 13) Try.func40 rfl rfl (by simp) fun a0 hN hd hA => ?_
 have s0 : a0.tmps.getD 0 undef = (ptr p 0) := hA 0 (by simp)
 clear hA
 refine zF fun K18 hK18 => ?_
 refine zH ?_
 refine zD rfl ?_
 refine zB ?_
 refine hK18 _ _ (zF fun K19 hK19 => ?_)
 refine reg_still mixed zy ?_
 intro w21 E20
 have := E20.size
 have hx := hx.keep0 E20
 have hbl := hbl.keep0 E20
 have hb := hb.step0 E20
 refine st_step rfl (fun _ h9 => zG (zC hN rfl s0) h9) ?_
 refine st_step rfl (fun _ h9 => op_nil (zA hN rfl) h9) ?_
 refine st_step rfl (fun _ h9 => zM fld85_1 (zA hN rfl) h9) ?_
 refine st_step rfl (fun _ h9 => zN (v := (Value.int .i64 ((n : Nat) : Int))) one3 (zA hN rfl) (hx.cell rfl) h9) ?_
 refine st_step rfl (fun _ h9 => zG (zC hN rfl s0) h9) ?_
 refine st_step rfl (fun _ h9 => op_nil (zA hN rfl) h9) ?_
 refine st_step rfl (fun _ h9 => zM fld85_0 (zA hN rfl) h9) ?_
 refine st_step rfl (fun _ h9 => zN (v := lv) one35 (zA hN rfl) (hx.cell rfl) h9) ?_
 refine st_step rfl (fun _ h9 => op_len_rd Try.underlying35 (zA hN rfl) hbl h9) ?_
 refine st_step rfl (fun _ h9 => op_cmp (b := (decide (((bl.length : Nat) : Int) ≤ ((n : Nat) : Int)))) (zA hN rfl) (zA hN rfl) (b_geq rfl) h9) ?_
 refine st_step rfl (fun _ h9 => zD (zA hN rfl) h9) ?_
 refine st_nil ?_
 refine hK19 _ _ (wp_ret ?_)
 refine ret1 rfl hd (zA hN rfl) ⟨_, rfl, ?_⟩
 exact ⟨hb, congrArg Value.bool (decide_eq_decide.2 zx), rfl, h1, h2, h3, hx⟩

theorem Value_ret {base p n Bp : Nat} {lv : Value} {bl : List UInt8} {kd : Int} {w : World} (hpk : PickR w base p lv bl n (fun k => k = p)) (hBp : Bp ≤ p) (hbl : RdC w 0 Bp 1 lv bl.length (bl.map u8v)) : Ret Try.prog 56 #[(ptr p 0), (.int .i64 kd)] w (fun v' w' => Gr w w' (fun k => k = p) ∧ ∃ (i : Int) (s : List UInt8), v' = .agg #[.int .i64 (if kd = 2 then (2 : Int) else 1), .int .i64 i, .string (bs s)] ∧ ∃ n' : Nat, PickR w' base p lv bl n' (fun k => k = p) ∧ n ≤ n') := by
 have hi_p : p < w.heap.size := (hpk.lt p rfl).2
 have hb := Gr.refl w (fun k => k = p)
 refine enter (N := 21) Try.func56 rfl rfl (by simp) fun a0 hN hd hA => ?_
 have s0 : a0.tmps.getD 0 undef = (ptr p 0) := hA 0 (by simp)
 have s1 : a0.tmps.getD 1 undef = (.int .i64 kd) := hA 1 (by simp)
 clear hA
 refine zF fun K1 hK1 => ?_
 refine zH ?_
 refine op_alloc (cs := [(.int .i64 0), (.int .i64 0), (.string (bs []))]) zero25 rfl ?_
 intro w2 b3 lo_b3 hi_b3 hB5 E4
 have dj6 : ¬ (fun k => k = p) b3 := fun hf => by have := (hpk.lt _ hf).2; omega
 have := E4.size
 have hpk := hpk.keepG (zi E4 NoB) (fun _ _ h => h)
 have hbl := hbl.keep0 E4
 have hb := hb.step0 E4
 refine zB ?_
 refine hK1 _ _ (zF fun K7 hK7 => ?_)
 refine zF fun K8 hK8 => ?_
 refine zH ?_
 refine zG (zC hN rfl s1) ?_
 refine op_eql (zA hN rfl) rfl (fun c7 => ?_) (fun c7 => ?_)
 ·
  refine zB ?_
  refine hK8 _ _ (wp_cond_true (zA hN rfl) (zF fun K9 hK9 => ?_))
  refine zH ?_
  refine op_bslice (e := 9) (pv := [(0, (.string (bs [97]))), (1, (.string (bs [98]))), (2, (.string (bs []))), (3, (.string (bs [105, 116, 39, 115]))), (4, (.string (bs [122, 122])))]) (cs := [(.string (bs [97])), (.string (bs [98])), (.string (bs [])), (.string (bs [105, 116, 39, 115])), (.string (bs [122, 122]))]) ⟨rfl, rfl, ⟨rfl, rfl, ⟨rfl, rfl, ⟨rfl, rfl, ⟨rfl, rfl, trivial⟩⟩⟩⟩⟩ zy ?_
  intro w10 b11 lo_b11 hi_b11 hB13 E12
  have dj14 : ¬ (fun k => k = p) b11 := fun hf => by have := (hpk.lt _ hf).2; omega
  have := E12.size
  have hpk := hpk.keepG (zi E12 NoB) (fun _ _ h => h)
  have hbl := hbl.keep0 E12
  have hB5 := hB5.keep0 E12
  have hb := hb.step0 E12
  refine zG (zC hN rfl s0) ?_
  refine zj ok35 (Num_ret (m := 5) hpk zx hbl zx zx) ⟨(zA hN rfl), ⟨rfl, trivial⟩⟩ ?_
  rintro _ w16 ⟨E17, r15, rfl, hr15, n15, hk15, hn15, hn15x⟩
  have := E17.size
  have hB5 := hB5.keepG E17 dj6
  have hB13 := hB13.keepG E17 dj14
  have hb := hb.stepF E17 (fun _ _ h => h)
  refine zh slt53 (zA hN rfl) (RdC.ofBx (sz := 1) (n := 5) hB13 rfl zz) (zA hN rfl) zx zx ?_
  intro b18 o19 h0b18 h1b18 hc20
  refine zN (v := (Value.string (bs (([[97], [98], [], [105, 116, 39, 115], [122, 122]] : List (List UInt8)).getD r15 [])))) one9 (zA hN rfl) (by have := hc20 0 (.string (bs (([[97], [98], [], [105, 116, 39, 115], [122, 122]] : List (List UInt8)).getD r15 []))) zz (el_sv (l := ([[97], [98], [], [105, 116, 39, 115], [122, 122]] : List (List UInt8))) (i := r15) rfl (show _ < 5 by omega)); simpa using this) ?_
  refine zf (pv := [(0, (.int .i64 2)), (2, (.string (bs (([[97], [98], [], [105, 116, 39, 115], [122, 122]] : List (List UInt8)).getD r15 []))))]) (v := (Value.agg #[(.int .i64 2), (.int .i64 0), (.string (bs (([[97], [98], [], [105, 116, 39, 115], [122, 122]] : List (List UInt8)).getD r15 [])))])) ⟨rfl, rfl, ⟨rfl, (zA hN rfl), trivial⟩⟩ zy ?_
  refine zZ size25 (zA hN rfl) (zA hN rfl) rfl rfl hB5 rfl ?_
  intro w23 hB5 E24
  have := E24.size
  have hk15 := hk15.keepG (Gr.of E24) (Dj.one dj6)
  have hb := hb.step1 E24 zx
  refine zB ?_
  refine hK9 _ _ (wp_ret (zO ( ?_)))
  refine retC rfl hd (zA hN rfl) agg25 rfl hB5 ⟨_, rfl, ?_⟩
  exact ⟨hb, 0, (([[97], [98], [], [105, 116, 39, 115], [122, 122]] : List (List UInt8)).getD r15 []), congrArg (fun x : Int => Value.agg #[.int .i64 x, .int .i64 0, .string (bs (([[97], [98], [], [105, 116, 39, 115], [122, 122]] : List (List UInt8)).getD r15 []))]) ((if_pos zx).symm : (2 : Int) = if kd = 2 then 2 else 1), n15, hk15, by omega⟩
 refine zB ?_
 refine hK8 _ _ (wp_cond_false (zA hN rfl) (wp_skip (hK7 _ _ (zF fun K25 hK25 => ?_))))
 refine zH ?_
 refine zG (zC hN rfl s0) ?_
 refine zj ok35 (Num_ret (m := 12) hpk zx hbl zx zx) ⟨(zA hN rfl), ⟨rfl, trivial⟩⟩ ?_
 rintro _ w27 ⟨E28, r26, rfl, hr26, n26, hk26, hn26, hn26x⟩
 have := E28.size
 have hB5 := hB5.keepG E28 dj6
 have hb := hb.stepF E28 (fun _ _ h => h)
 refine zD (zA hN rfl) ?_
 refine zB ?_
 refine hK25 _ _ (zF fun K29 hK29 => ?_)
 refine zF fun K30 hK30 => ?_
 refine zH ?_
 refine zG (zA hN rfl) ?_
 refine op_eql (zA hN rfl) rfl (fun c17 => ?_) (fun c17 => ?_)
 ·
  refine zB ?_
  refine hK30 _ _ (wp_cond_true (zA hN rfl) (zF fun K31 hK31 => ?_))
  refine zH ?_
  refine zf (pv := [(0, (.int .i64 1)), (1, (.int .i64 9223372036854775807))]) (v := (Value.agg #[(.int .i64 1), (.int .i64 9223372036854775807), (.string (bs []))])) ⟨rfl, rfl, ⟨rfl, rfl, trivial⟩⟩ zy ?_
  refine zZ size25 (zA hN rfl) (zA hN rfl) rfl rfl hB5 rfl ?_
  intro w34 hB5 E35
  have := E35.size
  have hk26 := hk26.keepG (Gr.of E35) (Dj.one dj6)
  have hb := hb.step1 E35 zx
  refine zB ?_
  refine hK31 _ _ (wp_ret (zO ( ?_)))
  refine retC rfl hd (zA hN rfl) agg25 rfl hB5 ⟨_, rfl, ?_⟩
  exact ⟨hb, 9223372036854775807, [], congrArg (fun x : Int => Value.agg #[.int .i64 x, .int .i64 9223372036854775807, .string (bs [])]) ((if_neg zx).symm : (1 : Int) = if kd = 2 then 2 else 1), n26, hk26, by omega⟩
 refine zB ?_
 refine hK30 _ _ (wp_cond_false (zA hN rfl) (wp_skip (hK29 _ _ (zF fun K36 hK36 => ?_))))
 refine zH ?_
 refine zG (zA hN rfl) ?_
 refine zf (pv := [(0, (.int .i64 1)), (1, (.int .i64 ((r26 : Nat) : Int)))]) (v := (Value.agg #[(.int .i64 1), (.int .i64 ((r26 : Nat) : Int)), (.string (bs []))])) ⟨rfl, rfl, ⟨rfl, (zA hN rfl), trivial⟩⟩ zy ?_
 refine zZ size25 (zA hN rfl) (zA hN rfl) rfl rfl hB5 rfl ?_
 intro w39 hB5 E40
 have := E40.size
 have hk26 := hk26.keepG (Gr.of E40) (Dj.one dj6)
 have hb := hb.step1 E40 zx
 refine zB ?_
 refine hK36 _ _ (wp_ret ?_)
 refine retC rfl hd (zA hN rfl) agg25 rfl hB5 ⟨_, rfl, ?_⟩
 exact ⟨hb, ((r26 : Nat) : Int), [], congrArg (fun x : Int => Value.agg #[.int .i64 x, .int .i64 ((r26 : Nat) : Int), .string (bs [])]) ((if_neg zx).symm : (1 : Int) = if kd = 2 then 2 else 1), n26, hk26, by omega⟩

theorem lit_ret (k i : Int) (s : List UInt8) (w : World) : Ret Try.prog 55 #[(.agg #[(.int .i64 k), (.int .i64 i), (.string (bs s))])] w (fun v' w' => Below w.heap.size w w' ∧ v' = .agg #[.int .i64 1, .int .i64 k, .int .i64 i, .string (bs s), .string (bs []), .string (bs []), .slice none 0 0]) := by
 have hb := Below.refl w.heap.size w
 refine enter (N := 5) Try.func55 rfl rfl (by simp) fun a0 hN hd hA => ?_
 have s0 : a0.tmps.getD 0 undef = (.agg #[(.int .i64 k), (.int .i64 i), (.string (bs s))]) := hA 0 (by simp)
 clear hA
 refine zF fun K41 hK41 => ?_
 refine zH ?_
 refine op_box (cs := [(.int .i64 k), (.int .i64 i), (.string (bs s))]) (zC hN rfl s0) rfl ?_
 intro w42 b43 lo_b43 hi_b43 hB45 E44
 have := E44.size
 have hb := zP hb E44 hb.size
 refine op_alloc (cs := [(.int .i64 0), (.int .i64 0), (.int .i64 0), (.string (bs [])), (.string (bs [])), (.string (bs [])), (.slice none 0 0)]) zero28 rfl ?_
 intro w46 b47 lo_b47 hi_b47 hB49 E48
 have := E48.size
 have hB45 := hB45.keep0 E48
 have hb := zP hb E48 hb.size
 refine zB ?_
 refine hK41 _ _ (zF fun K50 hK50 => ?_)
 refine zH ?_
 refine zY agg25 rfl (zA hN rfl) hB45 ?_
 refine zf (pv := [(0, (.int .i64 1)), (1, (.agg #[(.int .i64 k), (.int .i64 i), (.string (bs s))]))]) (v := (Value.agg #[(.int .i64 1), (.int .i64 k), (.int .i64 i), (.string (bs s)), (.string (bs [])), (.string (bs [])), (.slice none 0 0)])) ⟨rfl, rfl, ⟨rfl, (zA hN rfl), trivial⟩⟩ zy ?_
 refine zZ size28 (zA hN rfl) (zA hN rfl) rfl rfl hB49 rfl ?_
 intro w53 hB49 E54
 have := E54.size
 have hb := below_step1 hb E54 hb.size zx
 refine zB ?_
 refine hK50 _ _ (wp_ret ?_)
 refine retC rfl hd (zA hN rfl) agg28 rfl hB49 ⟨_, rfl, ?_⟩
 exact ⟨hb, rfl⟩

theorem two_ret {L : Nat} (op : Int) (a b : XE) (w : World) (hL : L ≤ w.heap.size) (ha : XFr w L w.heap.size a) (hb9 : XFr w L w.heap.size b) : Ret Try.prog 53 #[(.int .i64 op), (.agg #[(.int .i64 a.op), (.int .i64 a.vk), (.int .i64 a.vi), (.string (bs a.vt)), (.string (bs a.tb)), (.string (bs a.nm)), a.av]), (.agg #[(.int .i64 b.op), (.int .i64 b.vk), (.int .i64 b.vi), (.string (bs b.vt)), (.string (bs b.tb)), (.string (bs b.nm)), b.av])] w (fun v' w' => Below w.heap.size w w' ∧ ∃ av : Value, v' = .agg #[.int .i64 op, .int .i64 0, .int .i64 0, .string (bs []), .string (bs []), .string (bs []), av] ∧ XsFr w' L w'.heap.size av [a, b]) := by
 have hb := Below.refl w.heap.size w
 refine enter (N := 12) Try.func53 rfl rfl (by simp) fun a0 hN hd hA => ?_
 have s0 : a0.tmps.getD 0 undef = (.int .i64 op) := hA 0 (by simp)
 have s1 : a0.tmps.getD 1 undef = (.agg #[(.int .i64 a.op), (.int .i64 a.vk), (.int .i64 a.vi), (.string (bs a.vt)), (.string (bs a.tb)), (.string (bs a.nm)), a.av]) := hA 1 (by simp)
 have s2 : a0.tmps.getD 2 undef = (.agg #[(.int .i64 b.op), (.int .i64 b.vk), (.int .i64 b.vi), (.string (bs b.vt)), (.string (bs b.tb)), (.string (bs b.nm)), b.av]) := hA 2 (by simp)
 clear hA
 refine zF fun K55 hK55 => ?_
 refine zH ?_
 refine op_box (cs := [(.int .i64 a.op), (.int .i64 a.vk), (.int .i64 a.vi), (.string (bs a.vt)), (.string (bs a.tb)), (.string (bs a.nm)), a.av]) (zC hN rfl s1) rfl ?_
 intro w56 b57 lo_b57 hi_b57 hB59 E58
 have := E58.size
 have ha := ha.keep0 E58
 have hb9 := hb9.keep0 E58
 have hb := zP hb E58 hb.size
 refine op_box (cs := [(.int .i64 b.op), (.int .i64 b.vk), (.int .i64 b.vi), (.string (bs b.vt)), (.string (bs b.tb)), (.string (bs b.nm)), b.av]) (zC hN rfl s2) rfl ?_
 intro w60 b61 lo_b61 hi_b61 hB63 E62
 have := E62.size
 have ha := ha.keep0 E62
 have hb9 := hb9.keep0 E62
 have hB59 := hB59.keep0 E62
 have hb := zP hb E62 hb.size
 refine op_alloc (cs := [(.int .i64 0), (.int .i64 0), (.int .i64 0), (.string (bs [])), (.string (bs [])), (.string (bs [])), (.slice none 0 0)]) zero28 rfl ?_
 intro w64 b65 lo_b65 hi_b65 hB67 E66
 have := E66.size
 have ha := ha.keep0 E66
 have hb9 := hb9.keep0 E66
 obtain ⟨hB59, hB63⟩ := kb2 E66 hB59 hB63
 have hb := zP hb E66 hb.size
 refine zB ?_
 refine hK55 _ _ (zF fun K68 hK68 => ?_)
 refine zH ?_
 refine zG (zC hN rfl s0) ?_
 refine zY agg28 rfl (zA hN rfl) hB59 ?_
 refine zY agg28 rfl (zA hN rfl) hB63 ?_
 refine op_bslice (e := 28) (pv := [(0, (.agg #[(.int .i64 a.op), (.int .i64 a.vk), (.int .i64 a.vi), (.string (bs a.vt)), (.string (bs a.tb)), (.string (bs a.nm)), a.av])), (1, (.agg #[(.int .i64 b.op), (.int .i64 b.vk), (.int .i64 b.vi), (.string (bs b.vt)), (.string (bs b.tb)), (.string (bs b.nm)), b.av]))]) (cs := [(.int .i64 a.op), (.int .i64 a.vk), (.int .i64 a.vi), (.string (bs a.vt)), (.string (bs a.tb)), (.string (bs a.nm)), a.av, (.int .i64 b.op), (.int .i64 b.vk), (.int .i64 b.vi), (.string (bs b.vt)), (.string (bs b.tb)), (.string (bs b.nm)), b.av]) ⟨rfl, (zA hN rfl), ⟨rfl, (zA hN rfl), trivial⟩⟩ zy ?_
 intro w69 b70 lo_b70 hi_b70 hB72 E71
 have := E71.size
 have ha := ha.keep0 E71
 have hb9 := hb9.keep0 E71
 have hB67 := hB67.keep0 E71
 have hb := zP hb E71 hb.size
 refine zf (pv := [(0, (.int .i64 op)), (4, (.slice (some ⟨b70, 0, none⟩) 2 2))]) (v := (Value.agg #[(.int .i64 op), (.int .i64 0), (.int .i64 0), (.string (bs [])), (.string (bs [])), (.string (bs [])), (.slice (some ⟨b70, 0, none⟩) 2 2)])) ⟨rfl, (zA hN rfl), ⟨rfl, (zA hN rfl), trivial⟩⟩ zy ?_
 refine zZ size28 (zA hN rfl) (zA hN rfl) rfl rfl hB67 rfl ?_
 intro w75 hB67 E76
 have := E76.size
 have ha := ha.keep E76 sR
 have hb9 := hb9.keep E76 sR
 have hB72 := hB72.keep E76 sB
 have hb := below_step1 hb E76 hb.size zx
 refine zB ?_
 refine hK68 _ _ (wp_ret ?_)
 refine retC rfl hd (zA hN rfl) agg28 rfl hB67 ⟨_, rfl, ?_⟩
 exact ⟨hb, _, rfl, XsFr.lit2 (x := a) (x2 := b) hB72 zx hB72.lt (ha.mono (Nat.le_refl _) zx) (hb9.mono (Nat.le_refl _) zx)⟩

theorem once_ret (C : List PItm) (y : List UInt8) (vc : Value) (w : World) (hC : RdC w 0 w.heap.size 3 vc C.length (C.flatMap cellsI)) : Ret Try.prog 83 #[vc, (.string (bs y))] w (fun v' w' => Below w.heap.size w w' ∧ v' = .bool (onceN C y)) := by
 have hlm := rd_len hC
 have hb := Below.refl w.heap.size w
 refine enter (N := 24) Try.func83 rfl rfl (by simp) fun a0 hN hd hA => ?_
 have s0 : a0.tmps.getD 0 undef = vc := hA 0 (by simp)
 have s1 : a0.tmps.getD 1 undef = (.string (bs y)) := hA 1 (by simp)
 clear hA
 refine zF fun K1 hK1 => ?_
 refine zH ?_
 refine zD rfl ?_
 refine zB ?_
 refine hK1 _ _ (zF fun K2 hK2 => ?_)
 refine zH ?_
 refine zD rfl ?_
 refine zB ?_
 refine hK2 _ _ (zF fun K3 hK3 => ?_)
 refine zF fun K4 hK4 => ?_
 refine zH ?_
 refine zD rfl ?_
 refine zB ?_
 refine hK4 _ _ (wp_block ?_)
 refine loop_m (fun mz_ az_ w' => ∃ (i : Nat), mz_ = C.length - i ∧ (az_.tmps.getD 0 undef = vc) ∧ (az_.tmps.getD 1 undef = (.string (bs y))) ∧ (az_.tmps.getD 4 undef = (.bool false)) ∧ (az_.tmps.getD 6 undef = (.int .i64 ((i : Nat) : Int))) ∧ (az_.tmps.getD 5 undef = (.int .i64 (((C.take i).countP (fun x => decide (x.nm = y)) : Nat) : Int))) ∧ (i ≤ C.length) ∧ (Below w.heap.size w w') ∧ (w.heap.size ≤ w'.heap.size) ∧ (RdC w' 0 w.heap.size 3 vc C.length (C.flatMap cellsI))) _ hN hd ⟨0, rfl, (zL hN rfl s0), (zL hN rfl s1), (zU hN rfl), (zU hN rfl), (zU hN rfl).trans rfl, (Nat.zero_le _), hb, (Nat.le_refl _), hC⟩ ?_
 rintro _ a5 w5 hN5 hd5 ⟨i, rfl, s5_0, s5_1, s5_4, s5_6, s5_5, hi, hb, zl_w5, hC⟩
 have := hb.size
 refine zF fun K6 hK6 => ?_
 refine zF fun K7 hK7 => ?_
 refine zH ?_
 refine zG (zC hN5 rfl s5_6) ?_
 refine zG (zC hN5 rfl s5_0) ?_
 refine op_len_rd Try.underlying22 (zA hN5 rfl) hC ?_
 refine op_lss (zA hN5 rfl) (zA hN5 rfl) (fun c10 => ?_) (fun c10 => ?_)
 ·
  refine zB ?_
  refine hK7 _ _ (wp_cond_true (zA hN5 rfl) (wp_skip (hK6 _ _ (zF fun K8 hK8 => ?_))))
  refine wp_block ?_
  refine zF fun K9 hK9 => ?_
  refine zH ?_
  refine zG (zC hN5 rfl s5_0) ?_
  refine zG (zC hN5 rfl s5_6) ?_
  refine zh slt22 (zA hN5 rfl) hC (zA hN5 rfl) zx zx ?_
  intro b10 o11 h0b10 h1b10 hc12
  refine zM fld63_2 (zA hN5 rfl) ?_
  refine zN (v := (Value.string (bs (C.getD i default).nm))) one9 (zA hN5 rfl) (hc12 2 ((.string (bs (C.getD i default).nm))) zz ((el_pi (i := i) zx zx) 2 ((.string (bs (C.getD i default).nm))) rfl)) ?_
  refine zG (zC hN5 rfl s5_1) ?_
  refine op_seql (zA hN5 rfl) (zA hN5 rfl) (fun c19 => ?_) (fun c19 => ?_)
  ·
   refine zB ?_
   refine hK9 _ _ (wp_cond_true (zA hN5 rfl) (zH ?_))
   have hle9 := cnt_le C y i
   refine zG (zC hN5 rfl s5_5) ?_
   refine op_add (zA hN5 rfl) rfl (add64 zx) ?_
   refine zD (zA hN5 rfl) ?_
   refine zB ?_
   refine hK8 _ _ (zH ?_)
   refine zG (zC hN5 rfl s5_6) ?_
   refine op_add (zA hN5 rfl) rfl (add64 zx) ?_
   refine zD (zA hN5 rfl) ?_
   refine zB ?_
   -- round 10T 19T
   exact zg _ hN5 hd5 ⟨(i + 1), rfl, (zL hN5 rfl s5_0), (zL hN5 rfl s5_1), (zL hN5 rfl s5_4), (zU hN5 rfl).trans (congrArg (Value.int .i64) zx), (zU hN5 rfl).trans (congrArg (Value.int .i64) (by rw [cnt_t zx c19]; omega)), zx, hb, zx, hC⟩ zx
  refine zB ?_
  refine hK9 _ _ (wp_cond_false (zA hN5 rfl) (wp_skip (hK8 _ _ (zH ?_))))
  refine zG (zC hN5 rfl s5_6) ?_
  refine op_add (zA hN5 rfl) rfl (add64 zx) ?_
  refine zD (zA hN5 rfl) ?_
  refine zB ?_
  -- round 10T 19F
  exact zg _ hN5 hd5 ⟨(i + 1), rfl, (zL hN5 rfl s5_0), (zL hN5 rfl s5_1), (zL hN5 rfl s5_4), (zU hN5 rfl).trans (congrArg (Value.int .i64) zx), (zL hN5 rfl s5_5).trans (congrArg (Value.int .i64) (by rw [cnt_f zx c19])), zx, hb, zx, hC⟩ zx
 refine zB ?_
 refine hK7 _ _ (wp_cond_false (zA hN5 rfl) (wp_exit (then_exit (then_exit (blk_hit ?_)))))
 refine hK3 _ _ (zF fun K13 hK13 => ?_)
 refine zH ?_
 refine zG (zC hN5 rfl s5_5) ?_
 refine op_eql (zA hN5 rfl) rfl (fun c23 => ?_) (fun c23 => ?_)
 ·
  refine zD (zA hN5 rfl) ?_
  refine zB ?_
  refine hK13 _ _ (wp_ret ?_)
  refine ret1 rfl hd5 (zA hN5 rfl) ⟨_, rfl, ?_⟩
  exact ⟨hb, congrArg Value.bool (by unfold onceN; rw [List.take_of_length_le zx] at c23; exact (decide_eq_true zx).symm)⟩
 refine zD (zA hN5 rfl) ?_
 refine zB ?_
 refine hK13 _ _ (wp_ret ?_)
 refine ret1 rfl hd5 (zA hN5 rfl) ⟨_, rfl, ?_⟩
 exact ⟨hb, congrArg Value.bool (by unfold onceN; rw [List.take_of_length_le zx] at c23; exact (decide_eq_false zx).symm)⟩

theorem pcol_ret {base p n Bp : Nat} {lv : Value} {bl : List UInt8} {C : List PItm} {K : List Int} {vc vk : Value} {Lc Bc : Nat} {k : Int} {w : World} (hpk : PickR w base p lv bl n (fun k => k = p)) (hBp : Bp ≤ p) (hbl : RdC w 0 Bp 1 lv bl.length (bl.map u8v)) (hC : RdC w Lc Bc 3 vc C.length (C.flatMap cellsI)) (hK : RdC w Lc Bc 1 vk K.length (K.map (Value.int .i64))) (hBc : Bc ≤ w.heap.size) (hcp : p < Lc ∨ Bc ≤ p) (hcl : C.length ≤ 1000) : Ret Try.prog 54 #[(ptr p 0), vc, vk, (.int .i64 k)] w (fun v' w' => Gr w w' (fun k => k = p) ∧ ∃ (e : XE) (b : Bool), v' = .tuple #[(.agg #[(.int .i64 e.op), (.int .i64 e.vk), (.int .i64 e.vi), (.string (bs e.vt)), (.string (bs e.tb)), (.string (bs e.nm)), e.av]), .bool b] ∧ XFr w' w.heap.size w'.heap.size e ∧ (b = true → GoodC C K → kindX C K e = (k, 0)) ∧ ∃ n' : Nat, PickR w' base p lv bl n' (fun k => k = p) ∧ n ≤ n') := by
 have hi_p : p < w.heap.size := (hpk.lt p rfl).2
 have hlm := rd_len hC
 have hlk := rd_len hK
 have hb := Gr.refl w (fun k => k = p)
 refine enter (N := 66) Try.func54 rfl rfl (by simp) fun a0 hN hd hA => ?_
 have s0 : a0.tmps.getD 0 undef = (ptr p 0) := hA 0 (by simp)
 have s1 : a0.tmps.getD 1 undef = vc := hA 1 (by simp)
 have s2 : a0.tmps.getD 2 undef = vk := hA 2 (by simp)
 have s3 : a0.tmps.getD 3 undef = (.int .i64 k) := hA 3 (by simp)
 clear hA
 refine zF fun K1 hK1 => ?_
 refine zH ?_
 refine op_alloc (cs := [(.int .i64 0), (.int .i64 0), (.int .i64 0), (.string (bs [])), (.string (bs [])), (.string (bs [])), (.slice none 0 0)]) zero28 rfl ?_
 intro w2 b3 lo_b3 hi_b3 hB5 E4
 have dj6 : ¬ (fun k => k = p) b3 := fun hf => by have := (hpk.lt _ hf).2; omega
 have := E4.size
 have hpk := hpk.keepG (zi E4 NoB) (fun _ _ h => h)
 have hbl := hbl.keep0 E4
 have hC := hC.keep0 E4
 have hK := hK.keep0 E4
 have hb := hb.step0 E4
 refine zD rfl ?_
 refine zB ?_
 refine hK1 _ _ (zF fun K7 hK7 => ?_)
 refine zH ?_
 refine zD rfl ?_
 refine zB ?_
 refine hK7 _ _ (zF fun K8 hK8 => ?_)
 refine zF fun K9 hK9 => ?_
 refine zH ?_
 refine zD rfl ?_
 refine zB ?_
 refine hK9 _ _ (wp_block ?_)
 refine loop_m (fun mz_ az_ w' => ∃ (i : Nat) (lv2 : Value), mz_ = C.length - i ∧ (az_.tmps.getD 0 undef = (ptr p 0)) ∧ (az_.tmps.getD 1 undef = vc) ∧ (az_.tmps.getD 2 undef = vk) ∧ (az_.tmps.getD 3 undef = (.int .i64 k)) ∧ (az_.tmps.getD 8 undef = (ptr b3 0)) ∧ (az_.tmps.getD 9 undef = (.bool false)) ∧ (az_.tmps.getD 11 undef = (.int .i64 ((i : Nat) : Int))) ∧ (az_.tmps.getD 10 undef = lv2) ∧ (i ≤ C.length ∧ i ≤ K.length) ∧ ((ofK C K k i).length ≤ i) ∧ (Gr w w' (fun k => k = p)) ∧ (w2.heap.size ≤ w'.heap.size) ∧ (PickR w' base p lv bl n (fun k => k = p)) ∧ (RdC w' 0 Bp 1 lv bl.length (bl.map u8v)) ∧ (RdC w' Lc Bc 3 vc C.length (C.flatMap cellsI)) ∧ (RdC w' Lc Bc 1 vk K.length (K.map (Value.int .i64))) ∧ (Bx w' b3 28 [(.int .i64 0), (.int .i64 0), (.int .i64 0), (.string (bs [])), (.string (bs [])), (.string (bs [])), (.slice none 0 0)]) ∧ (Own w' w.heap.size 63 3 lv2 (ofK C K k i).length ((ofK C K k i).flatMap cellsI))) _ hN hd ⟨0, (.slice none 0 0), rfl, (zL hN rfl s0), (zL hN rfl s1), (zL hN rfl s2), (zL hN rfl s3), (zU hN rfl), (zU hN rfl), (zU hN rfl), (zU hN rfl), ⟨Nat.zero_le _, Nat.zero_le _⟩, (Nat.zero_le _), hb, (Nat.le_refl _), hpk, hbl, hC, hK, hB5, (Own.nil _ _ _ _)⟩ ?_
 rintro _ a10 w10 hN10 hd10 ⟨i, lv2, rfl, s10_0, s10_1, s10_2, s10_3, s10_8, s10_9, s10_11, s10_10, hi, hko, hb, zl_w10, hpk, hbl, hC, hK, hB5, hO11⟩
 have := hb.size
 refine zF fun K12 hK12 => ?_
 refine zF fun K13 hK13 => ?_
 refine zH ?_
 refine zG (zC hN10 rfl s10_11) ?_
 refine zG (zC hN10 rfl s10_1) ?_
 refine op_len_rd Try.underlying22 (zA hN10 rfl) hC ?_
 refine op_lss (zA hN10 rfl) (zA hN10 rfl) (fun c17 => ?_) (fun c17 => ?_)
 ·
  refine zG (zA hN10 rfl) ?_
  refine zS (j := 4) (dj := 18) (b := true) rfl rfl rfl (zA hN10 rfl) ?_
  refine zG (zC hN10 rfl s10_11) ?_
  refine zS (j := 4) (dj := 18) (b := true) rfl rfl rfl (zA hN10 rfl) ?_
  refine zG (zC hN10 rfl s10_2) ?_
  refine zS (j := 4) (dj := 18) (b := true) rfl rfl rfl (zA hN10 rfl) ?_
  refine op_len_rd Try.underlying23 (zA hN10 rfl) hK ?_
  refine zS (j := 4) (dj := 18) (b := true) rfl rfl rfl (zA hN10 rfl) ?_
  refine op_lss (zA hN10 rfl) (zA hN10 rfl) (fun c22 => ?_) (fun c22 => ?_)
  ·
   refine zc (zA hN10 rfl) (zA hN10 rfl) ?_
   refine zB ?_
   refine hK13 _ _ (wp_cond_true (zA hN10 rfl) (wp_skip (hK12 _ _ (zF fun K14 hK14 => ?_))))
   refine wp_block ?_
   refine zF fun K15 hK15 => ?_
   refine zH ?_
   refine zG (zC hN10 rfl s10_2) ?_
   refine zG (zC hN10 rfl s10_11) ?_
   refine zh slt23 (zA hN10 rfl) hK (zA hN10 rfl) zx zx ?_
   intro b16 o17 h0b16 h1b16 hc18
   refine zN (v := (Value.int .i64 (K.getD i 0))) one3 (zA hN10 rfl) (by have := hc18 0 (.int .i64 (K.getD i 0)) zz (el_i64 (i := i) zx zx); simpa using this) ?_
   refine zG (zC hN10 rfl s10_3) ?_
   refine op_eql (zA hN10 rfl) (zA hN10 rfl) (fun c31 => ?_) (fun c31 => ?_)
   ·
    refine zB ?_
    refine hK15 _ _ (wp_cond_true (zA hN10 rfl) (zH ?_))
    refine zG (zC hN10 rfl s10_10) ?_
    refine zG (zC hN10 rfl s10_1) ?_
    refine zG (zC hN10 rfl s10_11) ?_
    refine zh slt22 (zA hN10 rfl) hC (zA hN10 rfl) zx zx ?_
    intro b19 o20 h0b19 h1b19 hc21
    refine zX (cs := [(.int .i64 (C.getD i default).agg), (.string (bs (C.getD i default).tb)), (.string (bs (C.getD i default).nm))]) agg63 rfl (zA hN10 rfl) (fun j u hu => hc21 j u (by have := (List.getElem?_eq_some_iff.1 hu).1; simpa using this) ((el_pi (i := i) zx zx) j u hu)) ?_
    refine op_bslice (e := 63) (pv := [(0, (.agg #[(.int .i64 (C.getD i default).agg), (.string (bs (C.getD i default).tb)), (.string (bs (C.getD i default).nm))]))]) (cs := [(.int .i64 (C.getD i default).agg), (.string (bs (C.getD i default).tb)), (.string (bs (C.getD i default).nm))]) ⟨rfl, (zA hN10 rfl), trivial⟩ zy ?_
    intro w22 b23 lo_b23 hi_b23 hB25 E24
    have dj26 : ¬ (fun k => k = p) b23 := fun hf => by have := (hpk.lt _ hf).2; omega
    have := E24.size
    have hpk := hpk.keepG (zi E24 NoB) (fun _ _ h => h)
    have hbl := hbl.keep0 E24
    have hC := hC.keep0 E24
    have hK := hK.keep0 E24
    have hB5 := hB5.keep0 E24
    have hO11 := hO11.keep0 E24
    have hb := hb.step0 E24
    have hP32 := hO11
    refine op_append slt22 (zA hN10 rfl) hP32 (zA hN10 rfl) (Src.ofRd Try.underlying22 zz (RdC.ofBx (sz := 3) (n := 1) hB25 rfl zz) (by simp [Value.oneCell', u8v])) (by unfold maxLen; omega) zx hb.size ?_
    intro v27 w28 hO30 E29 hm31
    have := E29.size
    have hpk := hpk.keepG (Gr.of E29) (hpk.notOwn hP32 zz).symm
    have hbl := hbl.keepO hP32 E29 zx
    have hC := hC.keepO hP32 E29 zx
    have hK := hK.keepO hP32 E29 zx
    have hB5 := hB5.keepO hP32 E29 zz
    have hb := hb.stepO hP32 E29 zx
    have hO30 : Own w28 w.heap.size 63 3 v27 ((ofK C K k i).length + 1) ((((ofK C K k i) ++ [(PItm.mk ((C.getD i default).agg) ((C.getD i default).tb) ((C.getD i default).nm))])).flatMap cellsI) := by simpa [u8v, u16v, sv, cellsI] using hO30
    refine zD (zA hN10 rfl) ?_
    refine zB ?_
    refine hK14 _ _ (zH ?_)
    refine zG (zC hN10 rfl s10_11) ?_
    refine op_add (zA hN10 rfl) rfl (add64 zx) ?_
    refine zD (zA hN10 rfl) ?_
    refine zB ?_
    -- round 17T 22T 31T
    exact zg _ hN10 hd10 ⟨(i + 1), v27, rfl, (zL hN10 rfl s10_0), (zL hN10 rfl s10_1), (zL hN10 rfl s10_2), (zL hN10 rfl s10_3), (zL hN10 rfl s10_8), (zL hN10 rfl s10_9), (zU hN10 rfl).trans (congrArg (Value.int .i64) zx), (zU hN10 rfl), zx, (ofK_le _ _ _ _), hb, zx, hpk, hbl, hC, hK, hB5, (hO30.cast (by rw [ofK_t c31] <;> simp) (by rw [ofK_t c31] <;> simp [cellsI]))⟩ zx
   refine zB ?_
   refine hK15 _ _ (wp_cond_false (zA hN10 rfl) (wp_skip (hK14 _ _ (zH ?_))))
   refine zG (zC hN10 rfl s10_11) ?_
   refine op_add (zA hN10 rfl) rfl (add64 zx) ?_
   refine zD (zA hN10 rfl) ?_
   refine zB ?_
   -- round 17T 22T 31F
   exact zg _ hN10 hd10 ⟨(i + 1), lv2, rfl, (zL hN10 rfl s10_0), (zL hN10 rfl s10_1), (zL hN10 rfl s10_2), (zL hN10 rfl s10_3), (zL hN10 rfl s10_8), (zL hN10 rfl s10_9), (zU hN10 rfl).trans (congrArg (Value.int .i64) zx), (zL hN10 rfl s10_10), zx, (ofK_le _ _ _ _), hb, zx, hpk, hbl, hC, hK, hB5, (hO11.cast (by rw [ofK_f c31]) (by rw [ofK_f c31]))⟩ zx
  refine zc (zA hN10 rfl) (zA hN10 rfl) ?_
  refine zB ?_
  refine hK13 _ _ (wp_cond_false (zA hN10 rfl) (wp_exit (then_exit (then_exit (blk_hit ?_)))))
  refine hK8 _ _ (zF fun K34 hK34 => ?_)
  refine zF fun K35 hK35 => ?_
  refine zH ?_
  refine zG (zC hN10 rfl s10_10) ?_
  refine op_len_rd Try.underlying22 (zA hN10 rfl) hO11.rdw ?_
  refine op_eql (zA hN10 rfl) rfl (fun c41 => ?_) (fun c41 => ?_)
  ·
   refine zB ?_
   refine hK35 _ _ (wp_cond_true (zA hN10 rfl) (zF fun K36 hK36 => ?_))
   refine zH ?_
   refine zf (pv := []) (v := (Value.agg #[(.int .i64 0), (.int .i64 0), (.int .i64 0), (.string (bs [])), (.string (bs [])), (.string (bs [])), (.slice none 0 0)])) trivial zy ?_
   refine zZ size28 (zC hN10 rfl s10_8) (zA hN10 rfl) rfl rfl hB5 rfl ?_
   intro w39 hB5 E40
   have := E40.size
   have hpk := hpk.keepG (Gr.of E40) (Dj.one dj6)
   have hb := hb.step1 E40 zx
   refine zD rfl ?_
   refine zB ?_
   refine hK36 _ _ (wp_ret (zO ( ?_)))
   refine retN (rs := [.cell 8 28, .tmp 9]) (vs := [(.agg #[(.int .i64 0), (.int .i64 0), (.int .i64 0), (.string (bs [])), (.string (bs [])), (.string (bs [])), (.slice none 0 0)]), (.bool false)]) rfl hd10 ⟨⟨_, (zC hN10 rfl s10_8), run_loadA (cs := [(.int .i64 0), (.int .i64 0), (.int .i64 0), (.string (bs [])), (.string (bs [])), (.string (bs [])), (.slice none 0 0)]) agg28 rfl (fun j u hu => by rw [Nat.zero_add]; exact hB5.cell hu)⟩, ⟨(zA hN10 rfl), trivial⟩⟩ rfl ⟨_, rfl, ?_⟩
   exact ⟨hb, (XE.mk 0 0 0 [] [] [] (.slice none 0 0) []), false, rfl, .leaf rfl rfl, (fun h9 => (by cases h9)), n, hpk, by omega⟩
  refine zB ?_
  refine hK35 _ _ (wp_cond_false (zA hN10 rfl) (wp_skip (hK34 _ _ (zF fun K41 hK41 => ?_))))
  refine zH ?_
  refine zG (zC hN10 rfl s10_10) ?_
  refine zG (zC hN10 rfl s10_0) ?_
  refine zG (zC hN10 rfl s10_10) ?_
  refine op_len_rd Try.underlying22 (zA hN10 rfl) hO11.rdw ?_
  refine zj ok35 (Num_ret (m := ((ofK C K k i).length)) hpk zx hbl zx zx) ⟨(zA hN10 rfl), ⟨(zA hN10 rfl), trivial⟩⟩ ?_
  rintro _ w43 ⟨E44, r42, rfl, hr42, n42, hk42, hn42, hn42x⟩
  have hpk_old := hpk
  have := E44.size
  have hbl := hbl.keepG E44 (fun k hk => .inr (by have := hpk_old.lt k hk; omega))
  have hC := hC.keepG E44 sP
  have hB5 := hB5.keepG E44 dj6
  have hO11 := hO11.keepG E44 (hpk_old.notOwn hO11 zz)
  have hb := hb.stepF E44 (fun _ _ h => h)
  refine zh slt22 (zA hN10 rfl) hO11.rdw (zA hN10 rfl) zx zx ?_
  intro b45 o46 h0b45 h1b45 hc47
  refine zX (cs := [(.int .i64 ((ofK C K k i).getD r42 default).agg), (.string (bs ((ofK C K k i).getD r42 default).tb)), (.string (bs ((ofK C K k i).getD r42 default).nm))]) agg63 rfl (zA hN10 rfl) (fun j u hu => hc47 j u (by have := (List.getElem?_eq_some_iff.1 hu).1; simpa using this) ((el_pi (i := r42) zx zx) j u hu)) ?_
  refine op_alloc (cs := [(.int .i64 0), (.string (bs [])), (.string (bs []))]) zero63 rfl ?_
  intro w48 b49 lo_b49 hi_b49 hB51 E50
  have dj52 : ¬ (fun k => k = p) b49 := fun hf => by have := (hk42.lt _ hf).2; omega
  have := E50.size
  have hbl := hbl.keep0 E50
  have hC := hC.keep0 E50
  have hB5 := hB5.keep0 E50
  have hk42 := hk42.keepG (zi E50 NoB) (fun _ _ h => h)
  have hb := hb.step0 E50
  have hB51_old := hB51
  refine zZ size63 (zA hN10 rfl) (zA hN10 rfl) rfl rfl hB51 rfl ?_
  intro w55 hB51 E56
  have := E56.size
  have hbl := hbl.keep E56 sR
  have hC := hC.keep E56 sO
  have hB5 := hB5.keep E56 (sN hB5 hB51_old)
  have hk42 := hk42.keepG (Gr.of E56) (Dj.one dj52)
  have hb := hb.step1 E56 zx
  refine zB ?_
  refine hK41 _ _ (zF fun K57 hK57 => ?_)
  refine zH ?_
  refine zM fld63_2 (zA hN10 rfl) ?_
  refine zN (v := (Value.string (bs ((ofK C K k i).getD r42 default).nm))) one9 (zA hN10 rfl) (hB51.cell rfl) ?_
  refine zM fld63_1 (zA hN10 rfl) ?_
  refine zN (v := (Value.string (bs ((ofK C K k i).getD r42 default).tb))) one9 (zA hN10 rfl) (hB51.cell rfl) ?_
  refine zf (pv := [(0, (.int .i64 2)), (3, (.string (bs ((ofK C K k i).getD r42 default).nm))), (2, (.string (bs ((ofK C K k i).getD r42 default).tb)))]) (v := (Value.agg #[(.int .i64 2), (.int .i64 0), (.int .i64 0), (.string (bs [])), (.string (bs ((ofK C K k i).getD r42 default).tb)), (.string (bs ((ofK C K k i).getD r42 default).nm)), (.slice none 0 0)])) ⟨rfl, rfl, ⟨rfl, (zA hN10 rfl), ⟨rfl, (zA hN10 rfl), trivial⟩⟩⟩ zy ?_
  refine op_alloc (cs := [(.int .i64 0), (.int .i64 0), (.int .i64 0), (.string (bs [])), (.string (bs [])), (.string (bs [])), (.slice none 0 0)]) zero28 rfl ?_
  intro w58 b59 lo_b59 hi_b59 hB61 E60
  have dj62 : ¬ (fun k => k = p) b59 := fun hf => by have := (hk42.lt _ hf).2; omega
  have := E60.size
  have hbl := hbl.keep0 E60
  have hC := hC.keep0 E60
  have hB5 := hB5.keep0 E60
  have hk42 := hk42.keepG (zi E60 NoB) (fun _ _ h => h)
  have hB51 := hB51.keep0 E60
  have hb := hb.step0 E60
  have hB61_old := hB61
  refine zZ size28 (zA hN10 rfl) (zA hN10 rfl) rfl rfl hB61 rfl ?_
  intro w65 hB61 E66
  have := E66.size
  have hbl := hbl.keep E66 sR
  have hC := hC.keep E66 sO
  have hB5 := hB5.keep E66 sB
  have hk42 := hk42.keepG (Gr.of E66) (Dj.one dj62)
  have hB51 := hB51.keep E66 (sN hB51 hB61_old)
  have hb := hb.step1 E66 zx
  refine zB ?_
  refine hK57 _ _ (zF fun K67 hK67 => ?_)
  refine zF fun K68 hK68 => ?_
  refine zH ?_
  refine zG (zC hN10 rfl s10_0) ?_
  refine zj ok35 (Num_ret (m := 3) hk42 zx hbl zx zx) ⟨(zA hN10 rfl), ⟨rfl, trivial⟩⟩ ?_
  rintro _ w70 ⟨E71, r69, rfl, hr69, n69, hk69, hn69, hn69x⟩
  have := E71.size
  have hC := hC.keepG E71 sP
  have hB5 := hB5.keepG E71 dj6
  have hB51 := hB51.keepG E71 dj52
  have hB61 := hB61.keepG E71 dj62
  have hb := hb.stepF E71 (fun _ _ h => h)
  refine op_gtr (zA hN10 rfl) rfl (fun c57 => ?_) (fun c57 => ?_)
  ·
   refine zG (zA hN10 rfl) ?_
   refine zS (j := 3) (dj := 58) (b := true) rfl rfl rfl (zA hN10 rfl) ?_
   refine zG (zC hN10 rfl s10_1) ?_
   refine zS (j := 3) (dj := 58) (b := true) rfl rfl rfl (zA hN10 rfl) ?_
   refine zM fld63_2 (zA hN10 rfl) ?_
   refine zS (j := 3) (dj := 58) (b := true) rfl rfl rfl (zA hN10 rfl) ?_
   refine zN (v := (Value.string (bs ((ofK C K k i).getD r42 default).nm))) one9 (zA hN10 rfl) (hB51.cell rfl) ?_
   refine zS (j := 3) (dj := 58) (b := true) rfl rfl rfl (zA hN10 rfl) ?_
   refine zj ok83 (once_ret C (((ofK C K k i).getD r42 default).nm) _ _ (hC.mono (Nat.zero_le _) zx)) ⟨(zA hN10 rfl), ⟨(zA hN10 rfl), trivial⟩⟩ ?_
   rintro _ w72 ⟨E73, rfl⟩
   have E73 := zQ E73
   have := E73.size
   obtain ⟨hB5, hB61⟩ := kb2 E73 hB5 hB61
   have hk69 := hk69.keepG (zi E73 NoB) (fun _ _ h => h)
   have hb := hb.step0 E73
   rcases Bool.eq_false_or_eq_true ((onceN C (((ofK C K k i).getD r42 default).nm))) with c62 | c62
   ·
    rw [c62]
    refine zc (zA hN10 rfl) (zA hN10 rfl) ?_
    refine zB ?_
    refine hK68 _ _ (wp_cond_true (zA hN10 rfl) (zH ?_))
    refine zM fld28_2 (zA hN10 rfl) ?_
    refine za (vs := [(.string (bs []))]) (cs' := [(.int .i64 2), (.int .i64 0), (.int .i64 0), (.string (bs [])), (.string (bs [])), (.string (bs ((ofK C K k i).getD r42 default).nm)), (.slice none 0 0)]) size9 (zA hN10 rfl) rfl rfl rfl rfl hB61 (zI rfl) rfl ?_
    intro w76 hB61 E77
    have := E77.size
    have hB5 := hB5.keep E77 sB
    have hk69 := hk69.keepG (Gr.of E77) (Dj.one dj62)
    have hb := hb.step1 E77 zx
    refine zB ?_
    refine hK67 _ _ (zF fun K78 hK78 => ?_)
    refine zH ?_
    refine zY agg28 rfl (zA hN10 rfl) hB61 ?_
    refine zZ size28 (zC hN10 rfl s10_8) (zA hN10 rfl) rfl rfl hB5 rfl ?_
    intro w81 hB5 E82
    have := E82.size
    have hk69 := hk69.keepG (Gr.of E82) (Dj.one dj6)
    have hb := hb.step1 E82 zx
    refine zD rfl ?_
    refine zB ?_
    refine hK78 _ _ (wp_ret ?_)
    refine retN (rs := [.cell 8 28, .tmp 9]) (vs := [(.agg #[(.int .i64 2), (.int .i64 0), (.int .i64 0), (.string (bs [])), (.string (bs [])), (.string (bs ((ofK C K k i).getD r42 default).nm)), (.slice none 0 0)]), (.bool true)]) rfl hd10 ⟨⟨_, (zC hN10 rfl s10_8), run_loadA (cs := [(.int .i64 2), (.int .i64 0), (.int .i64 0), (.string (bs [])), (.string (bs [])), (.string (bs ((ofK C K k i).getD r42 default).nm)), (.slice none 0 0)]) agg28 rfl (fun j u hu => by rw [Nat.zero_add]; exact hB5.cell hu)⟩, ⟨(zA hN10 rfl), trivial⟩⟩ rfl ⟨_, rfl, ?_⟩
    exact ⟨hb, (XE.mk 2 0 0 [] [] (((ofK C K k i).getD r42 default).nm) (.slice none 0 0) []), true, rfl, .leaf rfl rfl, (fun _ hg => kind_col rfl rfl ((ofK_good hr42 zx hg).2 (by assumption))), n69, hk69, by omega⟩
   rw [c62]
   refine zc (zA hN10 rfl) (zA hN10 rfl) ?_
   refine zB ?_
   refine hK68 _ _ (wp_cond_false (zA hN10 rfl) (wp_skip (hK67 _ _ (zF fun K83 hK83 => ?_))))
   refine zH ?_
   refine zY agg28 rfl (zA hN10 rfl) hB61 ?_
   refine zZ size28 (zC hN10 rfl s10_8) (zA hN10 rfl) rfl rfl hB5 rfl ?_
   intro w86 hB5 E87
   have := E87.size
   have hk69 := hk69.keepG (Gr.of E87) (Dj.one dj6)
   have hb := hb.step1 E87 zx
   refine zD rfl ?_
   refine zB ?_
   refine hK83 _ _ (wp_ret ?_)
   refine retN (rs := [.cell 8 28, .tmp 9]) (vs := [(.agg #[(.int .i64 2), (.int .i64 0), (.int .i64 0), (.string (bs [])), (.string (bs ((ofK C K k i).getD r42 default).tb)), (.string (bs ((ofK C K k i).getD r42 default).nm)), (.slice none 0 0)]), (.bool true)]) rfl hd10 ⟨⟨_, (zC hN10 rfl s10_8), run_loadA (cs := [(.int .i64 2), (.int .i64 0), (.int .i64 0), (.string (bs [])), (.string (bs ((ofK C K k i).getD r42 default).tb)), (.string (bs ((ofK C K k i).getD r42 default).nm)), (.slice none 0 0)]) agg28 rfl (fun j u hu => by rw [Nat.zero_add]; exact hB5.cell hu)⟩, ⟨(zA hN10 rfl), trivial⟩⟩ rfl ⟨_, rfl, ?_⟩
   exact ⟨hb, (XE.mk 2 0 0 [] (((ofK C K k i).getD r42 default).tb) (((ofK C K k i).getD r42 default).nm) (.slice none 0 0) []), true, rfl, .leaf rfl rfl, (fun _ hg => kind_col rfl rfl ((ofK_good hr42 zx hg).1)), n69, hk69, by omega⟩
  refine zG (zA hN10 rfl) ?_
  refine zR (j := 3) (dj := 58) (b := true) rfl rfl rfl (zA hN10 rfl) rfl rfl ?_
  refine zR (j := 3) (dj := 58) (b := true) rfl rfl rfl (zA hN10 rfl) rfl rfl ?_
  refine zR (j := 3) (dj := 58) (b := true) rfl rfl rfl (zA hN10 rfl) rfl rfl ?_
  refine zR (j := 3) (dj := 58) (b := true) rfl rfl rfl (zA hN10 rfl) rfl rfl ?_
  refine zd (zA hN10 rfl) rfl ?_
  refine zB ?_
  refine hK68 _ _ (wp_cond_false (zA hN10 rfl) (wp_skip (hK67 _ _ (zF fun K88 hK88 => ?_))))
  refine zH ?_
  refine zY agg28 rfl (zA hN10 rfl) hB61 ?_
  refine zZ size28 (zC hN10 rfl s10_8) (zA hN10 rfl) rfl rfl hB5 rfl ?_
  intro w91 hB5 E92
  have := E92.size
  have hk69 := hk69.keepG (Gr.of E92) (Dj.one dj6)
  have hb := hb.step1 E92 zx
  refine zD rfl ?_
  refine zB ?_
  refine hK88 _ _ (wp_ret ?_)
  refine retN (rs := [.cell 8 28, .tmp 9]) (vs := [(.agg #[(.int .i64 2), (.int .i64 0), (.int .i64 0), (.string (bs [])), (.string (bs ((ofK C K k i).getD r42 default).tb)), (.string (bs ((ofK C K k i).getD r42 default).nm)), (.slice none 0 0)]), (.bool true)]) rfl hd10 ⟨⟨_, (zC hN10 rfl s10_8), run_loadA (cs := [(.int .i64 2), (.int .i64 0), (.int .i64 0), (.string (bs [])), (.string (bs ((ofK C K k i).getD r42 default).tb)), (.string (bs ((ofK C K k i).getD r42 default).nm)), (.slice none 0 0)]) agg28 rfl (fun j u hu => by rw [Nat.zero_add]; exact hB5.cell hu)⟩, ⟨(zA hN10 rfl), trivial⟩⟩ rfl ⟨_, rfl, ?_⟩
  exact ⟨hb, (XE.mk 2 0 0 [] (((ofK C K k i).getD r42 default).tb) (((ofK C K k i).getD r42 default).nm) (.slice none 0 0) []), true, rfl, .leaf rfl rfl, (fun _ hg => kind_col rfl rfl ((ofK_good hr42 zx hg).1)), n69, hk69, by omega⟩
 refine zG (zA hN10 rfl) ?_
 refine zR (j := 4) (dj := 18) (b := true) rfl rfl rfl (zA hN10 rfl) rfl rfl ?_
 refine zR (j := 4) (dj := 18) (b := true) rfl rfl rfl (zA hN10 rfl) rfl rfl ?_
 refine zR (j := 4) (dj := 18) (b := true) rfl rfl rfl (zA hN10 rfl) rfl rfl ?_
 refine zR (j := 4) (dj := 18) (b := true) rfl rfl rfl (zA hN10 rfl) rfl rfl ?_
 refine zd (zA hN10 rfl) rfl ?_
 refine zB ?_
 refine hK13 _ _ (wp_cond_false (zA hN10 rfl) (wp_exit (then_exit (then_exit (blk_hit ?_)))))
 refine hK8 _ _ (zF fun K93 hK93 => ?_)
 refine zF fun K94 hK94 => ?_
 refine zH ?_
 refine zG (zC hN10 rfl s10_10) ?_
 refine op_len_rd Try.underlying22 (zA hN10 rfl) hO11.rdw ?_
 refine op_eql (zA hN10 rfl) rfl (fun c41 => ?_) (fun c41 => ?_)
 ·
  refine zB ?_
  refine hK94 _ _ (wp_cond_true (zA hN10 rfl) (zF fun K95 hK95 => ?_))
  refine zH ?_
  refine zf (pv := []) (v := (Value.agg #[(.int .i64 0), (.int .i64 0), (.int .i64 0), (.string (bs [])), (.string (bs [])), (.string (bs [])), (.slice none 0 0)])) trivial zy ?_
  refine zZ size28 (zC hN10 rfl s10_8) (zA hN10 rfl) rfl rfl hB5 rfl ?_
  intro w98 hB5 E99
  have := E99.size
  have hpk := hpk.keepG (Gr.of E99) (Dj.one dj6)
  have hb := hb.step1 E99 zx
  refine zD rfl ?_
  refine zB ?_
  refine hK95 _ _ (wp_ret (zO ( ?_)))
  refine retN (rs := [.cell 8 28, .tmp 9]) (vs := [(.agg #[(.int .i64 0), (.int .i64 0), (.int .i64 0), (.string (bs [])), (.string (bs [])), (.string (bs [])), (.slice none 0 0)]), (.bool false)]) rfl hd10 ⟨⟨_, (zC hN10 rfl s10_8), run_loadA (cs := [(.int .i64 0), (.int .i64 0), (.int .i64 0), (.string (bs [])), (.string (bs [])), (.string (bs [])), (.slice none 0 0)]) agg28 rfl (fun j u hu => by rw [Nat.zero_add]; exact hB5.cell hu)⟩, ⟨(zA hN10 rfl), trivial⟩⟩ rfl ⟨_, rfl, ?_⟩
  exact ⟨hb, (XE.mk 0 0 0 [] [] [] (.slice none 0 0) []), false, rfl, .leaf rfl rfl, (fun h9 => (by cases h9)), n, hpk, by omega⟩
 refine zB ?_
 refine hK94 _ _ (wp_cond_false (zA hN10 rfl) (wp_skip (hK93 _ _ (zF fun K100 hK100 => ?_))))
 refine zH ?_
 refine zG (zC hN10 rfl s10_10) ?_
 refine zG (zC hN10 rfl s10_0) ?_
 refine zG (zC hN10 rfl s10_10) ?_
 refine op_len_rd Try.underlying22 (zA hN10 rfl) hO11.rdw ?_
 refine zj ok35 (Num_ret (m := ((ofK C K k i).length)) hpk zx hbl zx zx) ⟨(zA hN10 rfl), ⟨(zA hN10 rfl), trivial⟩⟩ ?_
 rintro _ w102 ⟨E103, r101, rfl, hr101, n101, hk101, hn101, hn101x⟩
 have hpk_old := hpk
 have := E103.size
 have hbl := hbl.keepG E103 (fun k hk => .inr (by have := hpk_old.lt k hk; omega))
 have hC := hC.keepG E103 sP
 have hB5 := hB5.keepG E103 dj6
 have hO11 := hO11.keepG E103 (hpk_old.notOwn hO11 zz)
 have hb := hb.stepF E103 (fun _ _ h => h)
 refine zh slt22 (zA hN10 rfl) hO11.rdw (zA hN10 rfl) zx zx ?_
 intro b104 o105 h0b104 h1b104 hc106
 refine zX (cs := [(.int .i64 ((ofK C K k i).getD r101 default).agg), (.string (bs ((ofK C K k i).getD r101 default).tb)), (.string (bs ((ofK C K k i).getD r101 default).nm))]) agg63 rfl (zA hN10 rfl) (fun j u hu => hc106 j u (by have := (List.getElem?_eq_some_iff.1 hu).1; simpa using this) ((el_pi (i := r101) zx zx) j u hu)) ?_
 refine op_alloc (cs := [(.int .i64 0), (.string (bs [])), (.string (bs []))]) zero63 rfl ?_
 intro w107 b108 lo_b108 hi_b108 hB110 E109
 have dj111 : ¬ (fun k => k = p) b108 := fun hf => by have := (hk101.lt _ hf).2; omega
 have := E109.size
 have hbl := hbl.keep0 E109
 have hC := hC.keep0 E109
 have hB5 := hB5.keep0 E109
 have hk101 := hk101.keepG (zi E109 NoB) (fun _ _ h => h)
 have hb := hb.step0 E109
 have hB110_old := hB110
 refine zZ size63 (zA hN10 rfl) (zA hN10 rfl) rfl rfl hB110 rfl ?_
 intro w114 hB110 E115
 have := E115.size
 have hbl := hbl.keep E115 sR
 have hC := hC.keep E115 sO
 have hB5 := hB5.keep E115 (sN hB5 hB110_old)
 have hk101 := hk101.keepG (Gr.of E115) (Dj.one dj111)
 have hb := hb.step1 E115 zx
 refine zB ?_
 refine hK100 _ _ (zF fun K116 hK116 => ?_)
 refine zH ?_
 refine zM fld63_2 (zA hN10 rfl) ?_
 refine zN (v := (Value.string (bs ((ofK C K k i).getD r101 default).nm))) one9 (zA hN10 rfl) (hB110.cell rfl) ?_
 refine zM fld63_1 (zA hN10 rfl) ?_
 refine zN (v := (Value.string (bs ((ofK C K k i).getD r101 default).tb))) one9 (zA hN10 rfl) (hB110.cell rfl) ?_
 refine zf (pv := [(0, (.int .i64 2)), (3, (.string (bs ((ofK C K k i).getD r101 default).nm))), (2, (.string (bs ((ofK C K k i).getD r101 default).tb)))]) (v := (Value.agg #[(.int .i64 2), (.int .i64 0), (.int .i64 0), (.string (bs [])), (.string (bs ((ofK C K k i).getD r101 default).tb)), (.string (bs ((ofK C K k i).getD r101 default).nm)), (.slice none 0 0)])) ⟨rfl, rfl, ⟨rfl, (zA hN10 rfl), ⟨rfl, (zA hN10 rfl), trivial⟩⟩⟩ zy ?_
 refine op_alloc (cs := [(.int .i64 0), (.int .i64 0), (.int .i64 0), (.string (bs [])), (.string (bs [])), (.string (bs [])), (.slice none 0 0)]) zero28 rfl ?_
 intro w117 b118 lo_b118 hi_b118 hB120 E119
 have dj121 : ¬ (fun k => k = p) b118 := fun hf => by have := (hk101.lt _ hf).2; omega
 have := E119.size
 have hbl := hbl.keep0 E119
 have hC := hC.keep0 E119
 have hB5 := hB5.keep0 E119
 have hk101 := hk101.keepG (zi E119 NoB) (fun _ _ h => h)
 have hB110 := hB110.keep0 E119
 have hb := hb.step0 E119
 have hB120_old := hB120
 refine zZ size28 (zA hN10 rfl) (zA hN10 rfl) rfl rfl hB120 rfl ?_
 intro w124 hB120 E125
 have := E125.size
 have hbl := hbl.keep E125 sR
 have hC := hC.keep E125 sO
 have hB5 := hB5.keep E125 sB
 have hk101 := hk101.keepG (Gr.of E125) (Dj.one dj121)
 have hB110 := hB110.keep E125 (sN hB110 hB120_old)
 have hb := hb.step1 E125 zx
 refine zB ?_
 refine hK116 _ _ (zF fun K126 hK126 => ?_)
 refine zF fun K127 hK127 => ?_
 refine zH ?_
 refine zG (zC hN10 rfl s10_0) ?_
 refine zj ok35 (Num_ret (m := 3) hk101 zx hbl zx zx) ⟨(zA hN10 rfl), ⟨rfl, trivial⟩⟩ ?_
 rintro _ w129 ⟨E130, r128, rfl, hr128, n128, hk128, hn128, hn128x⟩
 have := E130.size
 have hC := hC.keepG E130 sP
 have hB5 := hB5.keepG E130 dj6
 have hB110 := hB110.keepG E130 dj111
 have hB120 := hB120.keepG E130 dj121
 have hb := hb.stepF E130 (fun _ _ h => h)
 refine op_gtr (zA hN10 rfl) rfl (fun c57 => ?_) (fun c57 => ?_)
 ·
  refine zG (zA hN10 rfl) ?_
  refine zS (j := 3) (dj := 58) (b := true) rfl rfl rfl (zA hN10 rfl) ?_
  refine zG (zC hN10 rfl s10_1) ?_
  refine zS (j := 3) (dj := 58) (b := true) rfl rfl rfl (zA hN10 rfl) ?_
  refine zM fld63_2 (zA hN10 rfl) ?_
  refine zS (j := 3) (dj := 58) (b := true) rfl rfl rfl (zA hN10 rfl) ?_
  refine zN (v := (Value.string (bs ((ofK C K k i).getD r101 default).nm))) one9 (zA hN10 rfl) (hB110.cell rfl) ?_
  refine zS (j := 3) (dj := 58) (b := true) rfl rfl rfl (zA hN10 rfl) ?_
  refine zj ok83 (once_ret C (((ofK C K k i).getD r101 default).nm) _ _ (hC.mono (Nat.zero_le _) zx)) ⟨(zA hN10 rfl), ⟨(zA hN10 rfl), trivial⟩⟩ ?_
  rintro _ w131 ⟨E132, rfl⟩
  have E132 := zQ E132
  have := E132.size
  obtain ⟨hB5, hB120⟩ := kb2 E132 hB5 hB120
  have hk128 := hk128.keepG (zi E132 NoB) (fun _ _ h => h)
  have hb := hb.step0 E132
  rcases Bool.eq_false_or_eq_true ((onceN C (((ofK C K k i).getD r101 default).nm))) with c62 | c62
  ·
   rw [c62]
   refine zc (zA hN10 rfl) (zA hN10 rfl) ?_
   refine zB ?_
   refine hK127 _ _ (wp_cond_true (zA hN10 rfl) (zH ?_))
   refine zM fld28_2 (zA hN10 rfl) ?_
   refine za (vs := [(.string (bs []))]) (cs' := [(.int .i64 2), (.int .i64 0), (.int .i64 0), (.string (bs [])), (.string (bs [])), (.string (bs ((ofK C K k i).getD r101 default).nm)), (.slice none 0 0)]) size9 (zA hN10 rfl) rfl rfl rfl rfl hB120 (zI rfl) rfl ?_
   intro w135 hB120 E136
   have := E136.size
   have hB5 := hB5.keep E136 sB
   have hk128 := hk128.keepG (Gr.of E136) (Dj.one dj121)
   have hb := hb.step1 E136 zx
   refine zB ?_
   refine hK126 _ _ (zF fun K137 hK137 => ?_)
   refine zH ?_
   refine zY agg28 rfl (zA hN10 rfl) hB120 ?_
   refine zZ size28 (zC hN10 rfl s10_8) (zA hN10 rfl) rfl rfl hB5 rfl ?_
   intro w140 hB5 E141
   have := E141.size
   have hk128 := hk128.keepG (Gr.of E141) (Dj.one dj6)
   have hb := hb.step1 E141 zx
   refine zD rfl ?_
   refine zB ?_
   refine hK137 _ _ (wp_ret ?_)
   refine retN (rs := [.cell 8 28, .tmp 9]) (vs := [(.agg #[(.int .i64 2), (.int .i64 0), (.int .i64 0), (.string (bs [])), (.string (bs [])), (.string (bs ((ofK C K k i).getD r101 default).nm)), (.slice none 0 0)]), (.bool true)]) rfl hd10 ⟨⟨_, (zC hN10 rfl s10_8), run_loadA (cs := [(.int .i64 2), (.int .i64 0), (.int .i64 0), (.string (bs [])), (.string (bs [])), (.string (bs ((ofK C K k i).getD r101 default).nm)), (.slice none 0 0)]) agg28 rfl (fun j u hu => by rw [Nat.zero_add]; exact hB5.cell hu)⟩, ⟨(zA hN10 rfl), trivial⟩⟩ rfl ⟨_, rfl, ?_⟩
   exact ⟨hb, (XE.mk 2 0 0 [] [] (((ofK C K k i).getD r101 default).nm) (.slice none 0 0) []), true, rfl, .leaf rfl rfl, (fun _ hg => kind_col rfl rfl ((ofK_good hr101 zx hg).2 (by assumption))), n128, hk128, by omega⟩
  rw [c62]
  refine zc (zA hN10 rfl) (zA hN10 rfl) ?_
  refine zB ?_
  refine hK127 _ _ (wp_cond_false (zA hN10 rfl) (wp_skip (hK126 _ _ (zF fun K142 hK142 => ?_))))
  refine zH ?_
  refine zY agg28 rfl (zA hN10 rfl) hB120 ?_
  refine zZ size28 (zC hN10 rfl s10_8) (zA hN10 rfl) rfl rfl hB5 rfl ?_
  intro w145 hB5 E146
  have := E146.size
  have hk128 := hk128.keepG (Gr.of E146) (Dj.one dj6)
  have hb := hb.step1 E146 zx
  refine zD rfl ?_
  refine zB ?_
  refine hK142 _ _ (wp_ret ?_)
  refine retN (rs := [.cell 8 28, .tmp 9]) (vs := [(.agg #[(.int .i64 2), (.int .i64 0), (.int .i64 0), (.string (bs [])), (.string (bs ((ofK C K k i).getD r101 default).tb)), (.string (bs ((ofK C K k i).getD r101 default).nm)), (.slice none 0 0)]), (.bool true)]) rfl hd10 ⟨⟨_, (zC hN10 rfl s10_8), run_loadA (cs := [(.int .i64 2), (.int .i64 0), (.int .i64 0), (.string (bs [])), (.string (bs ((ofK C K k i).getD r101 default).tb)), (.string (bs ((ofK C K k i).getD r101 default).nm)), (.slice none 0 0)]) agg28 rfl (fun j u hu => by rw [Nat.zero_add]; exact hB5.cell hu)⟩, ⟨(zA hN10 rfl), trivial⟩⟩ rfl ⟨_, rfl, ?_⟩
  exact ⟨hb, (XE.mk 2 0 0 [] (((ofK C K k i).getD r101 default).tb) (((ofK C K k i).getD r101 default).nm) (.slice none 0 0) []), true, rfl, .leaf rfl rfl, (fun _ hg => kind_col rfl rfl ((ofK_good hr101 zx hg).1)), n128, hk128, by omega⟩
 refine zG (zA hN10 rfl) ?_
 refine zR (j := 3) (dj := 58) (b := true) rfl rfl rfl (zA hN10 rfl) rfl rfl ?_
 refine zR (j := 3) (dj := 58) (b := true) rfl rfl rfl (zA hN10 rfl) rfl rfl ?_
 refine zR (j := 3) (dj := 58) (b := true) rfl rfl rfl (zA hN10 rfl) rfl rfl ?_
 refine zR (j := 3) (dj := 58) (b := true) rfl rfl rfl (zA hN10 rfl) rfl rfl ?_
 refine zd (zA hN10 rfl) rfl ?_
 refine zB ?_
 refine hK127 _ _ (wp_cond_false (zA hN10 rfl) (wp_skip (hK126 _ _ (zF fun K147 hK147 => ?_))))
 refine zH ?_
 refine zY agg28 rfl (zA hN10 rfl) hB120 ?_
 refine zZ size28 (zC hN10 rfl s10_8) (zA hN10 rfl) rfl rfl hB5 rfl ?_
 intro w150 hB5 E151
 have := E151.size
 have hk128 := hk128.keepG (Gr.of E151) (Dj.one dj6)
 have hb := hb.step1 E151 zx
 refine zD rfl ?_
 refine zB ?_
 refine hK147 _ _ (wp_ret ?_)
 refine retN (rs := [.cell 8 28, .tmp 9]) (vs := [(.agg #[(.int .i64 2), (.int .i64 0), (.int .i64 0), (.string (bs [])), (.string (bs ((ofK C K k i).getD r101 default).tb)), (.string (bs ((ofK C K k i).getD r101 default).nm)), (.slice none 0 0)]), (.bool true)]) rfl hd10 ⟨⟨_, (zC hN10 rfl s10_8), run_loadA (cs := [(.int .i64 2), (.int .i64 0), (.int .i64 0), (.string (bs [])), (.string (bs ((ofK C K k i).getD r101 default).tb)), (.string (bs ((ofK C K k i).getD r101 default).nm)), (.slice none 0 0)]) agg28 rfl (fun j u hu => by rw [Nat.zero_add]; exact hB5.cell hu)⟩, ⟨(zA hN10 rfl), trivial⟩⟩ rfl ⟨_, rfl, ?_⟩
 exact ⟨hb, (XE.mk 2 0 0 [] (((ofK C K k i).getD r101 default).tb) (((ofK C K k i).getD r101 default).nm) (.slice none 0 0) []), true, rfl, .leaf rfl rfl, (fun _ hg => kind_col rfl rfl ((ofK_good hr101 zx hg).1)), n128, hk128, by omega⟩

end Go.Proofs.Ythflnkfghogaoaa

namespace Go.Gx
open Go.RowKit
section
variable {P : Program} {w : World} {L B L2 B2 n m : Nat} {v u : Value} {la lb : List UInt8}
end
end Go.Gx
