/- Walks, written by a program: what each function of the translation hands back. -/
import Derived.Lib.Bytealg
import Derived.Lib.UnsafeStr
import Derived.Test.YthflnkfghogaoaaGreatB3
set_option linter.unusedVariables false
set_option linter.unusedSimpArgs false

namespace Go.Proofs.YthflnkfghogaoaaGreat
open Go.Gx Go.RowKit
attribute [local irreducible] wpList wpStill Code.wp Calls

theorem refMay_ret (l : Lb) (v : Value) (w : World) (hl : l.length ≤ 9223372036854775807) (h : RdC w 0 w.heap.size 1 v l.length (l.map u16v)) : Ret Tryz.prog 5 #[v] w (fun v' w' => Below w.heap.size w w' ∧ v' = .bool (mayL l)) := by
 have hb := Below.refl w.heap.size w
 refine enter (N := 23) Tryz.func5 rfl rfl (by simp) fun a hN hd hA => ?_
 have c : a.tmps.getD 0 undef = v := hA 0 (by simp)
 clear hA
 refine zF fun _ a => ?_
 refine zH (zD rfl (zB (a _ _ (zF fun _ a => zF fun _ e => zH (zD rfl (zB (e _ _ (wp_block (loop_m (fun mz_ az_ w' => ∃ (i : Nat), mz_ = l.length - i ∧ (Sl az_ 0 v) ∧ (Sl az_ 3 (.int .i64 ((i : Nat) : Int))) ∧ (1 ≤ i ∧ (i ≤ l.length ∨ i = 1)) ∧ (Rise (l.take i)) ∧ (Below w.heap.size w w') ∧ (w.heap.size ≤ w'.heap.size)) _ hN hd ⟨1, rfl, (zL hN rfl c), (zU hN rfl).trans (congrArg (Value.int .i64) zx), ⟨Nat.le_refl _, .inr rfl⟩, rise_one, hb, (Nat.le_refl _)⟩ ?_)))))))))
 rintro _ m o c j ⟨i, rfl, g, k, hi, hr, hb, p⟩
 have := hb.size
 refine zF fun _ e => zF fun _ m => zH (zG (zC c rfl k) (zG (zC c rfl g) ?_))
 have h' := h.keep0 (zQ hb)
 refine op_len_rd Tryz.underlying24 (zA c rfl) h' (op_lss (zA c rfl) (zA c rfl) (fun o => ?_) (fun o => ?_))
 ·
  refine zB (m _ _ (wp_cond_true (zA c rfl) (wp_skip (e _ _ (zF fun _ e => wp_block (zF fun _ m => reg_still mixed zy ?_))))))
  intro p o
  obtain ⟨hb, _⟩ := yE hb o
  refine st_step rfl (fun _ o => zG (zC c rfl g) o) (st_step rfl (fun _ o => zG (zC c rfl k) o) (st_step rfl (fun _ o => op_sub (zA c rfl) rfl (sub64 zx) o) ?_))
  have h' := h.keep0 (zQ hb)
  refine st_index_rd slt24 (zA c rfl) h' (zA c rfl) zx zx ?_
  intro t s r q p
  refine st_step rfl (fun _ o => zN (v := (Value.int .u16 ((l.getD (i - 1) 0).toNat : Int))) one56 (zA c rfl) (by have := p 0 (.int .u16 ((l.getD (i - 1) 0).toNat : Int)) zz (el_u16 (i := (i - 1)) zx zx); simpa using this) o) (st_step rfl (fun _ o => zG (zC c rfl g) o) (st_step rfl (fun _ o => zG (zC c rfl k) o) (st_index_rd slt24 (zA c rfl) h' (zA c rfl) zx zx ?_)))
  intro r s t q p
  refine st_step rfl (fun _ o => zN (v := (Value.int .u16 ((l.getD i 0).toNat : Int))) one56 (zA c rfl) (by have := p 0 (.int .u16 ((l.getD i 0).toNat : Int)) zz (el_u16 (i := i) zx zx); simpa using this) o) (st_step rfl (fun _ o => op_cmp (b := (decide (((l.getD i 0).toNat : Int) ≤ ((l.getD (i - 1) 0).toNat : Int)))) (zA c rfl) (zA c rfl) (b_geq rfl) o) (st_nil (m _ _ (wp_cond_split (zA c rfl) (fun q => ?_) (fun q => ?_)))))
  ·
   have q := of_decide_eq_true q
   refine zF fun _ m => zH (zD rfl (zB (m _ _ (wp_ret (zb (zO (zO (zb (zO ( (ret1 rfl j (zA c rfl) ⟨_, rfl, ?_⟩)))))))))))
   exact ⟨hb, congrArg Value.bool (by rw [mayL, decide_eq_false (rise_bad (i := i) zx zx zx), Bool.false_and])⟩
  have q := of_decide_eq_false q
  refine wp_skip (e _ _ (zH (zG (zC c rfl k) (op_add (zA c rfl) rfl (add64 zx) (zD (zA c rfl) (zB ?_))))))
  -- round 7T 19F
  exact zg _ c j ⟨i + 1, rfl, (zL c rfl g), (zU c rfl).trans (congrArg (Value.int .i64) zx), zx, (rise_step zx zx hr zx), hb, zx⟩ zx
 refine zB (m _ _ (wp_cond_false (zA c rfl) (wp_exit (then_exit (then_exit (blk_hit (a _ _ (zF fun _ a => zH (zG (zC c rfl g) ?_)))))))))
 have h' := h.keep0 (zQ hb)
 refine op_len_rd Tryz.underlying24 (zA c rfl) h' (op_leq (zA c rfl) rfl (fun e => ?_) (fun e => ?_))
 ·
  refine zD (zA c rfl) (zB (a _ _ (wp_ret (ret1 rfl j (zA c rfl) ⟨_, rfl, ?_⟩))))
  have e : Rise l := by rwa [List.take_of_length_le zx] at hr
  exact ⟨hb, congrArg Value.bool (by rw [mayL, decide_eq_true e, Bool.true_and]; exact (decide_eq_true zx).symm)⟩
 refine zD (zA c rfl) (zB (a _ _ (wp_ret (ret1 rfl j (zA c rfl) ⟨_, rfl, ?_⟩))))
 have e : Rise l := by rwa [List.take_of_length_le zx] at hr
 exact ⟨hb, congrArg Value.bool (by rw [mayL, decide_eq_true e, Bool.true_and]; exact (decide_eq_false zx).symm)⟩

theorem cmpL_ret (l m : Lb) (v u : Value) (w : World) (hl : l.length ≤ 9223372036854775807) (hm : m.length ≤ 9223372036854775807) (h : RdC w 0 w.heap.size 1 v l.length (l.map u16v)) (h2 : RdC w 0 w.heap.size 1 u m.length (m.map u16v)) : Ret Tryz.prog 60 #[v, u] w (fun v' w' => Below w.heap.size w w' ∧ v' = .int .i64 (cmpL l m)) := by
 have hb := Below.refl w.heap.size w
 refine enter (N := 40) Tryz.func60 rfl rfl (by simp) fun a hN hd hA => ?_
 have c : a.tmps.getD 0 undef = v := hA 0 (by simp)
 have e : a.tmps.getD 1 undef = u := hA 1 (by simp)
 clear hA
 refine zF fun _ g => zH (zD rfl (zB (g _ _ (zF fun _ g => zF fun _ a => zH (zG (zC hN rfl c) ?_)))))
 have h' := h.keep0 (zQ hb)
 refine op_len_rd Tryz.underlying24 (zA hN rfl) h' (zG (zC hN rfl e) ?_)
 have j := h2.keep0 (zQ hb)
 refine op_len_rd Tryz.underlying24 (zA hN rfl) j (op_neq (zA hN rfl) (zA hN rfl) (fun k => ?_) (fun k => ?_))
 ·
  refine zB (a _ _ (wp_cond_true (zA hN rfl) (zF fun _ a => zF fun _ k => zH (zG (zC hN rfl c) (op_len_rd Tryz.underlying24 (zA hN rfl) h' (zG (zC hN rfl e) (op_len_rd Tryz.underlying24 (zA hN rfl) j (op_lss (zA hN rfl) (zA hN rfl) (fun o => ?_) (fun o => ?_)))))))))
  ·
   refine zB (k _ _ (wp_cond_true (zA hN rfl) (zF fun _ k => zH (zD rfl (zB (k _ _ (wp_ret (zO (zO ( (ret1 rfl hd (zA hN rfl) ⟨_, rfl, ?_⟩)))))))))))
   exact ⟨hb, congrArg (Value.int .i64) (by rw [cmpL, if_pos zx])⟩
  refine zB (k _ _ (wp_cond_false (zA hN rfl) (wp_skip (a _ _ (zF fun _ a => zH (zD rfl (zB (a _ _ (wp_ret (zO ( (ret1 rfl hd (zA hN rfl) ⟨_, rfl, ?_⟩))))))))))))
  exact ⟨hb, congrArg (Value.int .i64) (by rw [cmpL, if_neg zx, if_pos zx])⟩
 refine zB (a _ _ (wp_cond_false (zA hN rfl) (wp_skip (g _ _ (zF fun _ g => zF fun _ a => zH (zD rfl (zB (a _ _ (wp_block (loop_m (fun mz_ az_ w' => ∃ (i : Nat), mz_ = l.length - i ∧ (Sl az_ 0 v) ∧ (Sl az_ 1 u) ∧ (Sl az_ 5 (.int .i64 ((i : Nat) : Int))) ∧ (i ≤ l.length) ∧ (cmpG l m = cmpG (l.drop i) (m.drop i)) ∧ (Below w.heap.size w w') ∧ (w.heap.size ≤ w'.heap.size)) _ hN hd ⟨0, rfl, (zL hN rfl c), (zL hN rfl e), (zU hN rfl), Nat.zero_le _, rfl, hb, (Nat.le_refl _)⟩ ?_))))))))))
 rintro _ r s c p ⟨i, rfl, o, q, e, hi, he, hb, t⟩
 have := hb.size
 refine zF fun _ a => zF fun _ k => zH (zG (zC c rfl e) (zG (zC c rfl o) ?_))
 have h' := h.keep0 (zQ hb)
 refine op_len_rd Tryz.underlying24 (zA c rfl) h' (op_lss (zA c rfl) (zA c rfl) (fun r => ?_) (fun r => ?_))
 ·
  refine zB (k _ _ (wp_cond_true (zA c rfl) (wp_skip (a _ _ (zF fun _ a => wp_block (zF fun _ k => zF fun _ r => reg_still mixed zy ?_))))))
  intro t s
  obtain ⟨hb, _⟩ := yE hb s
  refine st_step rfl (fun _ s => zG (zC c rfl o) s) (st_step rfl (fun _ s => zG (zC c rfl e) s) ?_)
  have h' := h.keep0 (zQ hb)
  refine st_index_rd slt24 (zA c rfl) h' (zA c rfl) zx zx ?_
  intro z A y x t
  refine st_step rfl (fun _ s => zN (v := (Value.int .u16 ((l.getD i 0).toNat : Int))) one56 (zA c rfl) (by have := t 0 (.int .u16 ((l.getD i 0).toNat : Int)) zz (el_u16 (i := i) zx zx); simpa using this) s) (st_step rfl (fun _ s => zG (zC c rfl q) s) (st_step rfl (fun _ s => zG (zC c rfl e) s) ?_))
  have j := h2.keep0 (zQ hb)
  refine st_index_rd slt24 (zA c rfl) j (zA c rfl) zx zx ?_
  intro A x y z t
  refine st_step rfl (fun _ s => zN (v := (Value.int .u16 ((m.getD i 0).toNat : Int))) one56 (zA c rfl) (by have := t 0 (.int .u16 ((m.getD i 0).toNat : Int)) zz (el_u16 (i := i) zx zx); simpa using this) s) (st_step rfl (fun _ s => op_cmp (b := (decide (((l.getD i 0).toNat : Int) < ((m.getD i 0).toNat : Int)))) (zA c rfl) (zA c rfl) (b_lss rfl) s) (st_nil (r _ _ (wp_cond_split (zA c rfl) (fun x => ?_) (fun x => ?_)))))
  ·
   have x := of_decide_eq_true x
   refine zF fun _ r => zH (zD rfl (zB (r _ _ (wp_ret (zO (zb (zO (zO (zb (zO ( (ret1 rfl p (zA c rfl) ⟨_, rfl, ?_⟩))))))))))))
   exact ⟨hb, congrArg (Value.int .i64) (by rw [cmpL, if_neg zx, if_neg zx, he, cmpG_step zx zx, if_pos zx])⟩
  have x := of_decide_eq_false x
  refine wp_skip (k _ _ (zF fun _ k => reg_still mixed zy ?_))
  intro t r
  obtain ⟨hb, _⟩ := yE hb r
  refine st_step rfl (fun _ s => zG (zC c rfl o) s) (st_step rfl (fun _ s => zG (zC c rfl e) s) ?_)
  have h' := h.keep0 (zQ hb)
  refine st_index_rd slt24 (zA c rfl) h' (zA c rfl) zx zx ?_
  intro z y x t r
  refine st_step rfl (fun _ s => zN (v := (Value.int .u16 ((l.getD i 0).toNat : Int))) one56 (zA c rfl) (by have := r 0 (.int .u16 ((l.getD i 0).toNat : Int)) zz (el_u16 (i := i) zx zx); simpa using this) s) (st_step rfl (fun _ s => zG (zC c rfl q) s) (st_step rfl (fun _ s => zG (zC c rfl e) s) ?_))
  have j := h2.keep0 (zQ hb)
  refine st_index_rd slt24 (zA c rfl) j (zA c rfl) zx zx ?_
  intro y r x t j
  refine st_step rfl (fun _ s => zN (v := (Value.int .u16 ((m.getD i 0).toNat : Int))) one56 (zA c rfl) (by have := j 0 (.int .u16 ((m.getD i 0).toNat : Int)) zz (el_u16 (i := i) zx zx); simpa using this) s) (st_step rfl (fun _ s => op_cmp (b := (decide (((m.getD i 0).toNat : Int) < ((l.getD i 0).toNat : Int)))) (zA c rfl) (zA c rfl) (b_gtr rfl) s) (st_nil (k _ _ (wp_cond_split (zA c rfl) (fun r => ?_) (fun r => ?_)))))
  ·
   have r := of_decide_eq_true r
   refine zF fun _ k => zH (zD rfl (zB (k _ _ (wp_ret (zb (zO (zO (zb (zO ( (ret1 rfl p (zA c rfl) ⟨_, rfl, ?_⟩)))))))))))
   exact ⟨hb, congrArg (Value.int .i64) (by rw [cmpL, if_neg zx, if_neg zx, he, cmpG_step zx zx, if_neg zx, if_pos zx])⟩
  have r := of_decide_eq_false r
  refine wp_skip (a _ _ (zH (zG (zC c rfl e) (op_add (zA c rfl) rfl (add64 zx) (zD (zA c rfl) (zB ?_))))))
  -- round 10F 19T 30F 39F
  exact zg _ c p ⟨i + 1, rfl, (zL c rfl o), (zL c rfl q), (zU c rfl).trans (congrArg (Value.int .i64) zx), zx, (he.trans ((cmpG_step zx zx).trans (by rw [if_neg zx, if_neg zx]))), hb, zx⟩ zx
 refine zB (k _ _ (wp_cond_false (zA c rfl) (wp_exit (then_exit (then_exit (blk_hit (g _ _ (zF fun _ g => zH (zD rfl (zB (g _ _ (wp_ret (ret1 rfl p (zA c rfl) ⟨_, rfl, ?_⟩)))))))))))))
 exact ⟨hb, congrArg (Value.int .i64) (by rw [cmpL, if_neg zx, if_neg zx, he, cmpG_end zx zx])⟩

theorem sameL_ret (l m : Lb) (v u : Value) (w : World) (hl : l.length ≤ 9223372036854775807) (hm : m.length ≤ 9223372036854775807) (h : RdC w 0 w.heap.size 1 v l.length (l.map u16v)) (h2 : RdC w 0 w.heap.size 1 u m.length (m.map u16v)) : Ret Tryz.prog 35 #[v, u] w (fun v' w' => Below w.heap.size w w' ∧ v' = .bool (decide (l = m))) := by
 have hb := Below.refl w.heap.size w
 refine enter (N := 9) Tryz.func35 rfl rfl (by simp) fun a hN hd hA => ?_
 have b : a.tmps.getD 0 undef = v := hA 0 (by simp)
 have c : a.tmps.getD 1 undef = u := hA 1 (by simp)
 clear hA
 refine zF fun _ a => zH (zD rfl (zB (a _ _ (zF fun _ a => zH (zG (zC hN rfl b) (zG (zC hN rfl c) ?_))))))
 have h' := h.keep0 (zQ hb)
 have b := h2.keep0 (zQ hb)
 refine zj ok60 (cmpL_ret l m _ _ _ (by first | assumption | omega | (simp only [List.length_append, List.length_cons, List.length_nil, List.length_drop, List.length_take]; omega) | (dsimp only; omega) | decide | (simp [keyV, be8_len]; done)) (by first | assumption | omega | (simp only [List.length_append, List.length_cons, List.length_nil, List.length_drop, List.length_take]; omega) | (dsimp only; omega) | decide | (simp [keyV, be8_len]; done)) (show RdC w 0 w.heap.size 1 v l.length (l.map u16v) from by have hh : RdC w 0 w.heap.size 1 _ _ _ := (h'.mono (L' := 0) (B' := w.heap.size) (Nat.zero_le _) zx); first | exact hh | exact hh.cast (by first | omega | (simp; try omega)) (by first | rfl | simp [u16v])) (show RdC w 0 w.heap.size 1 u m.length (m.map u16v) from by have hh : RdC w 0 w.heap.size 1 _ _ _ := (b.mono (L' := 0) (B' := w.heap.size) (Nat.zero_le _) zx); first | exact hh | exact hh.cast (by first | omega | (simp; try omega)) (by first | rfl | simp [u16v]))) ⟨(zA hN rfl), ⟨(zA hN rfl), trivial⟩⟩ ?_
 rintro _ c ⟨b, rfl⟩
 have b := zQ b
 obtain ⟨hb, _⟩ := yE hb b
 refine op_eql (zA hN rfl) rfl (fun b => ?_) (fun b => ?_)
 ·
  refine zD (zA hN rfl) (zB (a _ _ (wp_ret (ret1 rfl hd (zA hN rfl) ⟨_, rfl, ?_⟩))))
  exact ⟨hb, congrArg Value.bool (decide_eq_true (cmpL_zero.1 b)).symm⟩
 refine zD (zA hN rfl) (zB (a _ _ (wp_ret (ret1 rfl hd (zA hN rfl) ⟨_, rfl, ?_⟩))))
 exact ⟨hb, congrArg Value.bool (decide_eq_false (fun hh => b (cmpL_zero.2 hh))).symm⟩

theorem rnormW_ret (l : Lb) (v : Value) (w : World) (hz : l.length ≤ 100000000) (hl : RdC w 0 w.heap.size 1 v l.length (l.map u16v)) : Ret Tryz.prog 33 #[v] w (fun v' w' => Below w.heap.size w w' ∧ ∃ u, v' = .tuple #[u, .int .i64 (normE l)] ∧ Own w' w.heap.size 56 1 u (normL l).length ((normL l).map u16v)) := by
 have hb := Below.refl w.heap.size w
 refine enter (N := 11) Tryz.func33 rfl rfl (by simp) fun a hN hd hA => ?_
 have b : a.tmps.getD 0 undef = v := hA 0 (by simp)
 clear hA
 refine zF fun _ a => zH (zD rfl (zD rfl (zB (a _ _ (zF fun _ a => zH (zG (zC hN rfl b) ?_))))))
 have hl' := hl.keep0 (zQ hb)
 refine zj ok59 (rallW_ret l _ _ (by first | assumption | omega | (simp only [List.length_append, List.length_cons, List.length_nil, List.length_drop, List.length_take]; omega) | (dsimp only; omega) | decide | (simp [keyV, be8_len]; done)) (show RdC w 0 w.heap.size 1 v l.length (l.map u16v) from by have hh : RdC w 0 w.heap.size 1 _ _ _ := (hl'.mono (L' := 0) (B' := w.heap.size) (Nat.zero_le _) zx); first | exact hh | exact hh.cast (by first | omega | (simp; try omega)) (by first | rfl | simp [u16v]))) ⟨(zA hN rfl), trivial⟩ ?_
 rintro e g ⟨c, b⟩
 have c := zQ c
 obtain ⟨hb, _⟩ := yE hb c
 have b := b.mono (base' := w.heap.size) zx
 refine zD (zA hN rfl) (zB (a _ _ (zF fun _ a => zF fun _ c => zH (zG (zA hN rfl) (op_len_rd Tryz.underlying24 (zA hN rfl) b.rdw (op_gtr (zA hN rfl) rfl (fun e => ?_) (fun e => ?_)))))))
 ·
  refine zB (c _ _ (wp_cond_true (zA hN rfl) (zF fun _ c => zH (zD rfl (zD rfl (zB (c _ _ (wp_ret (zO ( (ret2 rfl hd (zA hN rfl) (zA hN rfl) ⟨_, rfl, ?_⟩)))))))))))
  have e : 8 < (nrm l).length := by omega
  rw [normE_bad e, normL_bad e]
  exact ⟨hb, _, rfl, Own.nil _ _ _ _⟩
 refine zB (c _ _ (wp_cond_false (zA hN rfl) (wp_skip (a _ _ (zF fun _ a => zH (zG (zA hN rfl) (zD (zA hN rfl) (zD rfl (zB (a _ _ (wp_ret (ret2 rfl hd (zA hN rfl) (zA hN rfl) ⟨_, rfl, ?_⟩))))))))))))
 have e : ¬ 8 < (nrm l).length := by omega
 rw [normE_ok e, normL_ok e]
 exact ⟨hb, _, rfl, b⟩

theorem may1W_ret (x : UInt16) (m : Lb) (u : Value) (bc : Nat) (w : World) (hzm : m.length ≤ 1000000000000) (hbc : Bx w bc 24 [u]) (hm : RdC w 0 w.heap.size 1 u m.length (m.map u16v)) : Ret Tryz.prog 77 #[(.int .u16 (x.toNat : Int)), (ptr bc 0)] w (fun v' w' => Below w.heap.size w w' ∧ v' = .bool (inL x m)) := by
 have hb := Below.refl w.heap.size w
 refine enter (N := 8) Tryz.func77 rfl rfl (by simp) fun a hN hd hA => ?_
 have b : a.tmps.getD 0 undef = (.int .u16 (x.toNat : Int)) := hA 0 (by simp)
 have c : a.tmps.getD 1 undef = (ptr bc 0) := hA 1 (by simp)
 clear hA
 refine zF fun _ a => zH (zD rfl (zB (a _ _ (zF fun _ a => zH (zG (zC hN rfl b) (op_bslice (e := 56) (pv := [(0, (.int .u16 (x.toNat : Int)))]) (cs := [(.int .u16 (x.toNat : Int))]) ⟨rfl, (zA hN rfl), trivial⟩ zy ?_))))))
 intro b j k l g h
 obtain ⟨hb, _⟩ := yE hb h
 have hbc := hbc.keep0 h
 refine zN one24 (zC hN rfl c) (hbc.cell rfl) ?_
 have hm' := hm.keep0 (zQ hb)
 refine zj ok78 (flowsW_ret [x] m _ _ _ (by first | assumption | omega | (simp only [List.length_append, List.length_cons, List.length_nil, List.length_drop, List.length_take]; omega) | (dsimp only; omega) | decide | (simp [keyV, be8_len]; done)) (by first | assumption | omega | (simp only [List.length_append, List.length_cons, List.length_nil, List.length_drop, List.length_take]; omega) | (dsimp only; omega) | decide | (simp [keyV, be8_len]; done)) (show RdC b 0 b.heap.size 1 (.slice (some ⟨j, 0, none⟩) 1 1) [x].length ([x].map u16v) from by have hh : RdC b 0 b.heap.size 1 _ _ _ := ((RdC.ofBx (sz := 1) (n := 1) g rfl zz).mono (L' := 0) (B' := b.heap.size) (Nat.zero_le _) (by have := g.lt; omega)); first | exact hh | exact hh.cast (by first | omega | (simp; try omega)) (by first | rfl | simp [u16v])) (show RdC b 0 b.heap.size 1 u m.length (m.map u16v) from by have hh : RdC b 0 b.heap.size 1 _ _ _ := (hm'.mono (L' := 0) (B' := b.heap.size) (Nat.zero_le _) zx); first | exact hh | exact hh.cast (by first | omega | (simp; try omega)) (by first | rfl | simp [u16v]))) ⟨(zA hN rfl), ⟨(zA hN rfl), trivial⟩⟩ ?_
 rintro _ c ⟨b, rfl⟩
 have b := zQ b
 obtain ⟨hb, _⟩ := yE hb b
 refine zD (zA hN rfl) (zB (a _ _ (wp_ret (ret1 rfl hd (zA hN rfl) ⟨_, rfl, ?_⟩))))
 exact ⟨hb, congrArg Value.bool (flows_one x m)⟩

theorem oallW_ret (l : Lb) (v : Value) (m : Lb) (u : Value) (bc : Nat) (w : World) (hz : l.length ≤ 1000000000000) (hl : RdC w 0 w.heap.size 1 v l.length (l.map u16v)) (hzm : m.length ≤ 1000000000000) (hbc : Bx w bc 24 [u]) (hm : RdC w 0 w.heap.size 1 u m.length (m.map u16v)) : Ret Tryz.prog 76 #[v, (.func (.func 77) #[] #[(ptr bc 0)])] w (fun v' w' => Below w.heap.size w w' ∧ v' = .bool (flowsL l m)) := by
 have hbc_lt := hbc.lt
 have hb := Below.refl w.heap.size w
 refine enter (N := 18) Tryz.func76 rfl rfl (by simp) fun a hN hd hA => ?_
 have b : a.tmps.getD 0 undef = v := hA 0 (by simp)
 have c : a.tmps.getD 1 undef = (.func (.func 77) #[] #[(ptr bc 0)]) := hA 1 (by simp)
 clear hA
 refine zF fun _ e => zH (zD rfl (zB (e _ _ (zF fun _ e => zF fun _ a => zH (zG (zC hN rfl b) ?_)))))
 have hl' := hl.keep0 (zQ hb)
 refine op_len_rd Tryz.underlying23 (zA hN rfl) hl' (zG rfl (zB (a _ _ (wp_block (loop_m (fun mz_ az_ w' => ∃ (i : Nat), mz_ = l.length - i ∧ (Sl az_ 1 (.func (.func 77) #[] #[(ptr bc 0)])) ∧ (Sl az_ 7 v) ∧ (Sl az_ 8 (.int .i64 ((l.length : Nat) : Int))) ∧ (Sl az_ 9 (.int .i64 ((i : Nat) : Int))) ∧ (i ≤ l.length) ∧ ((l.take i).all (fun x => inL x m) = true) ∧ (Below w.heap.size w w') ∧ (w.heap.size ≤ w'.heap.size) ∧ (Bx w' bc 24 [u])) _ hN hd ⟨0, rfl, (zL hN rfl c), (zU hN rfl), (zU hN rfl), (zU hN rfl), Nat.zero_le _, rfl, hb, (Nat.le_refl _), hbc⟩ ?_)))))
 rintro _ p c b g ⟨i, rfl, j, o, k, h, hi, hall, hb, q, hbc⟩
 have := hb.size
 refine zF fun _ a => zH (op_lss (zC b rfl h) (zC b rfl k) (fun p => ?_) (fun p => ?_))
 ·
  refine zB (a _ _ (zF fun _ a => wp_cond_true (zA b rfl) (wp_skip (a _ _ (zF fun _ a => wp_block (zF fun _ p => zH ?_))))))
  have hl' := hl.keep0 (zQ hb)
  refine zh slt23 (zC b rfl o) hl' (zC b rfl h) zx zx ?_
  intro t r s y q
  refine zN (v := (Value.int .u16 ((l.getD i 0).toNat : Int))) one56 (zA b rfl) (by have := q 0 (.int .u16 ((l.getD i 0).toNat : Int)) zz (el_u16 (i := i) zx zx); simpa using this) (zD (zA b rfl) (zB (p _ _ (zF fun _ p => zH (zG (zC b rfl j) (zG (zA b rfl) ?_))))))
  have hm' := hm.keep0 (zQ hb)
  refine op_fnv (fs := []) (vs := [(.int .u16 ((l.getD i 0).toNat : Int))]) (cs := [(ptr bc 0)]) (zA b rfl) ok77 ⟨(zA b rfl), trivial⟩ (may1W_ret (l.getD i 0) m _ _ _ zx hbc (show RdC c 0 c.heap.size 1 u m.length (m.map u16v) from by have hh : RdC c 0 c.heap.size 1 _ _ _ := (hm'.mono (L' := 0) (B' := c.heap.size) (Nat.zero_le _) zx); first | exact hh | exact hh.cast (by first | omega | (simp; try omega)) (by first | rfl | simp [u16v]))) ?_
  rintro _ q ⟨c, rfl⟩
  have c := zQ c
  obtain ⟨hb, _⟩ := yE hb c
  have hbc := hbc.keep0 c
  rcases Bool.eq_false_or_eq_true ((inL (l.getD i 0) m)) with c | c
  ·
   rw [c]
   refine op_not (zA b rfl) (zB (p _ _ (wp_cond_false (zA b rfl) (wp_skip (a _ _ (zH (op_add (zC b rfl h) rfl (add64 zx) (zG (zA b rfl) (zB ?_)))))))))
   -- round 10T 15T
   exact zg _ b g ⟨i + 1, rfl, (zL b rfl j), (zL b rfl o), (zL b rfl k), (zU b rfl).trans (congrArg (Value.int .i64) zx), zx, (all_step zx hall c), hb, zx, hbc⟩ zx
  rw [c]
  refine op_not (zA b rfl) (zB (p _ _ (wp_cond_true (zA b rfl) (zF fun _ p => zH (zD rfl (zB (p _ _ (wp_ret (zb (zO (zO (zb (zO ( (ret1 rfl g (zA b rfl) ⟨_, rfl, ?_⟩)))))))))))))))
  exact ⟨hb, congrArg Value.bool (all_f (i := i) zx c).symm⟩
 refine zB (a _ _ (zF fun _ a => wp_cond_false (zA b rfl) (wp_exit (then_exit (then_exit (blk_hit (e _ _ (zF fun _ e => zH (zD rfl (zB (e _ _ (wp_ret (ret1 rfl g (zA b rfl) ⟨_, rfl, ?_⟩)))))))))))))
 exact ⟨hb, congrArg Value.bool (all_end (i := i) zx hall).symm⟩

theorem rownW_ret (o l : Lb) (x v : Value) (w : World) (hzo : o.length ≤ 100000000) (hz : l.length ≤ 100000000) (ho : RdC w 0 w.heap.size 1 x o.length (o.map u16v)) (hl : RdC w 0 w.heap.size 1 v l.length (l.map u16v)) : Ret Tryz.prog 31 #[x, v] w (fun v' w' => Below w.heap.size w w' ∧ v' = .int .i64 (ownE o l)) := by
 have hb := Below.refl w.heap.size w
 refine enter (N := 19) Tryz.func31 rfl rfl (by simp) fun a hN hd hA => ?_
 have b : a.tmps.getD 0 undef = x := hA 0 (by simp)
 have c : a.tmps.getD 1 undef = v := hA 1 (by simp)
 clear hA
 refine zF fun _ a => zH (zD rfl (zB (a _ _ (zF fun _ a => zH (zG (zC hN rfl c) ?_)))))
 have hl' := hl.keep0 (zQ hb)
 refine zj ok33 (rnormW_ret l _ _ (by first | assumption | omega | (simp only [List.length_append, List.length_cons, List.length_nil, List.length_drop, List.length_take]; omega) | (dsimp only; omega) | decide | (simp [keyV, be8_len]; done)) (show RdC w 0 w.heap.size 1 v l.length (l.map u16v) from by have hh : RdC w 0 w.heap.size 1 _ _ _ := (hl'.mono (L' := 0) (B' := w.heap.size) (Nat.zero_le _) zx); first | exact hh | exact hh.cast (by first | omega | (simp; try omega)) (by first | rfl | simp [u16v]))) ⟨(zA hN rfl), trivial⟩ ?_
 rintro _ c ⟨e, h, rfl, g⟩
 have e := zQ e
 obtain ⟨hb, _⟩ := yE hb e
 have g := g.mono (base' := w.heap.size) zx
 have e := normL_len l
 refine zG (zA hN rfl) ?_
 refine zW (zA hN rfl) rfl (zW (zA hN rfl) rfl (zD (zA hN rfl) (zD (zA hN rfl) (zB (a _ _ (zF fun _ a => zF fun _ e => zH (zG (zA hN rfl) (op_neq (zA hN rfl) rfl (fun j => ?_) (fun j => ?_)))))))))
 ·
  refine zB (e _ _ (wp_cond_true (zA hN rfl) (zF fun _ e => zH (zG (zA hN rfl) (zD (zA hN rfl) (zB (e _ _ (wp_ret (zO ( (ret1 rfl hd (zA hN rfl) ⟨_, rfl, ?_⟩)))))))))))
  exact ⟨hb, congrArg (Value.int .i64) (ownE_bad zx).symm⟩
 refine zB (e _ _ (wp_cond_false (zA hN rfl) (wp_skip (a _ _ (zF fun _ a => zF fun _ e => zH (zG (zA hN rfl) (zG (zC hN rfl b) ?_)))))))
 have ho' := ho.keep0 (zQ hb)
 refine zj ok58 (rflowsW_ret (normL l) o _ _ _ (by first | assumption | omega | (simp only [List.length_append, List.length_cons, List.length_nil, List.length_drop, List.length_take]; omega) | (dsimp only; omega) | decide | (simp [keyV, be8_len]; done)) (by first | assumption | omega | (simp only [List.length_append, List.length_cons, List.length_nil, List.length_drop, List.length_take]; omega) | (dsimp only; omega) | decide | (simp [keyV, be8_len]; done)) (show RdC c 0 c.heap.size 1 h (normL l).length ((normL l).map u16v) from by have hh : RdC c 0 c.heap.size 1 _ _ _ := (g.rdw.mono (L' := 0) (B' := c.heap.size) (Nat.zero_le _) zx); first | exact hh | exact hh.cast (by first | omega | (simp; try omega)) (by first | rfl | simp [u16v])) (show RdC c 0 c.heap.size 1 x o.length (o.map u16v) from by have hh : RdC c 0 c.heap.size 1 _ _ _ := (ho'.mono (L' := 0) (B' := c.heap.size) (Nat.zero_le _) zx); first | exact hh | exact hh.cast (by first | omega | (simp; try omega)) (by first | rfl | simp [u16v]))) ⟨(zA hN rfl), ⟨(zA hN rfl), trivial⟩⟩ ?_
 rintro _ c ⟨b, rfl⟩
 have b := zQ b
 obtain ⟨hb, _⟩ := yE hb b
 rcases Bool.eq_false_or_eq_true ((flowsL (normL l) o)) with b | b
 ·
  rw [b]
  refine op_not (zA hN rfl) (zB (e _ _ (wp_cond_false (zA hN rfl) (wp_skip (a _ _ (zF fun _ a => zH (zD rfl (zB (a _ _ (wp_ret (ret1 rfl hd (zA hN rfl) ⟨_, rfl, ?_⟩)))))))))))
  exact ⟨hb, congrArg (Value.int .i64) (ownE_ok zx b).symm⟩
 rw [b]
 refine op_not (zA hN rfl) (zB (e _ _ (wp_cond_true (zA hN rfl) (zF fun _ e => zH (zD rfl (zB (e _ _ (wp_ret (zO ( (ret1 rfl hd (zA hN rfl) ⟨_, rfl, ?_⟩)))))))))))
 exact ⟨hb, congrArg (Value.int .i64) (ownE_not zx b).symm⟩
open Go.Sort (insertionSort insOuter insInner swp siftDown heapSort heapBuild heapPop scanUp scanDown partition partLoop partitionEqual partEqLoop scanSorted partialIns bitsLen partialInsertionSort shiftDown shiftUp SortedIn reverseRange reverseLoop fixDown fixUp)
theorem pdqS_ret (d : Ar) (v : Value) (n base a b lim : Nat) (w : World) (hd : d.size = n) (hn : n ≤ 12) (hab : a ≤ b) (hbn : b ≤ n) (hB : Go.Sort.Below ltT a b d) (O : Own w base 56 1 v n (d.toList.map u16v)) : Ret Tryz.prog 91 #[v, (.int .i64 ((a : Nat) : Int)), (.int .i64 ((b : Nat) : Int)), (.int .i64 ((lim : Nat) : Int))] w (fun v' w' => w.grownBy w' v.ownBlock ∧ v' = .tuple #[] ∧ ∃ d', PI a b d d' ∧ SortedIn ltT a b d' ∧ Own w' base 56 1 v n (d'.toList.map u16v)) := by
 have hb := grown_refl w v.ownBlock
 refine enter (N := 134) Tryz.func91 rfl rfl (by simp) fun c hN hd hA => ?_
 have e : c.tmps.getD 0 undef = v := hA 0 (by simp)
 have g : c.tmps.getD 1 undef = (.int .i64 ((a : Nat) : Int)) := hA 1 (by simp)
 have h : c.tmps.getD 2 undef = (.int .i64 ((b : Nat) : Int)) := hA 2 (by simp)
 have j : c.tmps.getD 3 undef = (.int .i64 ((lim : Nat) : Int)) := hA 3 (by simp)
 clear hA
 refine zF fun _ c => zH (zD rfl (zB (c _ _ (zF fun _ c => zH (zD rfl (zB (c _ _ (wp_block (loop_m (fun mz_ az_ w' => ∃ (x y lm : Nat) (wb wp : Bool) (dk : Ar), mz_ = (y - x) ∧ (Sl az_ 0 v) ∧ (Sl az_ 1 (.int .i64 ((x : Nat) : Int))) ∧ (Sl az_ 2 (.int .i64 ((y : Nat) : Int))) ∧ (Sl az_ 3 (.int .i64 ((lm : Nat) : Int))) ∧ (Sl az_ 8 (.bool wb)) ∧ (Sl az_ 9 (.bool wp)) ∧ (dk.size = n) ∧ (Inv a b x y d dk) ∧ (w.grownBy w' v.ownBlock) ∧ (w.heap.size ≤ w'.heap.size) ∧ (Own w' base 56 1 v n (dk.toList.map u16v))) _ hN hd ⟨a, b, lim, true, true, _, rfl, (zL hN rfl e), (zL hN rfl g).trans (congrArg (Value.int .i64) zx), (zL hN rfl h).trans (congrArg (Value.int .i64) zx), (zL hN rfl j).trans (congrArg (Value.int .i64) zx), (zU hN rfl), (zU hN rfl), (by first | assumption | (simp only [Array.size_setIfInBounds, swp_sz, siftDown_size]; assumption)), (Inv.start hB hab zx), hb, (Nat.le_refl _), O⟩ ?_)))))))))
 rintro _ m o e k ⟨x, y, lm, wb, wp, dk, rfl, l, h, g, t, q, p, hdk, hinv, hb, s, j⟩
 have := hb.size
 refine wp_block (zF fun _ c => zH ?_)
 have hrg := hinv.rng
 have hzk := hinv.sz
 refine zG (zC e rfl g) ?_
 refine zG (zC e rfl h) (op_sub (r := (((y - x) : Nat) : Int)) (zA e rfl) (zA e rfl) (by rw [IntKind.wrap_i64]; omega) (zD (zA e rfl) (zB (c _ _ (zF fun _ c => zF fun _ m => zH (zG (zA e rfl) (op_cmp (b := true) (zA e rfl) rfl (b_leq (decide_eq_true zx)) (zB ?_))))))))
 refine m _ _ (wp_cond_true (zA e rfl) (zF fun _ m => zH (zG (zC e rfl l) (zG (zC e rfl h) (zG (zC e rfl g) (zj ok94 (insSort_ret dk _ _ _ x y _ (by first | assumption | (simp only [Array.size_setIfInBounds, swp_sz, siftDown_size]; assumption)) zx j zx zx) ⟨(zA e rfl), ⟨(zA e rfl), ⟨(zA e rfl), trivial⟩⟩⟩ ?_))))))
 rintro _ g ⟨c, rfl, e⟩
 have := c.size
 have hb := grow_stepX hb c rfl
 refine zB (m _ _ (wp_ret (zO (zb (zO (zb ( (ret0 rfl k  ⟨_, rfl, ?_⟩))))))))
 exact ⟨hb, rfl, _, hinv.ins.1, hinv.ins.2, e⟩

theorem sortS_ret (d : Ar) (v : Value) (n base : Nat) (z0 : Nat) (w : World) (hd : d.size = n) (hn : n ≤ 4000000000000000000) (O : Own w base 56 1 v n (d.toList.map u16v)) (hn12 : n ≤ 12) : Ret Tryz.prog 86 #[v] w (fun v' w' => w.grownBy w' v.ownBlock ∧ v' = .tuple #[] ∧ ∃ d', PI 0 n d d' ∧ SortedIn ltT 0 n d' ∧ Own w' base 56 1 v n (d'.toList.map u16v)) := by
 have hb := grown_refl w v.ownBlock
 refine enter (N := 11) Tryz.func86 rfl rfl (by simp) fun a hN hd hA => ?_
 have b : a.tmps.getD 0 undef = v := hA 0 (by simp)
 clear hA
 refine zF fun _ a => ?_
 refine zH (zG (zC hN rfl b) (op_len_rd Tryz.underlying23 (zA hN rfl) O.rdw (zD (zA hN rfl) (zB (a _ _ (zH (zG (zC hN rfl b) (zG (zA hN rfl) (zG (zA hN rfl) (op_conv (r := ((n : Nat) : Int)) (zA hN rfl) us3 Tryz.underlying135 (wrap_u64 zx) ?_))))))))))
 have hbl : bitsLen n ≤ 62 := (Go.Sort.bitsLen_le_iff n 62).2 zx
 refine zj ok92 (lenW_ret n _ zx) ⟨(zA hN rfl), trivial⟩ ?_
 rintro _ b ⟨a, rfl⟩
 have a := zQ a
 have := a.size
 have O := O.keep0 a
 have hb := grow_step0 hb a
 refine zj ok91 (pdqS_ret d _ _ _ 0 n ((bitsLen n)) _ (by first | assumption | (simp only [Array.size_setIfInBounds, swp_sz, siftDown_size]; assumption)) zx zx zx (.inl rfl) O) ⟨(zA hN rfl), ⟨rfl, ⟨(zA hN rfl), ⟨(zA hN rfl), trivial⟩⟩⟩⟩ ?_
 rintro _ h ⟨a, rfl, g, e, c, b⟩
 have := a.size
 have hb := grow_stepX hb a rfl
 refine zB (end_ret (ret0 rfl hd  ⟨_, rfl, ?_⟩))
 exact ⟨hb, rfl, _, e, c, b⟩

theorem sortedS_ret (l : Lb) (v : Value) (w : World) (hz : l.length ≤ 12) (hl : RdC w 0 w.heap.size 1 v l.length (l.map u16v)) : Ret Tryz.prog 82 #[v] w (fun v' w' => Below w.heap.size w w' ∧ Own w' w.heap.size 56 1 v' (nrm l).length ((nrm l).map u16v)) := by
 have hb := Below.refl w.heap.size w
 refine enter (N := 10) Tryz.func82 rfl rfl (by simp) fun a hN hd hA => ?_
 have b : a.tmps.getD 0 undef = v := hA 0 (by simp)
 clear hA
 refine zF fun _ a => zH (zD rfl (zB (a _ _ (zF fun _ a => zH (zG (zC hN rfl b) ?_)))))
 have hl' := hl.keep0 (zQ hb)
 refine zj ok69 (cloneW_ret l _ _ zx (show RdC w 0 w.heap.size 1 v l.length (l.map u16v) from by have hh : RdC w 0 w.heap.size 1 _ _ _ := (hl'.mono (L' := 0) (B' := w.heap.size) (Nat.zero_le _) zx); first | exact hh | exact hh.cast (by first | omega | (simp; try omega)) (by first | rfl | simp [u16v]))) ⟨(zA hN rfl), trivial⟩ ?_
 rintro g e ⟨c, b⟩
 have c := zQ c
 obtain ⟨hb, _⟩ := yE hb c
 have b := b.mono (base' := w.heap.size) zx
 refine zD (zA hN rfl) (zB (a _ _ (zF fun _ a => zH (zG (zA hN rfl) (zj ok86 (sortS_ret l.toArray _ l.length _ 0 _ (by simp) zx b zx) ⟨(zA hN rfl), trivial⟩ ?_)))))
 rintro _ k ⟨g, rfl, c, e, j, h⟩
 have := g.size
 have hb := below_stepO hb b g hb.size zx
 have hsn : dd c.toList = nrm l := sort_nrm (by simp) e j
 have hsz : c.size = l.length := (PI.sz e).trans (by simp)
 refine zB (a _ _ (zF fun _ a => zH (zG (zA hN rfl) (zj ok87 (compW_ret c _ l.length _ 0 _ (by first | assumption | (simp only [Array.size_setIfInBounds, swp_sz, siftDown_size]; assumption)) zx h) ⟨(zA hN rfl), trivial⟩ ?_))))
 rintro j e ⟨b, g, c⟩
 have := b.size
 have hb := below_stepO hb h b hb.size zx
 refine zD (zA hN rfl) (zB (a _ _ (wp_ret (ret1 rfl hd (zA hN rfl) ⟨_, rfl, ?_⟩))))
 rw [hsn] at c
 exact ⟨hb, c⟩

theorem normS_ret (l : Lb) (v : Value) (w : World) (hz : l.length ≤ 12) (hl : RdC w 0 w.heap.size 1 v l.length (l.map u16v)) : Ret Tryz.prog 57 #[v] w (fun v' w' => Below w.heap.size w w' ∧ ∃ u, v' = .tuple #[u, .int .i64 (normE l)] ∧ Own w' w.heap.size 56 1 u (normL l).length ((normL l).map u16v)) := by
 have hb := Below.refl w.heap.size w
 refine enter (N := 11) Tryz.func57 rfl rfl (by simp) fun a hN hd hA => ?_
 have b : a.tmps.getD 0 undef = v := hA 0 (by simp)
 clear hA
 refine zF fun _ a => zH (zD rfl (zD rfl (zB (a _ _ (zF fun _ a => zH (zG (zC hN rfl b) ?_))))))
 have hl' := hl.keep0 (zQ hb)
 refine zj ok82 (sortedS_ret l _ _ (by first | assumption | omega | (simp only [List.length_append, List.length_cons, List.length_nil, List.length_drop, List.length_take]; omega) | (dsimp only; omega) | decide | (simp [keyV, be8_len]; done)) (show RdC w 0 w.heap.size 1 v l.length (l.map u16v) from by have hh : RdC w 0 w.heap.size 1 _ _ _ := (hl'.mono (L' := 0) (B' := w.heap.size) (Nat.zero_le _) zx); first | exact hh | exact hh.cast (by first | omega | (simp; try omega)) (by first | rfl | simp [u16v]))) ⟨(zA hN rfl), trivial⟩ ?_
 rintro e g ⟨c, b⟩
 have c := zQ c
 obtain ⟨hb, _⟩ := yE hb c
 have b := b.mono (base' := w.heap.size) zx
 refine zD (zA hN rfl) (zB (a _ _ (zF fun _ a => zF fun _ c => zH (zG (zA hN rfl) (op_len_rd Tryz.underlying23 (zA hN rfl) b.rdw (op_gtr (zA hN rfl) rfl (fun e => ?_) (fun e => ?_)))))))
 ·
  refine zB (c _ _ (wp_cond_true (zA hN rfl) (zF fun _ c => zH (zD rfl (zD rfl (zB (c _ _ (wp_ret (zO ( (ret2 rfl hd (zA hN rfl) (zA hN rfl) ⟨_, rfl, ?_⟩)))))))))))
  have e : 8 < (nrm l).length := by omega
  rw [normE_bad e, normL_bad e]
  exact ⟨hb, _, rfl, Own.nil _ _ _ _⟩
 refine zB (c _ _ (wp_cond_false (zA hN rfl) (wp_skip (a _ _ (zF fun _ a => zH (zG (zA hN rfl) (zD (zA hN rfl) (zD rfl (zB (a _ _ (wp_ret (ret2 rfl hd (zA hN rfl) (zA hN rfl) ⟨_, rfl, ?_⟩))))))))))))
 have e : ¬ 8 < (nrm l).length := by omega
 rw [normE_ok e, normL_ok e]
 exact ⟨hb, _, rfl, b⟩

theorem omayS_ret (o l : Lb) (x v : Value) (w : World) (hzo : o.length ≤ 100000000) (hz : l.length ≤ 12) (ho : RdC w 0 w.heap.size 1 x o.length (o.map u16v)) (hl : RdC w 0 w.heap.size 1 v l.length (l.map u16v)) : Ret Tryz.prog 53 #[x, v] w (fun v' w' => Below w.heap.size w w' ∧ v' = .int .i64 (ownE o l)) := by
 have hb := Below.refl w.heap.size w
 refine enter (N := 21) Tryz.func53 rfl rfl (by simp) fun a hN hd hA => ?_
 have b : a.tmps.getD 0 undef = x := hA 0 (by simp)
 have c : a.tmps.getD 1 undef = v := hA 1 (by simp)
 clear hA
 refine zF fun _ a => zH ?_
 have ho' := ho.keep0 (zQ hb)
 refine op_box (cs := [x]) (zC hN rfl b) (RdC.cells ho') ?_
 intro b h k j e g
 obtain ⟨hb, _⟩ := yE hb g
 refine zD rfl (zB (a _ _ (zF fun _ a => zH (zG (zC hN rfl c) ?_))))
 have hl' := hl.keep0 (zQ hb)
 refine zj ok57 (normS_ret l _ _ (by first | assumption | omega | (simp only [List.length_append, List.length_cons, List.length_nil, List.length_drop, List.length_take]; omega) | (dsimp only; omega) | decide | (simp [keyV, be8_len]; done)) (show RdC b 0 b.heap.size 1 v l.length (l.map u16v) from by have hh : RdC b 0 b.heap.size 1 _ _ _ := (hl'.mono (L' := 0) (B' := b.heap.size) (Nat.zero_le _) zx); first | exact hh | exact hh.cast (by first | omega | (simp; try omega)) (by first | rfl | simp [u16v]))) ⟨(zA hN rfl), trivial⟩ ?_
 rintro _ b ⟨c, j, rfl, g⟩
 have c := zQ c
 obtain ⟨hb, _⟩ := yE hb c
 have e := e.keep0 c
 have g := g.mono (base' := w.heap.size) zx
 have c := normL_len l
 refine zG (zA hN rfl) (zW (zA hN rfl) rfl ?_)
 refine zW (zA hN rfl) rfl (zD (zA hN rfl) (zD (zA hN rfl) (zB (a _ _ (zF fun _ a => wp_block (zF fun _ c => zH (zG (zA hN rfl) (op_neq (zA hN rfl) rfl (fun k => ?_) (fun k => ?_)))))))))
 ·
  refine zD (zA hN rfl) (zB (c _ _ (wp_cond_true (zA hN rfl) (zF fun _ c => zH (zG (zA hN rfl) (zD (zA hN rfl) (zB (c _ _ (wp_ret (zb (zO ( (ret1 rfl hd (zA hN rfl) ⟨_, rfl, ?_⟩)))))))))))))
  exact ⟨hb, congrArg (Value.int .i64) (ownE_bad zx).symm⟩
 refine zD (zA hN rfl) (zB (c _ _ (wp_cond_false (zA hN rfl) (zF fun _ c => zH (zG (zA hN rfl) (op_mkfn (cv := [(ptr h 0)]) ⟨(zA hN rfl), trivial⟩ ?_))))))
 have ho' := ho.keep0 (zQ hb)
 refine zj ok76 (oallW_ret (normL l) _ o _ _ _ zx (show RdC b 0 b.heap.size 1 j (normL l).length ((normL l).map u16v) from by have hh : RdC b 0 b.heap.size 1 _ _ _ := (g.rdw.mono (L' := 0) (B' := b.heap.size) (Nat.zero_le _) zx); first | exact hh | exact hh.cast (by first | omega | (simp; try omega)) (by first | rfl | simp [u16v])) zx e (show RdC b 0 b.heap.size 1 x o.length (o.map u16v) from by have hh : RdC b 0 b.heap.size 1 _ _ _ := (ho'.mono (L' := 0) (B' := b.heap.size) (Nat.zero_le _) zx); first | exact hh | exact hh.cast (by first | omega | (simp; try omega)) (by first | rfl | simp [u16v]))) ⟨(zA hN rfl), ⟨(zA hN rfl), trivial⟩⟩ ?_
 rintro _ e ⟨b, rfl⟩
 have b := zQ b
 obtain ⟨hb, _⟩ := yE hb b
 rcases Bool.eq_false_or_eq_true ((flowsL (normL l) o)) with b | b
 ·
  rw [b]
  refine op_not (zA hN rfl) (zD (zA hN rfl) (zB (c _ _ (wp_cond_false (zA hN rfl) (wp_skip (a _ _ (zF fun _ a => zH (zD rfl (zB (a _ _ (wp_ret (ret1 rfl hd (zA hN rfl) ⟨_, rfl, ?_⟩))))))))))))
  exact ⟨hb, congrArg (Value.int .i64) (ownE_ok zx b).symm⟩
 rw [b]
 refine op_not (zA hN rfl) (zD (zA hN rfl) (zB (c _ _ (wp_cond_true (zA hN rfl) (zF fun _ c => zH (zD rfl (zB (c _ _ (wp_ret (zb (zO ( (ret1 rfl hd (zA hN rfl) ⟨_, rfl, ?_⟩)))))))))))))
 exact ⟨hb, congrArg (Value.int .i64) (ownE_not zx b).symm⟩

theorem IdxV {L : List DVw} {v : Value} {p : DVw → Bool} {w : World} (hl : RdC w 0 w.heap.size 15 v L.length (L.flatMap cellsW)) {g : Nat} {fs cs : List Value} (hokg : callOk Tryz.prog g = true) (hf : ∀ i, i < L.length → ∀ w1, Below w.heap.size w w1 → Ret Tryz.prog g (fs ++ [(Value.agg #[(Value.string (bs (L.getD i default).nm)), (L.getD i default).sv, (Value.int .i64 (L.getD i default).act.f.kind), (Value.string (bs (L.getD i default).act.f.tb)), (Value.string (bs (L.getD i default).act.f.nm)), (L.getD i default).act.f.cv, (L.getD i default).act.f.gv, (L.getD i default).act.f.vv, (L.getD i default).act.f.iv, (Value.string (bs (L.getD i default).act.f.join)), (L.getD i default).act.f.ov, (L.getD i default).act.f.wv, (L.getD i default).act.f.rv, (Value.bool (L.getD i default).act.f.desc), (L.getD i default).act.nv])] ++ cs).toArray w1 (fun v' w' => Below w1.heap.size w1 w' ∧ v' = .bool (p (L.getD i default)))) : Ret Tryz.prog 79 #[v, (Value.func (.func g) fs.toArray cs.toArray)] w (fun v' w' => Below w.heap.size w w' ∧ v' = .int .i64 (ixOf p L)) := by
 have hlm := rd_len hl
 have hb := Below.refl w.heap.size w
 refine enter (N := 19) Tryz.func79 rfl rfl (by simp) fun a hN hd hA => ?_
 have b : a.tmps.getD 0 undef = v := hA 0 (by simp)
 have c : a.tmps.getD 1 undef = (.func (.func g) fs.toArray cs.toArray) := hA 1 (by simp)
 clear hA
 refine zF fun _ e => zH (zD rfl (zB (e _ _ (zF fun _ e => zF fun _ a => zH (zG (zC hN rfl b) ?_)))))
 have hl' := hl.keep0 (zQ hb)
 refine op_len_rd Tryz.underlying28 (zA hN rfl) hl' (zG rfl (zB (a _ _ (wp_block (loop_m (fun mz_ az_ w' => ∃ (i : Nat), mz_ = L.length - i ∧ (Sl az_ 0 v) ∧ (Sl az_ 1 (.func (.func g) fs.toArray cs.toArray)) ∧ (Sl az_ 7 (.int .i64 ((L.length : Nat) : Int))) ∧ (Sl az_ 8 (.int .i64 ((i : Nat) : Int))) ∧ (i ≤ L.length) ∧ (∀ j, j < i → p (L.getD j default) = false) ∧ (Below w.heap.size w w') ∧ (w.heap.size ≤ w'.heap.size)) _ hN hd ⟨0, rfl, (zL hN rfl b), (zL hN rfl c), (zU hN rfl), (zU hN rfl), (Nat.zero_le _), (fun _ h => absurd h (Nat.not_lt_zero _)), hb, (Nat.le_refl _)⟩ ?_)))))
 rintro _ q w1 b c ⟨i, rfl, o, m, l, k, hi, hall, hb, r⟩
 have := hb.size
 refine zF fun _ a => zH (op_lss (zC b rfl k) (zC b rfl l) (fun q => ?_) (fun q => ?_))
 ·
  refine zB (a _ _ (zF fun _ a => wp_cond_true (zA b rfl) (wp_skip (a _ _ (zF fun _ a => wp_block ?_)))))
  refine zF fun _ q => zH (zG (zC b rfl k) (zD (zA b rfl) (zB (q _ _ (zF fun _ q => zH (zG (zC b rfl m) (zG (zC b rfl o) (zG (zA b rfl) ?_))))))))
  have hl' := hl.keep0 (zQ hb)
  refine zh slt28 (zA b rfl) hl' (zA b rfl) zx zx ?_
  intro y x s t r
  refine zX (cs := [(.string (bs (L.getD i default).nm)), (L.getD i default).sv, (.int .i64 (L.getD i default).act.f.kind), (.string (bs (L.getD i default).act.f.tb)), (.string (bs (L.getD i default).act.f.nm)), (L.getD i default).act.f.cv, (L.getD i default).act.f.gv, (L.getD i default).act.f.vv, (L.getD i default).act.f.iv, (.string (bs (L.getD i default).act.f.join)), (L.getD i default).act.f.ov, (L.getD i default).act.f.wv, (L.getD i default).act.f.rv, (.bool (L.getD i default).act.f.desc), (L.getD i default).act.nv]) agg68 rfl (zA b rfl) (fun j u hu => r j u (by have := (List.getElem?_eq_some_iff.1 hu).1; simpa using this) ((el_dv (i := i) zx zx) j u hu)) (op_fnv (fs := fs) (vs := [(.agg #[(.string (bs (L.getD i default).nm)), (L.getD i default).sv, (.int .i64 (L.getD i default).act.f.kind), (.string (bs (L.getD i default).act.f.tb)), (.string (bs (L.getD i default).act.f.nm)), (L.getD i default).act.f.cv, (L.getD i default).act.f.gv, (L.getD i default).act.f.vv, (L.getD i default).act.f.iv, (.string (bs (L.getD i default).act.f.join)), (L.getD i default).act.f.ov, (L.getD i default).act.f.wv, (L.getD i default).act.f.rv, (.bool (L.getD i default).act.f.desc), (L.getD i default).act.nv])]) (cs := cs) (zA b rfl) hokg ⟨(zA b rfl), trivial⟩ (hf i zx _ hb) ?_)
  rintro _ s ⟨r, rfl⟩
  have r := zQ r
  obtain ⟨hb, _⟩ := yE hb r
  rcases Bool.eq_false_or_eq_true ((p (L.getD i default))) with r | r
  ·
   rw [r]
   refine zB (q _ _ (wp_cond_true (zA b rfl) (zF fun _ q => zH (zG (zA b rfl) (zD (zA b rfl) (zB (q _ _ (wp_ret (zb (zO (zO (zb (zO ( (ret1 rfl c (zA b rfl) ⟨_, rfl, ?_⟩)))))))))))))))
   exact ⟨hb, congrArg (Value.int .i64) (ixOf_hit zx hall r).symm⟩
  rw [r]
  refine zB (q _ _ (wp_cond_false (zA b rfl) (wp_skip (a _ _ (zH (op_add (zC b rfl k) rfl (add64 zx) (zG (zA b rfl) (zB ?_))))))))
  -- round 9T 16F
  exact zg _ b c ⟨(i + 1), rfl, (zL b rfl o), (zL b rfl m), (zL b rfl l), (zU b rfl).trans (congrArg (Value.int .i64) zx), zx, (all_next hall r), hb, zx⟩ zx
 refine zB (a _ _ (zF fun _ a => wp_cond_false (zA b rfl) (wp_exit (then_exit (then_exit (blk_hit (e _ _ (zF fun _ e => zH (zD rfl (zB (e _ _ (wp_ret (ret1 rfl c (zA b rfl) ⟨_, rfl, ?_⟩)))))))))))))
 exact ⟨hb, congrArg (Value.int .i64) (ixOf_none zx hall).symm⟩

theorem ofView_ret (d : DVw) (w : World) : Ret Tryz.prog 55 #[(.agg #[(.string (bs d.nm)), d.sv, (.int .i64 d.act.f.kind), (.string (bs d.act.f.tb)), (.string (bs d.act.f.nm)), d.act.f.cv, d.act.f.gv, d.act.f.vv, d.act.f.iv, (.string (bs d.act.f.join)), d.act.f.ov, d.act.f.wv, d.act.f.rv, (.bool d.act.f.desc), d.act.nv])] w (fun v' w' => Below w.heap.size w w' ∧ v' = .string (bs d.nm)) := by
 have hb := Below.refl w.heap.size w
 refine enter (N := 5) Tryz.func55 rfl rfl (by simp) fun a hN hd hA => ?_
 have b : a.tmps.getD 0 undef = (.agg #[(.string (bs d.nm)), d.sv, (.int .i64 d.act.f.kind), (.string (bs d.act.f.tb)), (.string (bs d.act.f.nm)), d.act.f.cv, d.act.f.gv, d.act.f.vv, d.act.f.iv, (.string (bs d.act.f.join)), d.act.f.ov, d.act.f.wv, d.act.f.rv, (.bool d.act.f.desc), d.act.nv]) := hA 0 (by simp)
 clear hA
 refine zF fun _ a => zH (op_box (cs := [(.string (bs d.nm)), d.sv, (.int .i64 d.act.f.kind), (.string (bs d.act.f.tb)), (.string (bs d.act.f.nm)), d.act.f.cv, d.act.f.gv, d.act.f.vv, d.act.f.iv, (.string (bs d.act.f.join)), d.act.f.ov, d.act.f.wv, d.act.f.rv, (.bool d.act.f.desc), d.act.nv]) (zC hN rfl b) rfl ?_)
 intro e g j h c b
 obtain ⟨hb, _⟩ := yE hb b
 refine zD rfl (zB (a _ _ (zF fun _ a => zH (zM fld68_0 (zA hN rfl) (zN one9 (zA hN rfl) (c.cell rfl) (zD (zA hN rfl) (zB (a _ _ (wp_ret (ret1 rfl hd (zA hN rfl) ⟨_, rfl, ?_⟩))))))))))
 exact ⟨hb, rfl⟩

theorem find1View (d : DVw) (x : List UInt8) {fb nb : Nat} {w : World} (hf9 : Bx w fb 104 [.func (.func 55) #[] #[]]) (hn9 : Bx w nb 9 [.string (bs x)]) : Ret Tryz.prog 80 #[(.agg #[(.string (bs d.nm)), d.sv, (.int .i64 d.act.f.kind), (.string (bs d.act.f.tb)), (.string (bs d.act.f.nm)), d.act.f.cv, d.act.f.gv, d.act.f.vv, d.act.f.iv, (.string (bs d.act.f.join)), d.act.f.ov, d.act.f.wv, d.act.f.rv, (.bool d.act.f.desc), d.act.nv]), (ptr fb 0), (ptr nb 0)] w (fun v' w' => Below w.heap.size w w' ∧ v' = .bool (decide (d.nm = x))) := by
 have hb := Below.refl w.heap.size w
 refine enter (N := 10) Tryz.func80 rfl rfl (by simp) fun a hN hd hA => ?_
 have b : a.tmps.getD 0 undef = (.agg #[(.string (bs d.nm)), d.sv, (.int .i64 d.act.f.kind), (.string (bs d.act.f.tb)), (.string (bs d.act.f.nm)), d.act.f.cv, d.act.f.gv, d.act.f.vv, d.act.f.iv, (.string (bs d.act.f.join)), d.act.f.ov, d.act.f.wv, d.act.f.rv, (.bool d.act.f.desc), d.act.nv]) := hA 0 (by simp)
 have c : a.tmps.getD 1 undef = (ptr fb 0) := hA 1 (by simp)
 have e : a.tmps.getD 2 undef = (ptr nb 0) := hA 2 (by simp)
 clear hA
 refine zF fun _ a => zH (op_box (cs := [(.string (bs d.nm)), d.sv, (.int .i64 d.act.f.kind), (.string (bs d.act.f.tb)), (.string (bs d.act.f.nm)), d.act.f.cv, d.act.f.gv, d.act.f.vv, d.act.f.iv, (.string (bs d.act.f.join)), d.act.f.ov, d.act.f.wv, d.act.f.rv, (.bool d.act.f.desc), d.act.nv]) (zC hN rfl b) rfl ?_)
 intro l j k m b g
 obtain ⟨hb, _⟩ := yE hb g
 have hf9 := hf9.keep0 g
 have hn9 := hn9.keep0 g
 refine zD rfl (zB (a _ _ (zF fun _ a => reg_split (hd := [_, _, _, _]) (tl := _) 4 mixed zy rfl rfl (any_tree (φ := phiV [(fun uz => uz = (.func (.func 55) #[] #[])), (fun uz => uz = (.agg #[(.string (bs d.nm)), d.sv, (.int .i64 d.act.f.kind), (.string (bs d.act.f.tb)), (.string (bs d.act.f.nm)), d.act.f.cv, d.act.f.gv, d.act.f.vv, d.act.f.iv, (.string (bs d.act.f.join)), d.act.f.ov, d.act.f.wv, d.act.f.rv, (.bool d.act.f.desc), d.act.nv])), (fun _ => True), (fun uz => uz = (.string (bs x)))]) (G := fun w' => Bx w' fb 104 [(.func (.func 55) #[] #[])] ∧ Bx w' j 68 [(.string (bs d.nm)), d.sv, (.int .i64 d.act.f.kind), (.string (bs d.act.f.tb)), (.string (bs d.act.f.nm)), d.act.f.cv, d.act.f.gv, d.act.f.vv, d.act.f.iv, (.string (bs d.act.f.join)), d.act.f.ov, d.act.f.wv, d.act.f.rv, (.bool d.act.f.desc), d.act.nv] ∧ Bx w' nb 9 [(.string (bs x))]) [2] zy zy zy zy zy hN (fun m o E h => by obtain ⟨g, l, k⟩ := h; exact ⟨g.keep0 E, l.keep0 E, k.keep0 E⟩) ⟨hf9, b, hn9⟩ (ObRs9.cons ?_ (ObRs9.cons ?_ (ObRs9.pass rfl (ObRs9.cons ?_ (ObRs9.nil))))) (by simp only [putsL_defers]) ?_))))
 ·
  intro eA aA wA hNA hGA hbsA hdpA
  have g := (hbsA 1 rfl).trans (zL hN rfl c)
  obtain ⟨hf9, b, hn9⟩ := hGA
  refine zN one104 (zC hNA rfl g) (hf9.cell rfl) ?_
  exact obT_end rfl rfl
 ·
  intro eA aA wA hNA hGA hbsA hdpA
  have c := (hbsA 3 rfl).trans (zU hN rfl)
  obtain ⟨hf9, b, hn9⟩ := hGA
  refine zY agg68 rfl (zC hNA rfl c) b ?_
  exact obT_end rfl rfl
 ·
  intro eA aA wA hNA hGA hbsA hdpA
  have c := (hbsA 2 rfl).trans (zL hN rfl e)
  obtain ⟨hf9, b, hn9⟩ := hGA
  refine zN one9 (zC hNA rfl c) (hn9.cell rfl) ?_
  exact obT_end rfl rfl
 refine kt_step (rs := [2]) zy (one_mem ?_)
 intro k c _ j g l e o_ ho_; obtain rfl := zE ho_
 obtain ⟨hb, _⟩ := yE hb c
 have k : Sl j 5 (.func (.func 55) #[] #[]) := (e 0 _ 5 zy rfl rfl).2 rfl
 have l : Sl j 6 (.agg #[(.string (bs d.nm)), d.sv, (.int .i64 d.act.f.kind), (.string (bs d.act.f.tb)), (.string (bs d.act.f.nm)), d.act.f.cv, d.act.f.gv, d.act.f.vv, d.act.f.iv, (.string (bs d.act.f.join)), d.act.f.ov, d.act.f.wv, d.act.f.rv, (.bool d.act.f.desc), d.act.nv]) := (e 1 _ 6 zy rfl rfl).2 rfl
 refine op_fnv (fs := []) (vs := [(.agg #[(.string (bs d.nm)), d.sv, (.int .i64 d.act.f.kind), (.string (bs d.act.f.tb)), (.string (bs d.act.f.nm)), d.act.f.cv, d.act.f.gv, d.act.f.vv, d.act.f.iv, (.string (bs d.act.f.join)), d.act.f.ov, d.act.f.wv, d.act.f.rv, (.bool d.act.f.desc), d.act.nv])]) (cs := []) (zC g rfl k) ok55 ⟨(zC g rfl l), trivial⟩ (ofView_ret d _) ?_
 rintro _ g ⟨e, rfl⟩
 have e := zQ e
 obtain ⟨hb, _⟩ := yE hb e
 have hf9 := (hf9.keep0 c).keep0 e
 have hn9 := (hn9.keep0 c).keep0 e
 have b := (b.keep0 c).keep0 e
 refine kt_end rfl ⟨hf9, b, hn9⟩ ?_
 intro k e j b c l g
 have c := c.trans ((by simp only [putsL_defers] : _ = _).trans hd)
 obtain ⟨hb, _⟩ := yE hb e
 have hn9 := hn9.keep0 e
 have e : Sl j 7 (.string (bs d.nm)) := (zE ((g 2 _ 7 rfl rfl).1 rfl)).symm
 have k : Sl j 8 (.string (bs x)) := (g 3 _ 8 rfl rfl).2 rfl
 refine split_end (from_seq (tl := [_, _]) zz zy rfl (op_seql (zC b rfl e) (zC b rfl k) (fun g => ?_) (fun g => ?_)))
 ·
  refine zD (zA b rfl) (zB (a _ _ (wp_ret (ret1 rfl c (zA b rfl) ⟨_, rfl, ?_⟩))))
  exact ⟨hb, congrArg Value.bool (decide_eq_true g).symm⟩
 refine zD (zA b rfl) (zB (a _ _ (wp_ret (ret1 rfl c (zA b rfl) ⟨_, rfl, ?_⟩))))
 exact ⟨hb, congrArg Value.bool (decide_eq_false g).symm⟩

theorem findView {L : List DVw} {v : Value} (x : List UInt8) {w : World} (hl : RdC w 0 w.heap.size 15 v L.length (L.flatMap cellsW)) : Ret Tryz.prog 54 #[v, (.string (bs x)), (.func (.func 55) #[] #[])] w (fun v' w' => Below w.heap.size w w' ∧ v' = .int .i64 (ixOf (fun d => decide (d.nm = x)) L)) := by
 have hb := Below.refl w.heap.size w
 refine enter (N := 10) Tryz.func54 rfl rfl (by simp) fun a hN hd hA => ?_
 have b : a.tmps.getD 0 undef = v := hA 0 (by simp)
 have c : a.tmps.getD 1 undef = (.string (bs x)) := hA 1 (by simp)
 have e : a.tmps.getD 2 undef = (.func (.func 55) #[] #[]) := hA 2 (by simp)
 clear hA
 refine zF fun _ a => zH (op_box (cs := [(.string (bs x))]) (zC hN rfl c) rfl ?_)
 intro k h l m c j
 obtain ⟨hb, _⟩ := yE hb j
 refine op_box (cs := [(.func (.func 55) #[] #[])]) (zC hN rfl e) rfl ?_
 intro m j o l k e
 obtain ⟨hb, _⟩ := yE hb e
 have c := c.keep0 e
 refine zD rfl (zB (a _ _ (zF fun _ a => zH (zG (zC hN rfl b) (op_mkfn (cv := [(ptr j 0), (ptr h 0)]) ⟨(zA hN rfl), ⟨(zA hN rfl), trivial⟩⟩ ?_)))))
 have hl' := hl.keep0 (zQ hb)
 refine zj ok79 (IdxV (g := 80) (fs := []) (cs := [(ptr j 0), (ptr h 0)]) (p := (fun d => decide (d.nm = x))) (hl'.mono (Nat.zero_le _) zx) ok80 (fun i hi e b => find1View (L.getD i default) x (k.keep0 (zQ b)) (c.keep0 (zQ b)))) ⟨(zA hN rfl), ⟨(zA hN rfl), trivial⟩⟩ ?_
 rintro _ c ⟨b, rfl⟩
 have b := zQ b
 obtain ⟨hb, _⟩ := yE hb b
 refine zD (zA hN rfl) (zB (a _ _ (wp_ret (ret1 rfl hd (zA hN rfl) ⟨_, rfl, ?_⟩))))
 exact ⟨hb, rfl⟩

set_option maxHeartbeats 1000000 in
theorem view_ret {tv vv : Value} {D : List DTab} {V : List DVw} {F FV : Nat → Prop} {base Bs : Nat} {s : XS} {w : World} {o : Lb} {kk : List Int} {ow kv : Value} (O : Own w base 51 3 tv D.length (D.flatMap cellsT)) (S : TabsR w base D F) (P : Own w base 68 15 vv V.length (V.flatMap cellsW)) (Q : VsIn w base V FV) (d1 : Dj (Bl vv) FV) (d2 : Dj (Bl tv) FV) (hD : D.length ≤ 1000000) (hsz : ∀ d ∈ D, d.t.cols.length ≤ 1000000 ∧ d.t.idx.length ≤ 1000000) (hVz : V.length ≤ 1000) (he : SFr w 0 Bs s) (hBs : Bs ≤ base) (hbw : base ≤ w.heap.size) (hol : o.length ≤ 100) (ho : RdC w 0 w.heap.size 1 ow o.length (o.map u16v)) (hk : RdC w 0 w.heap.size 1 kv kk.length (kk.map (Value.int .i64))) : Ret Tryz.prog 25 #[(.agg #[tv, vv]), (.agg #[(.int .i64 s.f.kind), (.string (bs s.f.tb)), (.string (bs s.f.nm)), s.f.cv, s.f.gv, s.f.vv, s.f.iv, (.string (bs s.f.join)), s.f.ov, s.f.wv, s.f.rv, (.bool s.f.desc), s.nv]), ow, kv] w (fun v' w' => Gr w w' (Bl vv) ∧ ∃ (vv' : Value) (V' : List DVw) (F' : Nat → Prop), v' = .tuple #[.agg #[tv, vv'], .int .i64 (viewE (V.map DVw.nm) o s kk)] ∧ Own w' base 68 15 vv' V'.length (V'.flatMap cellsW) ∧ VsIn w' base V' F' ∧ NewF w.heap.size FV F' ∧ V'.length ≤ 1000 ∧ ((viewE (V.map DVw.nm) o s kk) = 0 → ∃ d, V' = V ++ [d] ∧ NewV s d) ∧ ((viewE (V.map DVw.nm) o s kk) ≠ 0 → V' = V)) := by
 obtain ⟨hfc, hfg, hfv, hfi, hfo, hfw, hfr⟩ := he.ff
 have hfn := he.inn
 obtain ⟨⟨c, m, l⟩, a⟩ := he.sm
 have hfnR := hfn.1
 have hb := Gr.refl w (Bl vv)
 refine enter (N := 73) Tryz.func25 rfl rfl (by simp) fun a hN hd hA => ?_
 have c : a.tmps.getD 0 undef = (.agg #[tv, vv]) := hA 0 (by simp)
 have l : a.tmps.getD 1 undef = (.agg #[(.int .i64 s.f.kind), (.string (bs s.f.tb)), (.string (bs s.f.nm)), s.f.cv, s.f.gv, s.f.vv, s.f.iv, (.string (bs s.f.join)), s.f.ov, s.f.wv, s.f.rv, (.bool s.f.desc), s.nv]) := hA 1 (by simp)
 have m : a.tmps.getD 2 undef = ow := hA 2 (by simp)
 have p : a.tmps.getD 3 undef = kv := hA 3 (by simp)
 clear hA
 refine zF fun _ a => zH (op_box (cs := [tv, vv]) (zC hN rfl c) rfl ?_)
 intro x t y z c r
 have y : ¬ FV t := fun hf => by have := (Q.lt _ hf).2; omega
 obtain ⟨hb, _⟩ := yG hb r
 have Q := Q.kz r
 refine op_box (cs := [(.int .i64 s.f.kind), (.string (bs s.f.tb)), (.string (bs s.f.nm)), s.f.cv, s.f.gv, s.f.vv, s.f.iv, (.string (bs s.f.join)), s.f.ov, s.f.wv, s.f.rv, (.bool s.f.desc), s.nv]) (zC hN rfl l) rfl ?_
 intro I A H C l z
 obtain ⟨hb, _⟩ := yG hb z
 have Q := Q.kz z
 refine op_alloc (cs := [(.slice none 0 0), (.slice none 0 0)]) zero30 rfl ?_
 intro I J M K C H
 have K : ¬ FV J := fun hf => by have := (Q.lt _ hf).2; omega
 obtain ⟨hb, _⟩ := yG hb H
 have Q := Q.kz H
 have hfg := ((hfg.keep0 r).keep0 z).keep0 H
 have ho := ((ho.keep0 r).keep0 z).keep0 H
 have l := l.keep0 H
 refine zD rfl (zB ?_)
 refine a _ _ (zF fun _ a => zH (zG (zC hN rfl m) (zM fld37_4 (zA hN rfl) (zN one23 (zA hN rfl) (l.cell rfl) (zj ok53 (omayS_ret o s.f.tags _ _ _ (by first | assumption | omega | (simp only [List.length_append, List.length_cons, List.length_nil, List.length_drop, List.length_take]; omega) | (dsimp only; omega) | decide | (simp [keyV, be8_len]; done)) (by first | assumption | omega | (simp only [List.length_append, List.length_cons, List.length_nil, List.length_drop, List.length_take]; omega) | (dsimp only; omega) | decide | (simp [keyV, be8_len]; done)) (show RdC I 0 I.heap.size 1 ow o.length (o.map u16v) from by have hh : RdC I 0 I.heap.size 1 _ _ _ := (ho.mono (L' := 0) (B' := I.heap.size) (Nat.zero_le _) zx); first | exact hh | exact hh.cast (by first | omega | (simp; try omega)) (by first | rfl | simp [u16v])) (show RdC I 0 I.heap.size 1 s.f.gv s.f.tags.length (s.f.tags.map u16v) from by have hh : RdC I 0 I.heap.size 1 _ _ _ := (hfg.mono (L' := 0) (B' := I.heap.size) (Nat.zero_le _) zx); first | exact hh | exact hh.cast (by first | omega | (simp; try omega)) (by first | rfl | simp [u16v]))) ⟨(zA hN rfl), ⟨(zA hN rfl), trivial⟩⟩ ?_)))))
 rintro _ I ⟨m, rfl⟩
 have m := zQ m
 obtain ⟨hb, _⟩ := yG hb m
 have P := (((P.keep0 r).keep0 z).keep0 H).keep0 m
 have Q := Q.kz m
 have c := ((c.keep0 z).keep0 H).keep0 m
 have l := l.keep0 m
 refine zD (zA hN rfl) (zB (a _ _ (zF fun _ a => wp_block (zF fun _ I => ?_))))
 refine zH (zM fld30_1 (zA hN rfl) (zN one28 (zA hN rfl) (c.cell rfl) (zM fld37_2 (zA hN rfl) (zN one9 (zA hN rfl) (l.cell rfl) (zj ok54 (findView (L := (V : List DVw)) s.f.nm (P.rdw.mono (Nat.zero_le _) zx)) ⟨(zA hN rfl), ⟨(zA hN rfl), ⟨rfl, trivial⟩⟩⟩ ?_)))))
 rintro _ M ⟨J, rfl⟩
 have J := zQ J
 obtain ⟨hb, _⟩ := yG hb J
 have O := ((((O.keep0 r).keep0 z).keep0 H).keep0 m).keep0 J
 have P := P.keep0 J
 have Q := Q.kz J
 have hfg := (hfg.keep0 m).keep0 J
 have hfn := ((((hfn.keep0 r).keep0 z).keep0 H).keep0 m).keep0 J
 have hk := ((((hk.keep0 r).keep0 z).keep0 H).keep0 m).keep0 J
 have hfnR := ((((hfnR.keep0 r).keep0 z).keep0 H).keep0 m).keep0 J
 obtain ⟨c, l⟩ := kb2 J c l
 have C := (C.keep0 m).keep0 J
 refine op_geq (zA hN rfl) rfl (fun m => ?_) (fun m => ?_)
 ·
  refine zD (zA hN rfl) (zB (I _ _ (wp_cond_true (zA hN rfl) (zF fun _ I => zH (zY agg30 rfl (zA hN rfl) c ?_)))))
  have r := C
  refine zZ size30 (zA hN rfl) (zA hN rfl) rfl (by simp only [yA, yB, yC, yD, O.one, P.one]; try rfl) C rfl ?_
  intro H C z
  have := z.size
  have P := P.keepX r z zz
  have Q := Q.keepG (Gr.of z) (Dj.one K)
  have hb := hb.step1 z zx
  refine zD rfl (zB (I _ _ (wp_ret (zb (zO ( (retD rfl hd (zA hN rfl) agg30 rfl C (zA hN rfl) ⟨_, rfl, ?_⟩)))))))
  have z : (viewE (V.map DVw.nm) o s kk) = 12 := if_pos (vw_mem.1 m)
  rw [z]; exact ⟨hb, _, V, FV, rfl, P, Q, NewF.refl _ _, hVz, fun h => absurd h (by first | decide | exact H), fun _ => rfl⟩
 refine zD (zA hN rfl) (zB (I _ _ (wp_cond_false (zA hN rfl) (zF fun _ I => zH (zM fld30_1 (zA hN rfl) (zN one28 (zA hN rfl) (c.cell rfl) (op_len_rd Tryz.underlying28 (zA hN rfl) P.rdw (op_geq (zA hN rfl) rfl (fun J => ?_) (fun J => ?_)))))))))
 ·
  refine zD (zA hN rfl) (zB (I _ _ (wp_cond_true (zA hN rfl) (zF fun _ I => zH (zY agg30 rfl (zA hN rfl) c ?_)))))
  have r := C
  refine zZ size30 (zA hN rfl) (zA hN rfl) rfl (by simp only [yA, yB, yC, yD, O.one, P.one]; try rfl) C rfl ?_
  intro M C J
  have := J.size
  have P := P.keepX r J zz
  have Q := Q.keepG (Gr.of J) (Dj.one K)
  have hb := hb.step1 J zx
  refine zD rfl (zB (I _ _ (wp_ret (zb (zO ( (retD rfl hd (zA hN rfl) agg30 rfl C (zA hN rfl) ⟨_, rfl, ?_⟩)))))))
  have z : (viewE (V.map DVw.nm) o s kk) = 25 := by unfold viewE; rw [if_neg (fun h => m (vw_mem.2 h)), if_pos (by rw [List.length_map]; omega)]
  rw [z]; exact ⟨hb, _, V, FV, rfl, P, Q, NewF.refl _ _, hVz, fun h => absurd h (by first | decide | exact H), fun _ => rfl⟩
 refine zD (zA hN rfl) (zB (I _ _ (wp_cond_false (zA hN rfl) (zF fun _ I => zH (zG (zA hN rfl) (op_neq (zA hN rfl) rfl (fun H => ?_) (fun H => ?_)))))))
 ·
  refine zD (zA hN rfl) (zB (I _ _ (wp_cond_true (zA hN rfl) (zF fun _ I => zH (zY agg30 rfl (zA hN rfl) c (zG (zA hN rfl) ?_))))))
  have r := C
  refine zZ size30 (zA hN rfl) (zA hN rfl) rfl (by simp only [yA, yB, yC, yD, O.one, P.one]; try rfl) C rfl ?_
  intro M C J
  have := J.size
  have P := P.keepX r J zz
  have Q := Q.keepG (Gr.of J) (Dj.one K)
  have hb := hb.step1 J zx
  refine zD (zA hN rfl) (zB (I _ _ (wp_ret (zb (zO ( (retD rfl hd (zA hN rfl) agg30 rfl C (zA hN rfl) ⟨_, rfl, ?_⟩)))))))
  have z : (viewE (V.map DVw.nm) o s kk) = (ownE o s.f.tags) := by unfold viewE; rw [if_neg (fun h => m (vw_mem.2 h)), if_neg (by rw [List.length_map]; omega), if_pos H]
  rw [z]; exact ⟨hb, _, V, FV, rfl, P, Q, NewF.refl _ _, hVz, fun h => absurd h (by first | decide | exact H), fun _ => rfl⟩
 refine zD (zA hN rfl) (zB (I _ _ (wp_cond_false (zA hN rfl) (zF fun _ I => zH (zM fld37_12 (zA hN rfl) (zN one35 (zA hN rfl) (l.cell rfl) (op_len_rd Tryz.underlying35 (zA hN rfl) hfnR (op_neq (zA hN rfl) rfl (fun J => ?_) (fun J => ?_)))))))))
 ·
  refine zG (zA hN rfl) (zR (j := 4) (dj := 41) (b := false) rfl rfl rfl (zA hN rfl) rfl rfl (zR (j := 4) (dj := 41) (b := false) rfl rfl rfl (zA hN rfl) rfl rfl (zR (j := 4) (dj := 41) (b := false) rfl rfl rfl (zA hN rfl) rfl rfl (zR (j := 4) (dj := 41) (b := false) rfl rfl rfl (zA hN rfl) rfl rfl ?_))))
  refine zR (j := 4) (dj := 41) (b := false) rfl rfl rfl (zA hN rfl) rfl rfl (zR (j := 4) (dj := 41) (b := false) rfl rfl rfl (zA hN rfl) rfl rfl (zR (j := 4) (dj := 41) (b := false) rfl rfl rfl (zA hN rfl) rfl rfl (zR (j := 4) (dj := 41) (b := false) rfl rfl rfl (zA hN rfl) rfl rfl (zc (zA hN rfl) rfl (zD (zA hN rfl) (zB (I _ _ (wp_cond_true (zA hN rfl) (zF fun _ I => zH (zY agg30 rfl (zA hN rfl) c ?_))))))))))
  have r := C
  refine zZ size30 (zA hN rfl) (zA hN rfl) rfl (by simp only [yA, yB, yC, yD, O.one, P.one]; try rfl) C rfl ?_
  intro M C J
  have := J.size
  have P := P.keepX r J zz
  have Q := Q.keepG (Gr.of J) (Dj.one K)
  have hb := hb.step1 J zx
  refine zD rfl (zB (I _ _ (wp_ret (zb (zO ( (retD rfl hd (zA hN rfl) agg30 rfl C (zA hN rfl) ⟨_, rfl, ?_⟩)))))))
  have z : (viewE (V.map DVw.nm) o s kk) = 1 := by unfold viewE; rw [if_neg (fun h => m (vw_mem.2 h)), if_neg (by rw [List.length_map]; omega), if_neg (fun h => h H), if_pos (.inl zx)]
  rw [z]; exact ⟨hb, _, V, FV, rfl, P, Q, NewF.refl _ _, hVz, fun h => absurd h (by first | decide | exact H), fun _ => rfl⟩
 refine zG (zA hN rfl) (zS (j := 4) (dj := 41) (b := false) rfl rfl rfl (zA hN rfl) (zG (zC hN rfl p) (zS (j := 4) (dj := 41) (b := false) rfl rfl rfl (zA hN rfl) (zM fld37_12 (zA hN rfl) (zS (j := 4) (dj := 41) (b := false) rfl rfl rfl (zA hN rfl) (zN one35 (zA hN rfl) (l.cell rfl) (zS (j := 4) (dj := 41) (b := false) rfl rfl rfl (zA hN rfl) (zh slt35 (zA hN rfl) hfnR rfl zx zx ?_))))))))
 intro T J R M p
 refine zS (j := 4) (dj := 41) (b := false) rfl rfl rfl (zA hN rfl) (zM fld37_0 (zA hN rfl) (zS (j := 4) (dj := 41) (b := false) rfl rfl rfl (zA hN rfl) (zN (v := (Value.int .i64 (s.inner.getD 0 default).f.kind)) one3 (zA hN rfl) (p 0 ((.int .i64 (s.inner.getD 0 default).f.kind)) zz ((el_xs (i := 0) zx zx) 0 ((.int .i64 (s.inner.getD 0 default).f.kind)) rfl)) (zS (j := 4) (dj := 41) (b := false) rfl rfl rfl (zA hN rfl) (zj ok56 (IxI_has ((s.inner.getD 0 default).f.kind) (hk.mono (Nat.zero_le _) zx)) ⟨(zA hN rfl), ⟨(zA hN rfl), trivial⟩⟩ ?_)))))
 rintro _ J ⟨p, rfl⟩
 have p := zQ p
 obtain ⟨hb, _⟩ := yG hb p
 have O := O.keep0 p
 have P := P.keep0 p
 have Q := Q.kz p
 have hfg := hfg.keep0 p
 have hfn := hfn.keep0 p
 have hk := hk.keep0 p
 have hfnR := hfnR.keep0 p
 obtain ⟨c, l, C⟩ := kb3 p c l C
 rcases Bool.eq_false_or_eq_true ((decide ((s.inner.getD 0 default).f.kind ∈ kk))) with p | p
 ·
  rw [p]
  refine zS (j := 4) (dj := 41) (b := false) rfl rfl rfl (zA hN rfl) (op_not (zA hN rfl) (zd (zA hN rfl) (zA hN rfl) (zD (zA hN rfl) ?_)))
  refine zB (I _ _ (wp_cond_false (zA hN rfl) (wp_skip (a _ _ (zF fun _ a => zH (zM fld37_4 (zA hN rfl) (zN one23 (zA hN rfl) (l.cell rfl) (zj ok57 (normS_ret s.f.tags _ _ (by first | assumption | omega | (simp only [List.length_append, List.length_cons, List.length_nil, List.length_drop, List.length_take]; omega) | (dsimp only; omega) | decide | (simp [keyV, be8_len]; done)) (show RdC J 0 J.heap.size 1 s.f.gv s.f.tags.length (s.f.tags.map u16v) from by have hh : RdC J 0 J.heap.size 1 _ _ _ := (hfg.mono (L' := 0) (B' := J.heap.size) (Nat.zero_le _) zx); first | exact hh | exact hh.cast (by first | omega | (simp; try omega)) (by first | rfl | simp [u16v]))) ⟨(zA hN rfl), trivial⟩ ?_))))))))
  rintro _ T ⟨M, R, rfl, J⟩
  have M := zQ M
  obtain ⟨hb, _⟩ := yG hb M
  have O := O.keep0 M
  have P := P.keep0 M
  have Q := Q.kz M
  have hfn := hfn.keep0 M
  have hk := hk.keep0 M
  have hfnR := hfnR.keep0 M
  obtain ⟨c, l, C⟩ := kb3 M c l C
  have J := J.mono (base' := w.heap.size) zx
  have M := normL_len s.f.tags
  refine zG (zA hN rfl) (zW (zA hN rfl) rfl (zW (zA hN rfl) rfl (zD (zA hN rfl) (zD (zA hN rfl) (zB (a _ _ (zF fun _ a => ?_)))))))
  have M : SFr T 0 Bs (s.inner.getD 0 default) := hfn.2 _ (getD_mem zx)
  have lw_vv := fun k hk => (P.lt k hk).2
  refine reg_split (hd := [_, _, _, _, _, _, _, _, _, _, _, _, _]) (tl := _) 13 mixed zy rfl rfl (any_tree (φ := phiV [(fun uz => uz = (ptr t 1)), (fun uz => uz = vv), (fun uz => uz = (ptr A 2)), (fun uz => uz = (.string (bs s.f.nm))), (fun uz => uz = R), (fun uz => uz = (ptr A 12)), (fun uz => uz = s.nv), (fun _ => True), (fun _ => True), (fun _ => True), (fun _ => True), (fun _ => True), (fun _ => True)]) (G := fun w' => Bx w' t 30 [tv, vv] ∧ Bx w' A 37 [(.int .i64 s.f.kind), (.string (bs s.f.tb)), (.string (bs s.f.nm)), s.f.cv, s.f.gv, s.f.vv, s.f.iv, (.string (bs s.f.join)), s.f.ov, s.f.wv, s.f.rv, (.bool s.f.desc), s.nv]) [7, 8, 9, 10, 11, 12] zy zy zy zy zy hN (fun x W E h => by obtain ⟨T, U⟩ := h; exact ⟨T.keep0 E, U.keep0 E⟩) ⟨c, l⟩ (ObRs9.cons ?_ (ObRs9.cons ?_ (ObRs9.cons ?_ (ObRs9.cons ?_ (ObRs9.cons ?_ (ObRs9.cons ?_ (ObRs9.cons ?_ (ObRs9.pass rfl (ObRs9.pass rfl (ObRs9.pass rfl (ObRs9.pass rfl (ObRs9.pass rfl (ObRs9.pass rfl (ObRs9.nil)))))))))))))) (by simp only [putsL_defers]) ?_)
  ·
   intro eA aA wA hNA hGA hbsA hdpA
   have x := (hbsA 4 rfl).trans (zU hN rfl)
   refine zM fld30_1 (zC hNA rfl x) ?_
   exact obT_end rfl rfl
  ·
   intro eA aA wA hNA hGA hbsA hdpA
   have x : Sl aA 58 (ptr t 1) := (hdpA 0 _ 58 zy rfl rfl).2 rfl
   obtain ⟨c, l⟩ := hGA
   refine zN one28 (zC hNA rfl x) (c.cell rfl) ?_
   exact obT_end rfl rfl
  ·
   intro eA aA wA hNA hGA hbsA hdpA
   have t := (hbsA 5 rfl).trans (zU hN rfl)
   refine zM fld37_2 (zC hNA rfl t) ?_
   exact obT_end rfl rfl
  ·
   intro eA aA wA hNA hGA hbsA hdpA
   have x : Sl aA 60 (ptr A 2) := (hdpA 2 _ 60 zy rfl rfl).2 rfl
   obtain ⟨c, l⟩ := hGA
   refine zN one9 (zC hNA rfl x) (l.cell rfl) ?_
   exact obT_end rfl rfl
  ·
   intro eA aA wA hNA hGA hbsA hdpA
   have x := (hbsA 11 rfl).trans (zU hN rfl)
   refine zG (zC hNA rfl x) ?_
   exact obT_end rfl rfl
  ·
   intro eA aA wA hNA hGA hbsA hdpA
   have t := (hbsA 5 rfl).trans (zU hN rfl)
   refine zM fld37_12 (zC hNA rfl t) ?_
   exact obT_end rfl rfl
  ·
   intro eA aA wA hNA hGA hbsA hdpA
   have t : Sl aA 63 (ptr A 12) := (hdpA 5 _ 63 zy rfl rfl).2 rfl
   obtain ⟨c, l⟩ := hGA
   refine zN one35 (zC hNA rfl t) (l.cell rfl) ?_
   exact obT_end rfl rfl
  refine kt_step (rs := [7]) zy (one_mem ?_)
  intro T t _ U x W A o_ ho_; obtain rfl := zE ho_
  obtain ⟨hb, _⟩ := yG hb t
  have Q := Q.kz t
  have hfnR := hfnR.keep0 t
  obtain ⟨c, l⟩ := kb2 t c l
  have W : Sl U 64 s.nv := (A 6 _ 64 zy rfl rfl).2 rfl
  refine zh slt35 (zC x rfl W) hfnR rfl zx zx ?_
  intro x A W X U
  have W : PtC T 0 Bs x A [(.int .i64 (s.inner.getD 0 default).f.kind), (.string (bs (s.inner.getD 0 default).f.tb)), (.string (bs (s.inner.getD 0 default).f.nm)), (s.inner.getD 0 default).f.cv, (s.inner.getD 0 default).f.gv, (s.inner.getD 0 default).f.vv, (s.inner.getD 0 default).f.iv, (.string (bs (s.inner.getD 0 default).f.join)), (s.inner.getD 0 default).f.ov, (s.inner.getD 0 default).f.wv, (s.inner.getD 0 default).f.rv, (.bool (s.inner.getD 0 default).f.desc), (s.inner.getD 0 default).nv] := ⟨by omega, by omega, fun j u hu => U j u (by have := (List.getElem?_eq_some_iff.1 hu).1; simpa using this) ((el_xs (i := 0) zx zx) j u hu)⟩
  refine kt_end rfl ⟨c, l⟩ (kt_step (rs := [8]) zy (one_mem ?_))
  intro Z T _ X Y aa U o_ ho_; obtain rfl := zE ho_
  obtain ⟨hb, _⟩ := yG hb T
  have Q := Q.kz T
  have W := W.keep0 T
  obtain ⟨c, l⟩ := kb2 T c l
  have Z : Sl X 65 (ptr x A) := (zE ((U 7 _ 65 zy rfl rfl).1 rfl)).symm
  refine zX (cs := [(.int .i64 (s.inner.getD 0 default).f.kind), (.string (bs (s.inner.getD 0 default).f.tb)), (.string (bs (s.inner.getD 0 default).f.nm)), (s.inner.getD 0 default).f.cv, (s.inner.getD 0 default).f.gv, (s.inner.getD 0 default).f.vv, (s.inner.getD 0 default).f.iv, (.string (bs (s.inner.getD 0 default).f.join)), (s.inner.getD 0 default).f.ov, (s.inner.getD 0 default).f.wv, (s.inner.getD 0 default).f.rv, (.bool (s.inner.getD 0 default).f.desc), (s.inner.getD 0 default).nv]) agg37 rfl (zC Y rfl Z) (fun j u hu => W.2.2 j u hu) (kt_end rfl ⟨c, l⟩ (kt_step (rs := [9]) zy (one_mem ?_)))
  intro U x _ W A Y X o_ ho_; obtain rfl := zE ho_
  obtain ⟨hb, _⟩ := yG hb x
  have P := ((P.keep0 t).keep0 T).keep0 x
  have Q := Q.kz x
  have M := ((M.keep0 t).keep0 T).keep0 x
  have Y : Sl W 66 (.agg #[(.int .i64 (s.inner.getD 0 default).f.kind), (.string (bs (s.inner.getD 0 default).f.tb)), (.string (bs (s.inner.getD 0 default).f.nm)), (s.inner.getD 0 default).f.cv, (s.inner.getD 0 default).f.gv, (s.inner.getD 0 default).f.vv, (s.inner.getD 0 default).f.iv, (.string (bs (s.inner.getD 0 default).f.join)), (s.inner.getD 0 default).f.ov, (s.inner.getD 0 default).f.wv, (s.inner.getD 0 default).f.rv, (.bool (s.inner.getD 0 default).f.desc), (s.inner.getD 0 default).nv]) := (zE ((X 8 _ 66 zy rfl rfl).1 rfl)).symm
  refine zj ok51 (CopyS_all (s.inner.getD 0 default) (M.mono (Nat.zero_le _) zx)) ⟨(zC A rfl Y), trivial⟩ ?_
  rintro _ Y ⟨W, A, rfl, M, X⟩
  have lx_vv := fun k hk => (P.lt k hk).2
  have Z : ∀ k, vv.ownBlock = some k → k < U.heap.size ∨ Y.heap.size ≤ k := fun k hk => .inl (lx_vv k hk)
  have W := zQ W
  obtain ⟨hb, _⟩ := yG hb W
  have Q := Q.kz W
  have c := (c.keep0 x).keep0 W
  have l := (l.keep0 x).keep0 W
  refine kt_end rfl ⟨c, l⟩ (kt_step (rs := [10]) zy (one_mem ?_))
  intro ac U _ ab Y ad aa o_ ho_; obtain rfl := zE ho_
  obtain ⟨hb, _⟩ := yG hb U
  have Q := Q.kz U
  obtain ⟨c, l⟩ := kb2 U c l
  have J := ((((J.keep0 t).keep0 T).keep0 x).keep0 W).keep0 U
  have ac : Sl ab 61 (.string (bs s.f.nm)) := (aa 3 _ 61 zy rfl rfl).2 rfl
  have ad : Sl ab 62 R := (aa 4 _ 62 zy rfl rfl).2 rfl
  have ae : Sl ab 67 (.agg #[(.int .i64 A.f.kind), (.string (bs A.f.tb)), (.string (bs A.f.nm)), A.f.cv, A.f.gv, A.f.vv, A.f.iv, (.string (bs A.f.join)), A.f.ov, A.f.wv, A.f.rv, (.bool A.f.desc), A.nv]) := (zE ((aa 9 _ 67 zy rfl rfl).1 rfl)).symm
  refine zf (pv := [(0, (.string (bs s.f.nm))), (1, R), (2, (.agg #[(.int .i64 A.f.kind), (.string (bs A.f.tb)), (.string (bs A.f.nm)), A.f.cv, A.f.gv, A.f.vv, A.f.iv, (.string (bs A.f.join)), A.f.ov, A.f.wv, A.f.rv, (.bool A.f.desc), A.nv]))]) (v := (Value.agg #[(.string (bs s.f.nm)), R, (.int .i64 A.f.kind), (.string (bs A.f.tb)), (.string (bs A.f.nm)), A.f.cv, A.f.gv, A.f.vv, A.f.iv, (.string (bs A.f.join)), A.f.ov, A.f.wv, A.f.rv, (.bool A.f.desc), A.nv])) ⟨rfl, (zC Y rfl ac), ⟨rfl, (zC Y rfl ad), ⟨rfl, (zC Y rfl ae), trivial⟩⟩⟩ (by obtain ⟨_, _, _, rfl⟩ := J.sl; kernel_rfl) (kt_end rfl ⟨c, l⟩ (kt_step (rs := [11]) zy (one_mem ?_)))
  intro ae Y _ ab aa ad ac o_ ho_; obtain rfl := zE ho_
  obtain ⟨hb, _⟩ := yG hb Y
  have Q := Q.kz Y
  have J := J.keep0 Y
  have ad : Sl ab 68 (.agg #[(.string (bs s.f.nm)), R, (.int .i64 A.f.kind), (.string (bs A.f.tb)), (.string (bs A.f.nm)), A.f.cv, A.f.gv, A.f.vv, A.f.iv, (.string (bs A.f.join)), A.f.ov, A.f.wv, A.f.rv, (.bool A.f.desc), A.nv]) := (zE ((ac 10 _ 68 zy rfl rfl).1 rfl)).symm
  refine op_bslice (e := 68) (pv := [(0, (.agg #[(.string (bs s.f.nm)), R, (.int .i64 A.f.kind), (.string (bs A.f.tb)), (.string (bs A.f.nm)), A.f.cv, A.f.gv, A.f.vv, A.f.iv, (.string (bs A.f.join)), A.f.ov, A.f.wv, A.f.rv, (.bool A.f.desc), A.nv]))]) (cs := [(.string (bs s.f.nm)), R, (.int .i64 A.f.kind), (.string (bs A.f.tb)), (.string (bs A.f.nm)), A.f.cv, A.f.gv, A.f.vv, A.f.iv, (.string (bs A.f.join)), A.f.ov, A.f.wv, A.f.rv, (.bool A.f.desc), A.nv]) ⟨rfl, (zC aa rfl ad), trivial⟩ (by obtain ⟨_, _, _, rfl⟩ := J.sl; kernel_rfl) ?_
  intro af ac ad ae ab aa
  obtain ⟨hb, _⟩ := yG hb aa
  have Q := Q.kz aa
  have c := (c.keep0 Y).keep0 aa
  have l := (l.keep0 Y).keep0 aa
  refine kt_end rfl ⟨c, l⟩ (kt_step (rs := [12]) zy (one_mem ?_))
  intro ai ad _ ae af ah ag o_ ho_; obtain rfl := zE ho_
  obtain ⟨hb, _⟩ := yG hb ad
  have P := ((((P.keep0 W).keep0 U).keep0 Y).keep0 aa).keep0 ad
  have J := (J.keep0 aa).keep0 ad
  have M := (((M.keep0 U).keep0 Y).keep0 aa).keep0 ad
  have ab := ab.keep0 ad
  have ah : Sl ae 59 vv := (ag 1 _ 59 zy rfl rfl).2 rfl
  have ai : Sl ae 69 (.slice (some ⟨ac, 0, none⟩) 1 1) := (zE ((ag 11 _ 69 zy rfl rfl).1 rfl)).symm
  have ac := P
  refine op_append slt28 (zC af rfl ah) ac (zC af rfl ai) (Src.ofRd Tryz.underlying28 zz (RdC.ofBx (sz := 15) (n := 1) ab rfl zz) (by simp only [yA, yB, yC, yD, J.one, M.ff.1.one, M.ff.2.1.one, M.ff.2.2.1.1.one, M.ff.2.2.2.1.one, M.ff.2.2.2.2.1.1.one, M.ff.2.2.2.2.2.1.1.one, M.ff.2.2.2.2.2.2.1.one, M.nvr.one]; try rfl)) (by unfold maxLen; omega) zx (by first | exact Nat.le_trans (by assumption) hb.size | (have := hb.size; omega)) ?_
  intro af ag ab ae ah
  have := ae.size
  have Q := (Q.kz ad).keepG (Gr.of ae) d1.symm
  have c := (c.keep0 ad).keepO ac ae zz
  have l := (l.keep0 ad).keepO ac ae zz
  have hb := hb.stepL ae (fun k _ h => h)
  have ab : Own ag base 68 15 af (V ++ [(DVw.mk s.f.nm R (normL s.f.tags) A)]).length (((V ++ [(DVw.mk s.f.nm R (normL s.f.tags) A)])).flatMap cellsW) := by exact ab.cast (by simp) (by simp [cellsW])
  refine kt_end rfl ⟨c, l⟩ ?_
  intro al l ak ag ah ai aj
  have ah := ah.trans ((by simp only [putsL_defers] : _ = _).trans hd)
  obtain ⟨hb, _⟩ := yG hb l
  have c := c.keep0 l
  have ab := ab.keep0 l
  have al := (ai 4 rfl).trans (zU hN rfl)
  have am := (ai 8 rfl).trans (zU hN rfl)
  have ai : Sl ak 70 af := (zE ((aj 12 _ 70 rfl rfl).1 rfl)).symm
  refine split_end (from_seq (tl := [_, _]) zz zy rfl (zM fld30_1 (zC ag rfl al) ?_))
  have aj := c
  refine za (vs := [af]) (cs' := [tv, af]) size28 (zA ag rfl) (zC ag rfl ai) ab.cl rfl (by simp only [yA, yB, yC, yD, ab.one]; try rfl) c (zI rfl) rfl ?_
  intro ai c af
  have := af.size
  have O := ((((((((((O.keep0 t).keep0 T).keep0 x).keep0 W).keep0 U).keep0 Y).keep0 aa).keep0 ad).keepT ac ae zz).keep0 l).keepX aj af zz
  have C := ((((((((((C.keep0 t).keep0 T).keep0 x).keep0 W).keep0 U).keep0 Y).keep0 aa).keep0 ad).keepO ac ae zz).keep0 l).keep af sB
  have ab := ab.keepX aj af zz
  have hb := hb.step1 af zx
  refine zB (a _ _ (zF fun _ a => zH (zY agg30 rfl (zC ag rfl al) c ?_)))
  have r := C
  refine zZ size30 (zC ag rfl am) (zA ag rfl) rfl (by simp only [yA, yB, yC, yD, O.one, ab.one]; try rfl) C rfl ?_
  intro x C t
  have := t.size
  have Q := ((Q.kz l).keepG (Gr.of af) (Dj.one y)).keepG (Gr.of t) (Dj.one K)
  have J := (((J.keepT ac ae zz).keep0 l).keepX aj af zz).keepX r t zz
  have M := (((M.keep ae Z).keep0 l).keep af sO).keep t sO
  have ab := ab.keepX r t zz
  have hb := hb.step1 t zx
  refine zD rfl (zB (a _ _ (wp_ret (retD rfl ah (zC ag rfl am) agg30 rfl C (zA ag rfl) ⟨_, rfl, ?_⟩))))
  have z : (viewE (V.map DVw.nm) o s kk) = 0 := by unfold viewE; rw [if_neg (fun h => m (vw_mem.2 h)), if_neg (by rw [List.length_map]; omega), if_neg (fun h => h H), if_neg (fun h => h.elim (fun g => by omega) fun g => g (of_decide_eq_true p))]
  have a := normL_len s.f.tags
  rw [z]; exact ⟨hb, _, V ++ [(DVw.mk s.f.nm R (normL s.f.tags) A)], _, rfl, ab, Q.snoc (L := w.heap.size) (B := x.heap.size) ⟨J.rdw.mono zx (Nat.le_refl _), M.mono zx zx, Nat.le_trans a zz⟩ hbw (Nat.le_refl _), fun k hk => hk.elim .inl fun q => .inr q.1, by simp; omega, fun _ => ⟨_, rfl, rfl, rfl, X⟩, fun h => absurd rfl h⟩
 rw [p]
 refine zS (j := 4) (dj := 41) (b := false) rfl rfl rfl (zA hN rfl) (op_not (zA hN rfl) (zd (zA hN rfl) (zA hN rfl) (zD (zA hN rfl) (zB (I _ _ (wp_cond_true (zA hN rfl) (zF fun _ I => zH (zY agg30 rfl (zA hN rfl) c ?_))))))))
 have r := C
 refine zZ size30 (zA hN rfl) (zA hN rfl) rfl (by simp only [yA, yB, yC, yD, O.one, P.one]; try rfl) C rfl ?_
 intro c C a
 have := a.size
 have P := P.keepX r a zz
 have Q := Q.keepG (Gr.of a) (Dj.one K)
 have hb := hb.step1 a zx
 refine zD rfl (zB (I _ _ (wp_ret (zb (zO ( (retD rfl hd (zA hN rfl) agg30 rfl C (zA hN rfl) ⟨_, rfl, ?_⟩)))))))
 have z : (viewE (V.map DVw.nm) o s kk) = 1 := by unfold viewE; rw [if_neg (fun h => m (vw_mem.2 h)), if_neg (by rw [List.length_map]; omega), if_neg (fun h => h H), if_pos (.inr (of_decide_eq_false p))]
 rw [z]; exact ⟨hb, _, V, FV, rfl, P, Q, NewF.refl _ _, hVz, fun h => absurd h (by first | decide | exact H), fun _ => rfl⟩

theorem AddN_ret {tv vv ow : Value} {D : List DTab} {V : List DVw} {o : Lb} {s : XS} {w : World} (hT : TsRd w w.heap.size tv D) (hD : D.length ≤ 1000000) (hsz : ∀ d ∈ D, d.t.cols.length ≤ 1000000 ∧ d.t.idx.length ≤ 1000000) (hV : VsFr w 0 w.heap.size vv V) (he : SFr w 0 w.heap.size s) (hol : o.length ≤ 100) (ho : RdC w 0 w.heap.size 1 ow o.length (o.map u16v)) (hk2 : s.f.kind ≠ 2) : Ret Tryz.prog 9 #[(.agg #[tv, vv]), (.agg #[(.int .i64 s.f.kind), (.string (bs s.f.tb)), (.string (bs s.f.nm)), s.f.cv, s.f.gv, s.f.vv, s.f.iv, (.string (bs s.f.join)), s.f.ov, s.f.wv, s.f.rv, (.bool s.f.desc), s.nv]), ow] w (fun v' w' => Below w.heap.size w w' ∧ ∃ (tv' vv' : Value) (D' : List DTab) (V' : List DVw), v' = .tuple #[.agg #[tv', vv'], .int .i64 (addE (D.map DTab.t) (V.map DVw.nm) o s)] ∧ TsFr w' w.heap.size w'.heap.size tv' D' ∧ VsFr w' w.heap.size w'.heap.size vv' V' ∧ ((addE (D.map DTab.t) (V.map DVw.nm) o s) = 0 → D'.map DTab.t = addT (D.map DTab.t) s ∧ AddV V V' s) ∧ ((addE (D.map DTab.t) (V.map DVw.nm) o s) ≠ 0 → D' = [] ∧ V' = [])) := by
 have hR := hT.1
 have a := hV.3
 have hb := Below.refl w.heap.size w
 refine enter (N := 55) Tryz.func9 rfl rfl (by simp) fun b hN hd hA => ?_
 have c : b.tmps.getD 0 undef = (.agg #[tv, vv]) := hA 0 (by simp)
 have g : b.tmps.getD 1 undef = (.agg #[(.int .i64 s.f.kind), (.string (bs s.f.tb)), (.string (bs s.f.nm)), s.f.cv, s.f.gv, s.f.vv, s.f.iv, (.string (bs s.f.join)), s.f.ov, s.f.wv, s.f.rv, (.bool s.f.desc), s.nv]) := hA 1 (by simp)
 have j : b.tmps.getD 2 undef = ow := hA 2 (by simp)
 clear hA
 refine zF fun _ b => zH (op_box (cs := [tv, vv]) (zC hN rfl c) rfl ?_)
 intro m r p q c l
 obtain ⟨hb, _⟩ := yE hb l
 refine op_box (cs := [(.int .i64 s.f.kind), (.string (bs s.f.tb)), (.string (bs s.f.nm)), s.f.cv, s.f.gv, s.f.vv, s.f.iv, (.string (bs s.f.join)), s.f.ov, s.f.wv, s.f.rv, (.bool s.f.desc), s.nv]) (zC hN rfl g) rfl ?_
 intro q m p r g l
 obtain ⟨hb, _⟩ := yE hb l
 refine op_alloc (cs := [(.slice none 0 0), (.slice none 0 0)]) zero30 rfl ?_
 intro r p t u m q
 obtain ⟨hb, _⟩ := yE hb q
 have c := (c.keep0 l).keep0 q
 refine zD rfl (zB (b _ _ (zF fun _ b => zH (zY agg30 rfl (zA hN rfl) c ?_))))
 have hT' := hT.keep0 (zQ hb)
 have hV' := hV.keep0 (zQ hb)
 refine zj ok22 (twin_ret (hT'.mono zx) hD hsz (hV'.mono (Nat.zero_le _) zx)) ⟨(zA hN rfl), trivial⟩ ?_
 rintro _ M ⟨B, J, L, C, z, G, H, rfl, l, u, A, t, y, K, F, P, O, E, I⟩
 have O : ∀ x, G x → r.heap.size ≤ x := fun x hx => (u.lt x hx).1
 have P : ¬ G p := fun hf => by have := O _ hf; have := m.lt; omega
 have O : ∀ x, H x → r.heap.size ≤ x := fun x hx => (y.lt x hx).1
 have r : ¬ H p := fun hf => by have := O _ hf; have := m.lt; omega
 have B := zQ B
 obtain ⟨hb, _⟩ := yE hb B
 have l := l.mono (base' := w.heap.size) zx
 have t := t.mono (base' := w.heap.size) zx
 have u : TabsR M w.heap.size C G := u.mono zx
 have y : VsIn M w.heap.size z H := y.mono zx
 refine op_alloc (cs := [(.slice none 0 0), (.slice none 0 0)]) zero30 rfl ?_
 intro R Q S T M O
 have R : ¬ G Q := fun hf => by have := (u.lt _ hf).2; omega
 have G : ¬ H Q := fun hf => by have := (y.lt _ hf).2; omega
 obtain ⟨hb, _⟩ := yE hb O
 have g := ((g.keep0 q).keep0 B).keep0 O
 have l := l.keep0 O
 have t := t.keep0 O
 have q := M
 refine zZ size30 (zA hN rfl) (zA hN rfl) rfl (by simp only [yA, yB, yC, yD, l.one, t.one]; try rfl) M rfl ?_
 intro S M H
 have := H.size
 have c := ((c.keep0 B).keep0 O).keep H sB
 have g := g.keep H (sN g q)
 have m := ((m.keep0 B).keep0 O).keep H sB
 have l := l.keepX q H zz
 have u := (u.kz O).keepG (Gr.of H) (Dj.one R)
 have t := t.keepX q H zz
 have y := (y.kz O).keepG (Gr.of H) (Dj.one G)
 have hb := below_step1 hb H hb.size zx
 refine zD rfl (zB (b _ _ (zF fun _ b => zF fun _ B => zH ?_)))
 obtain ⟨O, H⟩ := sz_of A hD hsz
 have S : z.length ≤ 1000 := by have := a; omega
 have a := names_same E I
 refine zM fld37_0 (zA hN rfl) (zN one3 (zA hN rfl) (g.cell rfl) (zB (B _ _ (wp_block (zF fun _ B => zH (op_eql (zA hN rfl) rfl (fun T => ?_) (fun T => ?_)))))))
 ·
  refine zD (zA hN rfl) (zB (B _ _ (wp_cond_true (zA hN rfl) (zH (zY agg30 rfl (zA hN rfl) M (zY agg37 rfl (zA hN rfl) g ?_))))))
  have he' := he.keep0 (zQ hb)
  refine zj ok23 (table_ret l u t y K F O H S he' (Nat.le_refl _) zx) ⟨(zA hN rfl), ⟨(zA hN rfl), trivial⟩⟩ ?_
  rintro _ aa ⟨X, ac, Z, ab, rfl, U, W, Y⟩
  have aa := l
  have ab := c.lt
  have ac := g.lt
  have ad := m.lt
  have ae := M.lt
  have af : Dj (Bl L) (Bl J) := t.notOwn aa zz
  have := X.size
  have m := m.keepG X (aa.notBx m zz)
  have t := t.keepG X af
  have M := M.keepG X (aa.notBx M zz)
  have hb := below_stepG hb X hb.size (fun k hk => (aa.lt k hk).1)
  refine zG (zA hN rfl) (zW (zA hN rfl) rfl (zW (zA hN rfl) rfl ?_))
  have q := M
  refine zZ size30 (zA hN rfl) (zA hN rfl) rfl (by simp only [yA, yB, yC, yD, U.one, t.one]; try rfl) M rfl ?_
  intro af M aa
  have := aa.size
  have m := m.keep aa sB
  have t := t.keepX q aa zz
  have y := (y.keepG X F.symm).keepG (Gr.of aa) (Dj.one G)
  have U := U.keepX q aa zz
  have W := W.keepG (Gr.of aa) (Dj.one (W.notBx q zz zz))
  have hb := below_step1 hb aa hb.size zx
  refine zD (zA hN rfl) (zB (b _ _ (zF fun _ b => zF fun _ B => zH (zG (zA hN rfl) (op_neq (zA hN rfl) rfl (fun X => ?_) (fun X => ?_))))))
  ·
   refine zB (B _ _ (wp_cond_true (zA hN rfl) (zF fun _ B => zH (zf (pv := []) (v := (Value.agg #[(.slice none 0 0), (.slice none 0 0)])) trivial zy (zG (zA hN rfl) (zZ size30 (zA hN rfl) (zA hN rfl) rfl rfl m rfl ?_))))))
   intro af m aa
   have := aa.size
   have hb := below_step1 hb aa hb.size zx
   refine zD (zA hN rfl) (zB (B _ _ (wp_ret (zO ( (retD rfl hd (zA hN rfl) agg30 rfl m (zA hN rfl) ⟨_, rfl, ?_⟩))))))
   have e9 : (addE (D.map DTab.t) (V.map DVw.nm) o s) = (tabE (C.map DTab.t) s.f.nm s.f.cols) := (addE_1 T).trans (by rw [A])
   rw [e9]; exact ⟨hb, _, _, [], [], rfl, ⟨RdC.nil _ _ _ _, fun _ h => (by cases h)⟩, VsFr.nil _ _ _, fun h => absurd h X, fun _ => ⟨rfl, rfl⟩⟩
  refine zB (B _ _ (wp_cond_false (zA hN rfl) (wp_skip (b _ _ (zF fun _ b => zH (zY agg30 rfl (zA hN rfl) M ?_))))))
  have aa := m
  refine zZ size30 (zA hN rfl) (zA hN rfl) rfl (by simp only [yA, yB, yC, yD, U.one, t.one]; try rfl) m rfl ?_
  intro ag m af
  have := af.size
  have t := t.keepX aa af zz
  have y := y.keepG (Gr.of af) (Dj.one r)
  have U := U.keepX aa af zz
  have W := W.keepG (Gr.of af) (Dj.one (W.notBx aa zz zz))
  have hb := below_step1 hb af hb.size zx
  refine zD rfl (zB (b _ _ (wp_ret (retD rfl hd (zA hN rfl) agg30 rfl m (zA hN rfl) ⟨_, rfl, ?_⟩))))
  have e9 : (addE (D.map DTab.t) (V.map DVw.nm) o s) = (tabE (C.map DTab.t) s.f.nm s.f.cols) := (addE_1 T).trans (by rw [A])
  rw [e9, X]; exact ⟨hb, _, _, Z, z, rfl, TabsR.fr W U, y.fr S t, fun _ => ⟨by rw [Y, if_pos X, A, addT_1 T], AddV.n zx E I⟩, fun h => absurd rfl h⟩
 refine zD (zA hN rfl) (zB (B _ _ (wp_cond_false (zA hN rfl) (zF fun _ B => zH (op_eql (zA hN rfl) rfl (fun T => ?_) (fun T => ?_))))))
 ·
  exact absurd T hk2
 refine zD (zA hN rfl) (zB (B _ _ (wp_cond_false (zA hN rfl) (zF fun _ B => zH (op_eql (zA hN rfl) rfl (fun T => ?_) (fun T => ?_))))))
 ·
  refine zD (zA hN rfl) (zB (B _ _ (wp_cond_true (zA hN rfl) (zH (zY agg30 rfl (zA hN rfl) M (zY agg37 rfl (zA hN rfl) g (zG (zC hN rfl j) (op_bslice (e := 3) (pv := [(0, (.int .i64 6))]) (cs := [(.int .i64 6)]) ⟨rfl, rfl, trivial⟩ zy ?_))))))))
  intro Y Z af ag W U
  obtain ⟨hb, _⟩ := yE hb U
  have l := l.keep0 U
  obtain ⟨c, g, m⟩ := kb3 U c g m
  have u := u.kz U
  have t := t.keep0 U
  have y := y.kz U
  have M := M.keep0 U
  have he' := he.keep0 (zQ hb)
  have ho' := ho.keep0 (zQ hb)
  refine zj ok25 (view_ret (kk := [6]) l u t y K F O H S he' (Nat.le_refl _) zx hol (ho'.mono (Nat.le_refl _) zx) ((RdC.ofBx (sz := 1) (n := 1) W rfl zz).mono (Nat.zero_le _) zx)) ⟨(zA hN rfl), ⟨(zA hN rfl), ⟨(zA hN rfl), ⟨(zA hN rfl), trivial⟩⟩⟩⟩ ?_
  rintro _ am ⟨Y, ak, ai, ag, rfl, U, Z, af, ah, aj, al⟩
  have ak := t
  have ab := c.lt
  have ac := g.lt
  have ad := m.lt
  have ae := M.lt
  have al := W.lt
  have W : Dj (Bl J) (Bl L) := l.notOwn ak zz
  have al := (u.notOwn t zz zz).symm
  have := Y.size
  have m := m.keepG Y (ak.notBx m zz)
  have l := l.keepG Y W
  have M := M.keepG Y (ak.notBx M zz)
  have hb := below_stepG hb Y hb.size (fun k hk => (ak.lt k hk).1)
  have W : ¬ ag p := ne_stepF af ad r
  have ak : ¬ ag Q := ne_stepF af ae G
  refine zG (zA hN rfl) (zW (zA hN rfl) rfl (zW (zA hN rfl) rfl ?_))
  have q := M
  refine zZ size30 (zA hN rfl) (zA hN rfl) rfl (by simp only [yA, yB, yC, yD, l.one, U.one]; try rfl) M rfl ?_
  intro ag M af
  have := af.size
  have m := m.keep af sB
  have l := l.keepX q af zz
  have u := (u.keepG Y al).keepG (Gr.of af) (Dj.one R)
  have U := U.keepX q af zz
  have Z := Z.keepG (Gr.of af) (Dj.one ak)
  have hb := below_step1 hb af hb.size zx
  refine zD (zA hN rfl) (zB (b _ _ (zF fun _ b => zF fun _ B => zH (zG (zA hN rfl) (op_neq (zA hN rfl) rfl (fun X => ?_) (fun X => ?_))))))
  ·
   refine zB (B _ _ (wp_cond_true (zA hN rfl) (zF fun _ B => zH (zf (pv := []) (v := (Value.agg #[(.slice none 0 0), (.slice none 0 0)])) trivial zy (zG (zA hN rfl) (zZ size30 (zA hN rfl) (zA hN rfl) rfl rfl m rfl ?_))))))
   intro af m Y
   have := Y.size
   have hb := below_step1 hb Y hb.size zx
   refine zD (zA hN rfl) (zB (B _ _ (wp_ret (zO ( (retD rfl hd (zA hN rfl) agg30 rfl m (zA hN rfl) ⟨_, rfl, ?_⟩))))))
   have e9 : (addE (D.map DTab.t) (V.map DVw.nm) o s) = (viewE (z.map DVw.nm) o s [6]) := (addE_3 T).trans (by rw [a])
   rw [e9]; exact ⟨hb, _, _, [], [], rfl, ⟨RdC.nil _ _ _ _, fun _ h => (by cases h)⟩, VsFr.nil _ _ _, fun h => absurd h X, fun _ => ⟨rfl, rfl⟩⟩
  refine zB (B _ _ (wp_cond_false (zA hN rfl) (wp_skip (b _ _ (zF fun _ b => zH (zY agg30 rfl (zA hN rfl) M ?_))))))
  have aa := m
  refine zZ size30 (zA hN rfl) (zA hN rfl) rfl (by simp only [yA, yB, yC, yD, l.one, U.one]; try rfl) m rfl ?_
  intro af m Y
  have := Y.size
  have l := l.keepX aa Y zz
  have u := u.keepG (Gr.of Y) (Dj.one P)
  have U := U.keepX aa Y zz
  have Z := Z.keepG (Gr.of Y) (Dj.one W)
  have hb := below_step1 hb Y hb.size zx
  refine zD rfl (zB (b _ _ (wp_ret (retD rfl hd (zA hN rfl) agg30 rfl m (zA hN rfl) ⟨_, rfl, ?_⟩))))
  have e9 : (addE (D.map DTab.t) (V.map DVw.nm) o s) = (viewE (z.map DVw.nm) o s [6]) := (addE_3 T).trans (by rw [a])
  obtain ⟨T, hVd, hnd⟩ := aj X
  rw [e9, X]; exact ⟨hb, _, _, C, ai, rfl, TabsR.fr u l, Z.fr ah U, fun _ => ⟨by rw [A, addT_v zx], by rw [hVd]; exact AddV.v zx E I hnd⟩, fun h => absurd rfl h⟩
 refine zD (zA hN rfl) (zB (B _ _ (wp_cond_false (zA hN rfl) (zF fun _ B => zH (op_eql (zA hN rfl) rfl (fun U => ?_) (fun U => ?_))))))
 ·
  refine zD (zA hN rfl) (zB (B _ _ (wp_cond_true (zA hN rfl) (zH (zY agg30 rfl (zA hN rfl) M (zY agg37 rfl (zA hN rfl) g (zG (zC hN rfl j) (op_bslice (e := 3) (pv := [(0, (.int .i64 5)), (1, (.int .i64 7)), (2, (.int .i64 8))]) (cs := [(.int .i64 5), (.int .i64 7), (.int .i64 8)]) ⟨rfl, rfl, ⟨rfl, rfl, ⟨rfl, rfl, trivial⟩⟩⟩ zy ?_))))))))
  intro af ag Y Z W j
  obtain ⟨hb, _⟩ := yE hb j
  have l := l.keep0 j
  obtain ⟨c, g, m⟩ := kb3 j c g m
  have u := u.kz j
  have t := t.keep0 j
  have y := y.kz j
  have M := M.keep0 j
  have he' := he.keep0 (zQ hb)
  have ho' := ho.keep0 (zQ hb)
  refine zj ok25 (view_ret (kk := [5, 7, 8]) l u t y K F O H S he' (Nat.le_refl _) zx hol (ho'.mono (Nat.le_refl _) zx) ((RdC.ofBx (sz := 1) (n := 3) W rfl zz).mono (Nat.zero_le _) zx)) ⟨(zA hN rfl), ⟨(zA hN rfl), ⟨(zA hN rfl), ⟨(zA hN rfl), trivial⟩⟩⟩⟩ ?_
  rintro _ ag ⟨y, af, S, H, rfl, j, F, K, Y, O, Z⟩
  have Z := t
  have ab := c.lt
  have ac := g.lt
  have ad := m.lt
  have ae := M.lt
  have c := W.lt
  have c : Dj (Bl J) (Bl L) := l.notOwn Z zz
  have g := (u.notOwn t zz zz).symm
  have := y.size
  have m := m.keepG y (Z.notBx m zz)
  have l := l.keepG y c
  have M := M.keepG y (Z.notBx M zz)
  have hb := below_stepG hb y hb.size (fun k hk => (Z.lt k hk).1)
  have c : ¬ H p := ne_stepF K ad r
  have p : ¬ H Q := ne_stepF K ae G
  refine zG (zA hN rfl) (zW (zA hN rfl) rfl (zW (zA hN rfl) rfl ?_))
  have q := M
  refine zZ size30 (zA hN rfl) (zA hN rfl) rfl (by simp only [yA, yB, yC, yD, l.one, j.one]; try rfl) M rfl ?_
  intro t M r
  have := r.size
  have m := m.keep r sB
  have l := l.keepX q r zz
  have u := (u.keepG y g).keepG (Gr.of r) (Dj.one R)
  have j := j.keepX q r zz
  have F := F.keepG (Gr.of r) (Dj.one p)
  have hb := below_step1 hb r hb.size zx
  refine zD (zA hN rfl) (zB (b _ _ (zF fun _ b => zF fun _ B => zH (zG (zA hN rfl) (op_neq (zA hN rfl) rfl (fun X => ?_) (fun X => ?_))))))
  ·
   refine zB (B _ _ (wp_cond_true (zA hN rfl) (zF fun _ B => zH (zf (pv := []) (v := (Value.agg #[(.slice none 0 0), (.slice none 0 0)])) trivial zy (zG (zA hN rfl) (zZ size30 (zA hN rfl) (zA hN rfl) rfl rfl m rfl ?_))))))
   intro p m g
   have := g.size
   have hb := below_step1 hb g hb.size zx
   refine zD (zA hN rfl) (zB (B _ _ (wp_ret (zO ( (retD rfl hd (zA hN rfl) agg30 rfl m (zA hN rfl) ⟨_, rfl, ?_⟩))))))
   have e9 : (addE (D.map DTab.t) (V.map DVw.nm) o s) = (viewE (z.map DVw.nm) o s [5, 7, 8]) := (addE_4 U).trans (by rw [a])
   rw [e9]; exact ⟨hb, _, _, [], [], rfl, ⟨RdC.nil _ _ _ _, fun _ h => (by cases h)⟩, VsFr.nil _ _ _, fun h => absurd h X, fun _ => ⟨rfl, rfl⟩⟩
  refine zB (B _ _ (wp_cond_false (zA hN rfl) (wp_skip (b _ _ (zF fun _ b => zH (zY agg30 rfl (zA hN rfl) M ?_))))))
  have aa := m
  refine zZ size30 (zA hN rfl) (zA hN rfl) rfl (by simp only [yA, yB, yC, yD, l.one, j.one]; try rfl) m rfl ?_
  intro p m g
  have := g.size
  have l := l.keepX aa g zz
  have u := u.keepG (Gr.of g) (Dj.one P)
  have j := j.keepX aa g zz
  have F := F.keepG (Gr.of g) (Dj.one c)
  have hb := below_step1 hb g hb.size zx
  refine zD rfl (zB (b _ _ (wp_ret (retD rfl hd (zA hN rfl) agg30 rfl m (zA hN rfl) ⟨_, rfl, ?_⟩))))
  have e9 : (addE (D.map DTab.t) (V.map DVw.nm) o s) = (viewE (z.map DVw.nm) o s [5, 7, 8]) := (addE_4 U).trans (by rw [a])
  obtain ⟨T, hVd, hnd⟩ := O X
  rw [e9, X]; exact ⟨hb, _, _, C, S, rfl, TabsR.fr u l, F.fr Y j, fun _ => ⟨by rw [A, addT_v zx], by rw [hVd]; exact AddV.v zx E I hnd⟩, fun h => absurd rfl h⟩
 refine zD (zA hN rfl) (zB ?_)
 refine B _ _ (wp_cond_false (zA hN rfl) (wp_skip (b _ _ (zF fun _ b => zF fun _ B => zH (zG (zA hN rfl) (op_bin (v := .bool true) (zA hN rfl) rfl (by rw [binOp_neq]; rfl) (zB (B _ _ (wp_cond_true (zA hN rfl) (zF fun _ B => zH (zf (pv := []) (v := (Value.agg #[(.slice none 0 0), (.slice none 0 0)])) trivial zy (zG (zA hN rfl) (zZ size30 (zA hN rfl) (zA hN rfl) rfl rfl m rfl ?_)))))))))))))
 intro b m a
 have := a.size
 have hb := below_step1 hb a hb.size zx
 refine zD (zA hN rfl) (zB (B _ _ (wp_ret (zO ( (retD rfl hd (zA hN rfl) agg30 rfl m (zA hN rfl) ⟨_, rfl, ?_⟩))))))
 have e9 : (addE (D.map DTab.t) (V.map DVw.nm) o s) = 1 := addE_5 zx
 rw [e9]; exact ⟨hb, _, _, [], [], rfl, ⟨RdC.nil _ _ _ _, fun _ h => (by cases h)⟩, VsFr.nil _ _ _, fun h => absurd h zz, fun _ => ⟨rfl, rfl⟩⟩

theorem index_ret {tv vv : Value} {D : List DTab} {V : List DVw} {F FV : Nat → Prop} {base Bs : Nat} {s : XS} {w : World} (O : Own w base 51 3 tv D.length (D.flatMap cellsT)) (S : TabsR w base D F) (P : Own w base 68 15 vv V.length (V.flatMap cellsW)) (Q : VsIn w base V FV) (d1 : Dj (Bl vv) FV) (d2 : Dj (Bl tv) FV) (hD : D.length ≤ 1000000) (hsz : ∀ d ∈ D, d.t.cols.length ≤ 1000000 ∧ d.t.idx.length ≤ 1000000) (hVz : V.length ≤ 1000) (d3 : Dj F FV) (hPw : PwI D) (he : SFr w 0 Bs s) (hBs : Bs ≤ base) (hbw : base ≤ w.heap.size) : Ret Tryz.prog 24 #[(.agg #[tv, vv]), (.agg #[(.int .i64 s.f.kind), (.string (bs s.f.tb)), (.string (bs s.f.nm)), s.f.cv, s.f.gv, s.f.vv, s.f.iv, (.string (bs s.f.join)), s.f.ov, s.f.wv, s.f.rv, (.bool s.f.desc), s.nv])] w (fun v' w' => Gr w w' (fun x => Bl tv x ∨ F x) ∧ ∃ (D' : List DTab) (F' : Nat → Prop), v' = .tuple #[.agg #[tv, vv], .int .i64 (idxE (D.map DTab.t) s.f.tb s.f.nm)] ∧ Own w' base 51 3 tv D'.length (D'.flatMap cellsT) ∧ TabsR w' base D' F' ∧ ((idxE (D.map DTab.t) s.f.tb s.f.nm) = 0 → D'.map DTab.t = idxT (D.map DTab.t) s.f.tb s.f.nm)) := by
 obtain ⟨hfc, hfg, hfv, hfi, hfo, hfw, hfr⟩ := he.ff
 have hfn := he.inn
 obtain ⟨⟨a, b, g⟩, c⟩ := he.sm
 have a := fun d hd => (hsz d hd).2
 have hb := Gr.refl w (fun x => Bl tv x ∨ F x)
 refine enter (N := 53) Tryz.func24 rfl rfl (by simp) fun b hN hd hA => ?_
 have c : b.tmps.getD 0 undef = (.agg #[tv, vv]) := hA 0 (by simp)
 have g : b.tmps.getD 1 undef = (.agg #[(.int .i64 s.f.kind), (.string (bs s.f.tb)), (.string (bs s.f.nm)), s.f.cv, s.f.gv, s.f.vv, s.f.iv, (.string (bs s.f.join)), s.f.ov, s.f.wv, s.f.rv, (.bool s.f.desc), s.nv]) := hA 1 (by simp)
 clear hA
 refine zF fun _ b => zH (op_box (cs := [tv, vv]) (zC hN rfl c) rfl ?_)
 intro o l p q c m
 obtain ⟨hb, _⟩ := yG hb m
 have S := S.kz m
 refine op_box (cs := [(.int .i64 s.f.kind), (.string (bs s.f.tb)), (.string (bs s.f.nm)), s.f.cv, s.f.gv, s.f.vv, s.f.iv, (.string (bs s.f.join)), s.f.ov, s.f.wv, s.f.rv, (.bool s.f.desc), s.nv]) (zC hN rfl g) rfl ?_
 intro t p y r g q
 obtain ⟨hb, _⟩ := yG hb q
 have S := S.kz q
 refine op_alloc (cs := [(.slice none 0 0), (.slice none 0 0)]) zero30 rfl ?_
 intro z y A B r t
 have z : ¬ F y := fun hf => by have := (S.lt _ hf).2; omega
 obtain ⟨hb, _⟩ := yG hb t
 have O := ((O.keep0 m).keep0 q).keep0 t
 have S := S.kz t
 have c := (c.keep0 q).keep0 t
 have g := g.keep0 t
 refine zD rfl (zB (b _ _ (zF fun _ b => ?_)))
 refine zH (zM fld30_0 (zA hN rfl) (zN one27 (zA hN rfl) (c.cell rfl) (zM fld37_1 (zA hN rfl) (zN one9 (zA hN rfl) (g.cell rfl) (zj ok37 (findTable (L := (D : List DTab)) s.f.tb (O.rdw.mono (Nat.zero_le _) zx)) ⟨(zA hN rfl), ⟨(zA hN rfl), ⟨rfl, trivial⟩⟩⟩ ?_)))))
 rintro _ A ⟨y, rfl⟩
 have y := zQ y
 obtain ⟨hb, _⟩ := yG hb y
 have O := O.keep0 y
 have S := S.kz y
 have P := (((P.keep0 m).keep0 q).keep0 t).keep0 y
 obtain ⟨c, g, r⟩ := kb3 y c g r
 refine zD (zA hN rfl) (zB (b _ _ (zF fun _ b => wp_block (zF fun _ m => zH (zG (zA hN rfl) (op_lss (zA hN rfl) rfl (fun q => ?_) (fun q => ?_)))))))
 ·
  refine zD (zA hN rfl) (zB (m _ _ (wp_cond_true (zA hN rfl) (zF fun _ m => zH (zY agg30 rfl (zA hN rfl) c ?_)))))
  have t := r
  refine zZ size30 (zA hN rfl) (zA hN rfl) rfl (by simp only [yA, yB, yC, yD, O.one, P.one]; try rfl) r rfl ?_
  intro A r y
  have := y.size
  have O := O.keepX t y zz
  have S := S.keepG (Gr.of y) (Dj.one z)
  have hb := hb.step1 y zx
  refine zD rfl (zB (m _ _ (wp_ret (zb (zO ( (retD rfl hd (zA hN rfl) agg30 rfl r (zA hN rfl) ⟨_, rfl, ?_⟩)))))))
  have y : (idxE (D.map DTab.t) s.f.tb s.f.nm) = 9 := idxE_1 (tab_none q)
  rw [y]; exact ⟨hb, D, F, rfl, O, S, fun h => absurd h zz⟩
 refine zD (zA hN rfl) (zB (m _ _ (wp_cond_false (zA hN rfl) (zF fun _ m => ?_))))
 obtain ⟨A, B, hkl, hkn, hkt⟩ := tab_some q
 have q := (S.1 (D.getD A default) (getD_mem hkl)).1.rdw
 have C := (S.1 (D.getD A default) (getD_mem hkl)).2.rdw
 refine reg_split (hd := [_, _, _, _, _, _, _, _]) (tl := _) 8 mixed zy rfl rfl (any_tree (φ := phiV [(fun uz => uz = (ptr l 0)), (fun uz => uz = tv), (fun uz => uz = (.int .i64 (ixOf (fun d => decide (d.t.nm = s.f.tb)) D))), (fun _ => True), (fun _ => True), (fun uz => uz = (ptr p 2)), (fun uz => uz = (.string (bs s.f.nm))), (fun _ => True)]) (G := fun w' => Bx w' l 30 [tv, vv] ∧ Bx w' p 37 [(.int .i64 s.f.kind), (.string (bs s.f.tb)), (.string (bs s.f.nm)), s.f.cv, s.f.gv, s.f.vv, s.f.iv, (.string (bs s.f.join)), s.f.ov, s.f.wv, s.f.rv, (.bool s.f.desc), s.nv]) [3, 4, 7] zy zy zy zy zy hN (fun o J E h => by obtain ⟨H, I⟩ := h; exact ⟨H.keep0 E, I.keep0 E⟩) ⟨c, g⟩ (ObRs9.cons ?_ (ObRs9.cons ?_ (ObRs9.cons ?_ (ObRs9.pass rfl (ObRs9.pass rfl (ObRs9.cons ?_ (ObRs9.cons ?_ (ObRs9.pass rfl (ObRs9.nil))))))))) (by simp only [putsL_defers]) ?_)
 ·
  intro eA aA wA hNA hGA hbsA hdpA
  have K := (hbsA 2 rfl).trans (zU hN rfl)
  refine zM fld30_0 (zC hNA rfl K) ?_
  exact obT_end rfl rfl
 ·
  intro eA aA wA hNA hGA hbsA hdpA
  have M : Sl aA 17 (ptr l 0) := (hdpA 0 _ 17 zy rfl rfl).2 rfl
  obtain ⟨c, g⟩ := hGA
  refine zN one27 (zC hNA rfl M) (c.cell rfl) ?_
  exact obT_end rfl rfl
 ·
  intro eA aA wA hNA hGA hbsA hdpA
  have M := (hbsA 6 rfl).trans (zU hN rfl)
  refine zG (zC hNA rfl M) ?_
  exact obT_end rfl rfl
 ·
  intro eA aA wA hNA hGA hbsA hdpA
  have R := (hbsA 3 rfl).trans (zU hN rfl)
  refine zM fld37_2 (zC hNA rfl R) ?_
  exact obT_end rfl rfl
 ·
  intro eA aA wA hNA hGA hbsA hdpA
  have T : Sl aA 22 (ptr p 2) := (hdpA 5 _ 22 zy rfl rfl).2 rfl
  obtain ⟨c, g⟩ := hGA
  refine zN one9 (zC hNA rfl T) (g.cell rfl) ?_
  exact obT_end rfl rfl
 refine kt_step (rs := [3]) zy (one_mem ?_)
 intro Y T _ U X Z W o_ ho_; obtain rfl := zE ho_
 obtain ⟨hb, _⟩ := yG hb T
 have O := O.keep0 T
 have S := S.kz T
 obtain ⟨c, g⟩ := kb2 T c g
 have Z : Sl U 18 tv := (W 1 _ 18 zy rfl rfl).2 rfl
 have aa : Sl U 19 (.int .i64 (ixOf (fun d => decide (d.t.nm = s.f.tb)) D)) := (W 2 _ 19 zy rfl rfl).2 rfl
 refine zh slt27 (zC X rfl Z) O.rdw (zC X rfl aa) zx zx ?_
 intro U W aa Z X
 have Z : PtC Y U (U + 1) U W [(.string (bs (D.getD A default).t.nm)), (D.getD A default).cv, (D.getD A default).iv] := ⟨by omega, by omega, fun j u hu => X j u (by have := (List.getElem?_eq_some_iff.1 hu).1; simpa using this) ((el_dt (i := A) zx zx) j u hu)⟩
 refine kt_end rfl ⟨c, g⟩ (kt_step (rs := [4]) zy (one_mem ?_))
 intro ac X _ Y ab ad aa o_ ho_; obtain rfl := zE ho_
 obtain ⟨hb, _⟩ := yG hb X
 have S := S.kz X
 have Z := Z.keep0 X
 obtain ⟨c, g⟩ := kb2 X c g
 have ac : Sl Y 20 (ptr U W) := (zE ((aa 3 _ 20 zy rfl rfl).1 rfl)).symm
 refine zX (cs := [(.string (bs (D.getD A default).t.nm)), (D.getD A default).cv, (D.getD A default).iv]) agg51 rfl (zC ab rfl ac) (fun j u hu => Z.2.2 j u hu) (kt_end rfl ⟨c, g⟩ (kt_step (rs := [7]) zy (one_mem ?_)))
 intro ab U _ W Z aa Y o_ ho_; obtain rfl := zE ho_
 obtain ⟨hb, _⟩ := yG hb U
 have S := S.kz U
 have q := ((q.keep0 T).keep0 X).keep0 U
 have aa : Sl W 21 (.agg #[(.string (bs (D.getD A default).t.nm)), (D.getD A default).cv, (D.getD A default).iv]) := (zE ((Y 4 _ 21 zy rfl rfl).1 rfl)).symm
 have ab : Sl W 23 (.string (bs s.f.nm)) := (Y 6 _ 23 zy rfl rfl).2 rfl
 refine zj ok13 (Column_ret ((D.getD A default).t.nm) ((D.getD A default).t.cols) _ ((D.getD A default).iv) s.f.nm _ (q.mono (Nat.zero_le _) zx)) ⟨(zC Z rfl aa), ⟨(zC Z rfl ab), trivial⟩⟩ ?_
 rintro _ Y ⟨W, rfl⟩
 have W := zQ W
 obtain ⟨hb, _⟩ := yG hb W
 have S := S.kz W
 have c := (c.keep0 U).keep0 W
 have g := (g.keep0 U).keep0 W
 refine kt_end rfl ⟨c, g⟩ ?_
 intro ae Z ad Y aa ab ac
 have aa := aa.trans ((by simp only [putsL_defers] : _ = _).trans hd)
 obtain ⟨hb, _⟩ := yG hb Z
 have O := (((O.keep0 X).keep0 U).keep0 W).keep0 Z
 have S := S.kz Z
 have P := ((((P.keep0 T).keep0 X).keep0 U).keep0 W).keep0 Z
 obtain ⟨c, g⟩ := kb2 Z c g
 have r := ((((r.keep0 T).keep0 X).keep0 U).keep0 W).keep0 Z
 have q := (q.keep0 W).keep0 Z
 have C := ((((C.keep0 T).keep0 X).keep0 U).keep0 W).keep0 Z
 have T := (ab 2 rfl).trans (zU hN rfl)
 have U := (ab 3 rfl).trans (zU hN rfl)
 have W := (ab 4 rfl).trans (zU hN rfl)
 have X := (ab 6 rfl).trans (zU hN rfl)
 have Z : Sl ad 24 (.int .i64 (colIx ((D.getD A default).t.cols) s.f.nm)) := (zE ((ac 7 _ 24 rfl rfl).1 rfl)).symm
 refine split_end (from_seq (tl := [_, _]) zz zy rfl (op_lss (zC Y rfl Z) rfl (fun ab => ?_) (fun ab => ?_)))
 ·
  refine zD (zA Y rfl) (zB (m _ _ (wp_cond_true (zA Y rfl) (zF fun _ m => zH ?_))))
  skip
  refine zY agg30 rfl (zC Y rfl T) c ?_
  have t := r
  refine zZ size30 (zC Y rfl W) (zA Y rfl) rfl (by simp only [yA, yB, yC, yD, O.one, P.one]; try rfl) r rfl ?_
  intro ac r Z
  have := Z.size
  have O := O.keepX t Z zz
  have S := S.keepG (Gr.of Z) (Dj.one z)
  have hb := hb.step1 Z zx
  refine zD rfl (zB (m _ _ (wp_ret (zb (zO ( (retD rfl aa (zC Y rfl W) agg30 rfl r (zA Y rfl) ⟨_, rfl, ?_⟩)))))))
  have y : (idxE (D.map DTab.t) s.f.tb s.f.nm) = 10 := (idxE_2 hkt).trans (if_pos ab)
  rw [y]; exact ⟨hb, D, F, rfl, O, S, fun h => absurd h zz⟩
 refine zD (zA Y rfl) (zB (m _ _ (wp_cond_false (zA Y rfl) (zF fun _ m => ?_))))
 have q := (S.1 (D.getD A default) (getD_mem hkl)).1.rdw
 have C := (S.1 (D.getD A default) (getD_mem hkl)).2.rdw
 refine reg_split (hd := [_, _, _, _, _, _, _, _]) (tl := _) 8 mixed zy rfl rfl (any_tree (φ := phiV [(fun uz => uz = (ptr l 0)), (fun uz => uz = tv), (fun uz => uz = (.int .i64 (ixOf (fun d => decide (d.t.nm = s.f.tb)) D))), (fun _ => True), (fun _ => True), (fun uz => uz = (ptr p 2)), (fun uz => uz = (.string (bs s.f.nm))), (fun _ => True)]) (G := fun w' => Bx w' l 30 [tv, vv] ∧ Bx w' p 37 [(.int .i64 s.f.kind), (.string (bs s.f.tb)), (.string (bs s.f.nm)), s.f.cv, s.f.gv, s.f.vv, s.f.iv, (.string (bs s.f.join)), s.f.ov, s.f.wv, s.f.rv, (.bool s.f.desc), s.nv]) [3, 4, 7] zy zy zy zy zy Y (fun o J E h => by obtain ⟨H, I⟩ := h; exact ⟨H.keep0 E, I.keep0 E⟩) ⟨c, g⟩ (ObRs9.cons ?_ (ObRs9.cons ?_ (ObRs9.cons ?_ (ObRs9.pass rfl (ObRs9.pass rfl (ObRs9.cons ?_ (ObRs9.cons ?_ (ObRs9.pass rfl (ObRs9.nil))))))))) (by simp only [putsL_defers]) ?_)
 ·
  intro eA aA wA hNA hGA hbsA hdpA
  have K := (hbsA 2 rfl).trans (zL Y rfl T)
  refine zM fld30_0 (zC hNA rfl K) ?_
  exact obT_end rfl rfl
 ·
  intro eA aA wA hNA hGA hbsA hdpA
  have Z : Sl aA 28 (ptr l 0) := (hdpA 0 _ 28 zy rfl rfl).2 rfl
  obtain ⟨c, g⟩ := hGA
  refine zN one27 (zC hNA rfl Z) (c.cell rfl) ?_
  exact obT_end rfl rfl
 ·
  intro eA aA wA hNA hGA hbsA hdpA
  have M := (hbsA 6 rfl).trans (zL Y rfl X)
  refine zG (zC hNA rfl M) ?_
  exact obT_end rfl rfl
 ·
  intro eA aA wA hNA hGA hbsA hdpA
  have R := (hbsA 3 rfl).trans (zL Y rfl U)
  refine zM fld37_2 (zC hNA rfl R) ?_
  exact obT_end rfl rfl
 ·
  intro eA aA wA hNA hGA hbsA hdpA
  have Z : Sl aA 33 (ptr p 2) := (hdpA 5 _ 33 zy rfl rfl).2 rfl
  obtain ⟨c, g⟩ := hGA
  refine zN one9 (zC hNA rfl Z) (g.cell rfl) ?_
  exact obT_end rfl rfl
 refine kt_step (rs := [3]) zy (one_mem ?_)
 intro af Z _ ae ad ag ac o_ ho_; obtain rfl := zE ho_
 obtain ⟨hb, _⟩ := yG hb Z
 have O := O.keep0 Z
 have S := S.kz Z
 obtain ⟨c, g⟩ := kb2 Z c g
 have ag : Sl ae 29 tv := (ac 1 _ 29 zy rfl rfl).2 rfl
 have ah : Sl ae 30 (.int .i64 (ixOf (fun d => decide (d.t.nm = s.f.tb)) D)) := (ac 2 _ 30 zy rfl rfl).2 rfl
 refine zh slt27 (zC ad rfl ag) O.rdw (zC ad rfl ah) zx zx ?_
 intro ac ad ag ah ae
 have ag : PtC af ac (ac + 1) ac ad [(.string (bs (D.getD A default).t.nm)), (D.getD A default).cv, (D.getD A default).iv] := ⟨by omega, by omega, fun j u hu => ae j u (by have := (List.getElem?_eq_some_iff.1 hu).1; simpa using this) ((el_dt (i := A) zx zx) j u hu)⟩
 refine kt_end rfl ⟨c, g⟩ (kt_step (rs := [4]) zy (one_mem ?_))
 intro ak ae _ ah ai aj af o_ ho_; obtain rfl := zE ho_
 obtain ⟨hb, _⟩ := yG hb ae
 have S := S.kz ae
 have ag := ag.keep0 ae
 obtain ⟨c, g⟩ := kb2 ae c g
 have aj : Sl ah 31 (ptr ac ad) := (zE ((af 3 _ 31 zy rfl rfl).1 rfl)).symm
 refine zX (cs := [(.string (bs (D.getD A default).t.nm)), (D.getD A default).cv, (D.getD A default).iv]) agg51 rfl (zC ai rfl aj) (fun j u hu => ag.2.2 j u hu) (kt_end rfl ⟨c, g⟩ (kt_step (rs := [7]) zy (one_mem ?_)))
 intro ai ac _ ag af ah ad o_ ho_; obtain rfl := zE ho_
 obtain ⟨hb, _⟩ := yG hb ac
 have S := S.kz ac
 have q := ((q.keep0 Z).keep0 ae).keep0 ac
 have C := ((C.keep0 Z).keep0 ae).keep0 ac
 have ah : Sl ag 32 (.agg #[(.string (bs (D.getD A default).t.nm)), (D.getD A default).cv, (D.getD A default).iv]) := (zE ((ad 4 _ 32 zy rfl rfl).1 rfl)).symm
 have ai : Sl ag 34 (.string (bs s.f.nm)) := (ad 6 _ 34 zy rfl rfl).2 rfl
 refine zj ok14 (Indexed_ret s.f.nm (q.mono (Nat.zero_le _) zx) (C.mono (Nat.zero_le _) zx)) ⟨(zC af rfl ah), ⟨(zC af rfl ai), trivial⟩⟩ ?_
 rintro _ ad ⟨C, rfl⟩
 have C := zQ C
 obtain ⟨hb, _⟩ := yG hb C
 have O := ((O.keep0 ae).keep0 ac).keep0 C
 have S := S.kz C
 have P := (((P.keep0 Z).keep0 ae).keep0 ac).keep0 C
 have c := (c.keep0 ac).keep0 C
 have g := (g.keep0 ac).keep0 C
 have r := (((r.keep0 Z).keep0 ae).keep0 ac).keep0 C
 have q := q.keep0 C
 rcases Bool.eq_false_or_eq_true ((decide ((colIx ((D.getD A default).t.cols) s.f.nm) = 0 ∨ s.f.nm ∈ ((D.getD A default).t.idx)))) with C | C
 ·
  rw [C]
  refine kt_end rfl ⟨c, g⟩ ?_
  intro ah ac af Z ad ae ag
  have ad := ad.trans ((by simp only [putsL_defers] : _ = _).trans aa)
  obtain ⟨hb, _⟩ := yG hb ac
  have O := O.keep0 ac
  have P := P.keep0 ac
  have q := q.keep0 ac
  obtain ⟨c, r⟩ := kb2 ac c r
  have ah := (ae 2 rfl).trans (zL Y rfl T)
  have ai := (ae 4 rfl).trans (zL Y rfl W)
  have ae : Sl af 35 (.bool true) := (zE ((ag 7 _ 35 rfl rfl).1 rfl)).symm
  refine split_end (from_seq (tl := [_]) zz zy rfl (zD (zC Z rfl ae) (zB (m _ _ (wp_cond_true (zA Z rfl) (zF fun _ m => zH ?_))))))
  skip
  refine zY agg30 rfl (zC Z rfl ah) c ?_
  have t := r
  refine zZ size30 (zC Z rfl ai) (zA Z rfl) rfl (by simp only [yA, yB, yC, yD, O.one, P.one]; try rfl) r rfl ?_
  intro af r ae
  have := ae.size
  have O := O.keepX t ae zz
  have S := (S.kz ac).keepG (Gr.of ae) (Dj.one z)
  have hb := hb.step1 ae zx
  refine zD rfl (zB (m _ _ (wp_ret (zb (zO ( (retD rfl ad (zC Z rfl ai) agg30 rfl r (zA Z rfl) ⟨_, rfl, ?_⟩)))))))
  have y : (idxE (D.map DTab.t) s.f.tb s.f.nm) = 12 := (idxE_2 hkt).trans ((if_neg ab).trans (if_pos (of_decide_eq_true C)))
  rw [y]; exact ⟨hb, D, F, rfl, O, S, fun h => absurd h zz⟩
 rw [C]
 refine kt_end rfl ⟨c, g⟩ ?_
 intro ag ac ae z Z ad af
 have Z := Z.trans ((by simp only [putsL_defers] : _ = _).trans aa)
 obtain ⟨hb, _⟩ := yG hb ac
 have O := O.keep0 ac
 have S := S.kz ac
 have P := P.keep0 ac
 have q := q.keep0 ac
 obtain ⟨c, g, r⟩ := kb3 ac c g r
 have q := (ad 2 rfl).trans (zL Y rfl T)
 have T := (ad 3 rfl).trans (zL Y rfl U)
 have U := (ad 4 rfl).trans (zL Y rfl W)
 have W := (ad 6 rfl).trans (zL Y rfl X)
 have X : Sl ae 35 (.bool false) := (zE ((af 7 _ 35 rfl rfl).1 rfl)).symm
 refine split_end (from_seq (tl := [_]) zz zy rfl (zD (zC z rfl X) (zB (m _ _ (wp_cond_false (zA z rfl) (wp_skip (b _ _ (zF fun _ b => ?_))))))))
 have m := (S.1 (D.getD A default) (getD_mem hkl)).2
 obtain ⟨G9, X, Y, ac, aa⟩ := TabsR.splitK S hkl hPw
 have hivm := a (D.getD A default) (getD_mem hkl)
 refine reg_split (hd := [_, _, _, _, _, _, _, _, _, _, _, _, _]) (tl := _) 13 mixed zy rfl rfl (any_tree (φ := phiV [(fun uz => uz = (ptr l 0)), (fun uz => uz = tv), (fun uz => uz = (.int .i64 (ixOf (fun d => decide (d.t.nm = s.f.tb)) D))), (fun uz => uz = (ptr l 0)), (fun uz => uz = tv), (fun uz => uz = (.int .i64 (ixOf (fun d => decide (d.t.nm = s.f.tb)) D))), (fun _ => True), (fun _ => True), (fun _ => True), (fun uz => uz = (ptr p 2)), (fun uz => uz = (.string (bs s.f.nm))), (fun _ => True), (fun _ => True)]) (G := fun w' => Bx w' l 30 [tv, vv] ∧ Bx w' p 37 [(.int .i64 s.f.kind), (.string (bs s.f.tb)), (.string (bs s.f.nm)), s.f.cv, s.f.gv, s.f.vv, s.f.iv, (.string (bs s.f.join)), s.f.ov, s.f.wv, s.f.rv, (.bool s.f.desc), s.nv]) [6, 7, 8, 11, 12] zy zy zy zy zy z (fun o J E h => by obtain ⟨H, I⟩ := h; exact ⟨H.keep0 E, I.keep0 E⟩) ⟨c, g⟩ (ObRs9.cons ?_ (ObRs9.cons ?_ (ObRs9.cons ?_ (ObRs9.cons ?_ (ObRs9.cons ?_ (ObRs9.cons ?_ (ObRs9.pass rfl (ObRs9.pass rfl (ObRs9.pass rfl (ObRs9.cons ?_ (ObRs9.cons ?_ (ObRs9.pass rfl (ObRs9.pass rfl (ObRs9.nil)))))))))))))) (by simp only [putsL_defers]) ?_)
 ·
  intro eA aA wA hNA hGA hbsA hdpA
  have K := (hbsA 2 rfl).trans (zL z rfl q)
  refine zM fld30_0 (zC hNA rfl K) ?_
  exact obT_end rfl rfl
 ·
  intro eA aA wA hNA hGA hbsA hdpA
  have a : Sl aA 37 (ptr l 0) := (hdpA 0 _ 37 zy rfl rfl).2 rfl
  obtain ⟨c, g⟩ := hGA
  refine zN one27 (zC hNA rfl a) (c.cell rfl) ?_
  exact obT_end rfl rfl
 ·
  intro eA aA wA hNA hGA hbsA hdpA
  have M := (hbsA 6 rfl).trans (zL z rfl W)
  refine zG (zC hNA rfl M) ?_
  exact obT_end rfl rfl
 ·
  intro eA aA wA hNA hGA hbsA hdpA
  have K := (hbsA 2 rfl).trans (zL z rfl q)
  refine zM fld30_0 (zC hNA rfl K) ?_
  exact obT_end rfl rfl
 ·
  intro eA aA wA hNA hGA hbsA hdpA
  have a : Sl aA 40 (ptr l 0) := (hdpA 3 _ 40 zy rfl rfl).2 rfl
  obtain ⟨c, g⟩ := hGA
  refine zN one27 (zC hNA rfl a) (c.cell rfl) ?_
  exact obT_end rfl rfl
 ·
  intro eA aA wA hNA hGA hbsA hdpA
  have M := (hbsA 6 rfl).trans (zL z rfl W)
  refine zG (zC hNA rfl M) ?_
  exact obT_end rfl rfl
 ·
  intro eA aA wA hNA hGA hbsA hdpA
  have R := (hbsA 3 rfl).trans (zL z rfl T)
  refine zM fld37_2 (zC hNA rfl R) ?_
  exact obT_end rfl rfl
 ·
  intro eA aA wA hNA hGA hbsA hdpA
  have a : Sl aA 46 (ptr p 2) := (hdpA 9 _ 46 zy rfl rfl).2 rfl
  obtain ⟨c, g⟩ := hGA
  refine zN one9 (zC hNA rfl a) (g.cell rfl) ?_
  exact obT_end rfl rfl
 refine kt_step (rs := [6, 11]) zy (more_mem ?_ ?_)
 ·
  intro H a _ l o I p o_ ho_; obtain rfl := zE ho_
  obtain ⟨hb, _⟩ := yG hb a
  have O := O.keep0 a
  have P := P.keep0 a
  have m := m.keep0 a
  obtain ⟨c, g, r⟩ := kb3 a c g r
  have X := X.kz a
  have a : Sl l 41 tv := (p 4 _ 41 zy rfl rfl).2 rfl
  have I : Sl l 42 (.int .i64 (ixOf (fun d => decide (d.t.nm = s.f.tb)) D)) := (p 5 _ 42 zy rfl rfl).2 rfl
  refine zh slt27 (zC o rfl a) O.rdw (zC o rfl I) zx zx ?_
  intro a l I p o
  have p : PtC H a (a + 1) a l [(.string (bs (D.getD A default).t.nm)), (D.getD A default).cv, (D.getD A default).iv] := ⟨by omega, by omega, fun j u hu => o j u (by have := (List.getElem?_eq_some_iff.1 hu).1; simpa using this) ((el_dt (i := A) zx zx) j u hu)⟩
  refine kt_end rfl ⟨c, g⟩ (kt_step (rs := [7, 11]) zy (more_mem ?_ ?_))
  ·
   intro M o _ J H K I o_ ho_; obtain rfl := zE ho_
   obtain ⟨hb, _⟩ := yG hb o
   have O := O.keep0 o
   have P := P.keep0 o
   have m := m.keep0 o
   obtain ⟨c, g, r⟩ := kb3 o c g r
   have X := X.kz o
   have p := p.keep0 o
   have o : Sl J 43 (ptr a l) := (zE ((I 6 _ 43 zy rfl rfl).1 rfl)).symm
   refine zM fld51_2 (zC H rfl o) (kt_end rfl ⟨c, g⟩ (kt_step (rs := [8, 11]) zy (more_mem ?_ ?_)))
   ·
    intro K o _ H I M J o_ ho_; obtain rfl := zE ho_
    obtain ⟨hb, _⟩ := yG hb o
    obtain ⟨c, g⟩ := kb2 o c g
    have X := X.kz o
    have p := p.keep0 o
    have K : Sl H 44 (ptr a (l + 2)) := (zE ((J 7 _ 44 zy rfl rfl).1 rfl)).symm
    refine zN (v := (D.getD A default).iv) one49 (zC I rfl K) (p.2.2 2 _ rfl) (kt_end rfl ⟨c, g⟩ (kt_step (rs := [11]) zy (one_mem ?_)))
    intro M H _ I K R J o_ ho_; obtain rfl := zE ho_
    obtain ⟨hb, _⟩ := yG hb H
    have X := X.kz H
    have M : Sl I 47 (.string (bs s.f.nm)) := (J 10 _ 47 zy rfl rfl).2 rfl
    refine op_bslice (e := 9) (pv := [(0, (.string (bs s.f.nm)))]) (cs := [(.string (bs s.f.nm))]) ⟨rfl, (zC K rfl M), trivial⟩ zy ?_
    intro T K R M J I
    obtain ⟨hb, _⟩ := yG hb I
    have c := (c.keep0 H).keep0 I
    have g := (g.keep0 H).keep0 I
    have X := X.kz I
    refine kt_end rfl ⟨c, g⟩ (kt_step (rs := [12]) zy (one_mem ?_))
    intro ac M _ R W ad T o_ ho_; obtain rfl := zE ho_
    obtain ⟨hb, _⟩ := yG hb M
    have m := (((m.keep0 o).keep0 H).keep0 I).keep0 M
    have J := J.keep0 M
    have ac : Sl R 45 (D.getD A default).iv := (zE ((T 8 _ 45 zy rfl rfl).1 rfl)).symm
    have ad : Sl R 48 (.slice (some ⟨K, 0, none⟩) 1 1) := (zE ((T 11 _ 48 zy rfl rfl).1 rfl)).symm
    have K := m
    refine op_append slt49 (zC W rfl ac) K (zC W rfl ad) (Src.ofRd Tryz.underlying49 zz (RdC.ofBx (sz := 1) (n := 1) J rfl zz) (by simp [Value.oneCell', u8v])) (by unfold maxLen; omega) zx (by first | exact Nat.le_trans (by assumption) hb.size | (have := hb.size; omega)) ?_
    intro T W J R ac
    have := R.size
    have c := (c.keep0 M).keepO K R zz
    have g := (g.keep0 M).keepO K R zz
    have X := (X.kz M).keepG (Gr.of R) Y.symm
    have hb := hb.stepL R (fun k _ h => .inr (aa k h))
    have J : Own W base 9 1 T ((D.getD A default).t.idx.length + 1) ((((D.getD A default).t.idx ++ [s.f.nm])).map sv) := by simpa [u8v, u16v, sv, cellsI, cellsC, cellsX, cellsS] using J
    refine kt_end rfl ⟨c, g⟩ ?_
    intro ah ac af W ad ag ae
    have ad := ad.trans ((by simp only [putsL_defers] : _ = _).trans Z)
    obtain ⟨hb, _⟩ := yG hb ac
    have O := (((((O.keep0 o).keep0 H).keep0 I).keep0 M).keepT K R zz).keep0 ac
    have X := X.kz ac
    have J := J.keep0 ac
    have ah := (ag 2 rfl).trans (zL z rfl q)
    have ai := (ag 4 rfl).trans (zL z rfl U)
    have ag : Sl af 38 tv := (ae 1 _ 38 rfl rfl).2 rfl
    have aj : Sl af 39 (.int .i64 (ixOf (fun d => decide (d.t.nm = s.f.tb)) D)) := (ae 2 _ 39 rfl rfl).2 rfl
    have ak : Sl af 49 T := (zE ((ae 12 _ 49 rfl rfl).1 rfl)).symm
    refine split_end (from_seq (tl := [_, _, _]) zz zy rfl (op_index_own (i := A) slt27 (zC W rfl ag) O (zC W rfl aj) zx zx ?_))
    intro aj ag af ae
    refine zM fld51_2 (zA W rfl) ?_
    have af := O
    refine op_store_own (vs := [T]) size49 (zA W rfl) (zC W rfl ak) J.cl rfl (by simp only [yA, yB, yC, yD, J.one]; try rfl) af (ae.fld 2) (by have h9 := af.1; rw [h9]; simp only [List.length_cons, List.length_nil]; omega) ?_
    intro aj ag ae
    have := ae.size
    have P := ((((((P.keep0 o).keep0 H).keep0 I).keep0 M).keepT K R zz).keep0 ac).keepT af ae zz
    have c := (c.keep0 ac).keepO af ae zz
    have r := ((((((r.keep0 o).keep0 H).keep0 I).keep0 M).keepO K R zz).keep0 ac).keepO af ae zz
    have X := X.keepG (Gr.of ae) (X.notOwn af zz zz).symm
    have hb := hb.stepL ae (fun k _ h => .inl h)
    have ag : Own aj base 51 3 tv D.length (((D.set A (DTab.mk { (D.getD A default).t with idx := (D.getD A default).t.idx ++ [s.f.nm] } (D.getD A default).cv T))).flatMap cellsT) := by exact ag.cast rfl (flat_setT D A _ _ hkl rfl rfl rfl)
    refine zB (b _ _ (zF fun _ b => zH (zY agg30 rfl (zC W rfl ah) c ?_)))
    have t := r
    refine zZ size30 (zC W rfl ai) (zA W rfl) rfl (by simp only [yA, yB, yC, yD, ag.one, P.one]; try rfl) r rfl ?_
    intro H r o
    have := o.size
    have X := X.keepG (Gr.of o) (Dj.one (X.notBx t zz zz))
    have J := (J.keepT af ae zz).keepX t o zz
    have ag := ag.keepX t o zz
    have hb := hb.step1 o zx
    refine zD rfl (zB (b _ _ (wp_ret (retD rfl ad (zC W rfl ai) agg30 rfl r (zA W rfl) ⟨_, rfl, ?_⟩))))
    have y : (idxE (D.map DTab.t) s.f.tb s.f.nm) = 0 := (idxE_2 hkt).trans ((if_neg ab).trans (if_neg (of_decide_eq_false C)))
    obtain ⟨H, o⟩ := X.join (d := (DTab.mk { (D.getD A default).t with idx := (D.getD A default).t.idx ++ [s.f.nm] } (D.getD A default).cv T)) hkl rfl rfl (J.cast (by simp) (by simp))
    rw [y]; exact ⟨hb, D.set A (DTab.mk { (D.getD A default).t with idx := (D.getD A default).t.idx ++ [s.f.nm] } (D.getD A default).cv T), H, rfl, (ag.cast (by simp) rfl), o, fun _ => idxT_set D A _ _ _ (ix_first B) hkl hkn rfl⟩
   refine one_mem ?_
   intro R I _ K J T M o_ ho_; obtain rfl := zE ho_
   obtain ⟨hb, _⟩ := yG hb I
   have X := X.kz I
   have R : Sl K 47 (.string (bs s.f.nm)) := (M 10 _ 47 zy rfl rfl).2 rfl
   refine op_bslice (e := 9) (pv := [(0, (.string (bs s.f.nm)))]) (cs := [(.string (bs s.f.nm))]) ⟨rfl, (zC J rfl R), trivial⟩ zy ?_
   intro W M R T K J
   obtain ⟨hb, _⟩ := yG hb J
   have c := (c.keep0 I).keep0 J
   have g := (g.keep0 I).keep0 J
   have X := X.kz J
   refine kt_end rfl ⟨c, g⟩ (kt_step (rs := [8]) zy (one_mem ?_))
   intro ad R _ ac W ae T o_ ho_; obtain rfl := zE ho_
   obtain ⟨hb, _⟩ := yG hb R
   obtain ⟨c, g⟩ := kb2 R c g
   have X := X.kz R
   have p := ((p.keep0 I).keep0 J).keep0 R
   have ad : Sl ac 44 (ptr a (l + 2)) := (zE ((T 7 _ 44 zy rfl rfl).1 rfl)).symm
   refine zN (v := (D.getD A default).iv) one49 (zC W rfl ad) (p.2.2 2 _ rfl) (kt_end rfl ⟨c, g⟩ (kt_step (rs := [12]) zy (one_mem ?_)))
   intro af T _ W ad ae ac o_ ho_; obtain rfl := zE ho_
   obtain ⟨hb, _⟩ := yG hb T
   have m := (((m.keep0 I).keep0 J).keep0 R).keep0 T
   have K := (K.keep0 R).keep0 T
   have ae : Sl W 45 (D.getD A default).iv := (zE ((ac 8 _ 45 zy rfl rfl).1 rfl)).symm
   have af : Sl W 48 (.slice (some ⟨M, 0, none⟩) 1 1) := (zE ((ac 11 _ 48 zy rfl rfl).1 rfl)).symm
   have M := m
   refine op_append slt49 (zC ad rfl ae) M (zC ad rfl af) (Src.ofRd Tryz.underlying49 zz (RdC.ofBx (sz := 1) (n := 1) K rfl zz) (by simp [Value.oneCell', u8v])) (by unfold maxLen; omega) zx (by first | exact Nat.le_trans (by assumption) hb.size | (have := hb.size; omega)) ?_
   intro ac ad K W ae
   have := W.size
   have c := (c.keep0 T).keepO M W zz
   have g := (g.keep0 T).keepO M W zz
   have X := (X.kz T).keepG (Gr.of W) Y.symm
   have hb := hb.stepL W (fun k _ h => .inr (aa k h))
   have K : Own ad base 9 1 ac ((D.getD A default).t.idx.length + 1) ((((D.getD A default).t.idx ++ [s.f.nm])).map sv) := by simpa [u8v, u16v, sv, cellsI, cellsC, cellsX, cellsS] using K
   refine kt_end rfl ⟨c, g⟩ ?_
   intro aj ae af ad ah ai ag
   have ah := ah.trans ((by simp only [putsL_defers] : _ = _).trans Z)
   obtain ⟨hb, _⟩ := yG hb ae
   have O := (((((O.keep0 I).keep0 J).keep0 R).keep0 T).keepT M W zz).keep0 ae
   have X := X.kz ae
   have K := K.keep0 ae
   have aj := (ai 2 rfl).trans (zL z rfl q)
   have ak := (ai 4 rfl).trans (zL z rfl U)
   have ai : Sl af 38 tv := (ag 1 _ 38 rfl rfl).2 rfl
   have al : Sl af 39 (.int .i64 (ixOf (fun d => decide (d.t.nm = s.f.tb)) D)) := (ag 2 _ 39 rfl rfl).2 rfl
   have am : Sl af 49 ac := (zE ((ag 12 _ 49 rfl rfl).1 rfl)).symm
   refine split_end (from_seq (tl := [_, _, _]) zz zy rfl (op_index_own (i := A) slt27 (zC ad rfl ai) O (zC ad rfl al) zx zx ?_))
   intro ag al ai af
   refine zM fld51_2 (zA ad rfl) ?_
   have ag := O
   refine op_store_own (vs := [ac]) size49 (zA ad rfl) (zC ad rfl am) K.cl rfl (by simp only [yA, yB, yC, yD, K.one]; try rfl) ag (af.fld 2) (by have h9 := ag.1; rw [h9]; simp only [List.length_cons, List.length_nil]; omega) ?_
   intro al ai af
   have := af.size
   have P := ((((((P.keep0 I).keep0 J).keep0 R).keep0 T).keepT M W zz).keep0 ae).keepT ag af zz
   have c := (c.keep0 ae).keepO ag af zz
   have r := ((((((r.keep0 I).keep0 J).keep0 R).keep0 T).keepO M W zz).keep0 ae).keepO ag af zz
   have X := X.keepG (Gr.of af) (X.notOwn ag zz zz).symm
   have hb := hb.stepL af (fun k _ h => .inl h)
   have ai : Own al base 51 3 tv D.length (((D.set A (DTab.mk { (D.getD A default).t with idx := (D.getD A default).t.idx ++ [s.f.nm] } (D.getD A default).cv ac))).flatMap cellsT) := by exact ai.cast rfl (flat_setT D A _ _ hkl rfl rfl rfl)
   refine zB (b _ _ (zF fun _ b => zH (zY agg30 rfl (zC ad rfl aj) c ?_)))
   have t := r
   refine zZ size30 (zC ad rfl ak) (zA ad rfl) rfl (by simp only [yA, yB, yC, yD, ai.one, P.one]; try rfl) r rfl ?_
   intro J r I
   have := I.size
   have X := X.keepG (Gr.of I) (Dj.one (X.notBx t zz zz))
   have K := (K.keepT ag af zz).keepX t I zz
   have ai := ai.keepX t I zz
   have hb := hb.step1 I zx
   refine zD rfl (zB (b _ _ (wp_ret (retD rfl ah (zC ad rfl ak) agg30 rfl r (zA ad rfl) ⟨_, rfl, ?_⟩))))
   have y : (idxE (D.map DTab.t) s.f.tb s.f.nm) = 0 := (idxE_2 hkt).trans ((if_neg ab).trans (if_neg (of_decide_eq_false C)))
   obtain ⟨H, o⟩ := X.join (d := (DTab.mk { (D.getD A default).t with idx := (D.getD A default).t.idx ++ [s.f.nm] } (D.getD A default).cv ac)) hkl rfl rfl (K.cast (by simp) (by simp))
   rw [y]; exact ⟨hb, D.set A (DTab.mk { (D.getD A default).t with idx := (D.getD A default).t.idx ++ [s.f.nm] } (D.getD A default).cv ac), H, rfl, (ai.cast (by simp) rfl), o, fun _ => idxT_set D A _ _ _ (ix_first B) hkl hkn rfl⟩
  refine one_mem ?_
  intro T I _ J K R M o_ ho_; obtain rfl := zE ho_
  obtain ⟨hb, _⟩ := yG hb I
  have X := X.kz I
  have R : Sl J 47 (.string (bs s.f.nm)) := (M 10 _ 47 zy rfl rfl).2 rfl
  refine op_bslice (e := 9) (pv := [(0, (.string (bs s.f.nm)))]) (cs := [(.string (bs s.f.nm))]) ⟨rfl, (zC K rfl R), trivial⟩ zy ?_
  intro T M R W K J
  obtain ⟨hb, _⟩ := yG hb J
  have c := (c.keep0 I).keep0 J
  have g := (g.keep0 I).keep0 J
  have X := X.kz J
  refine kt_end rfl ⟨c, g⟩ (kt_step (rs := [7]) zy (one_mem ?_))
  intro ad R _ T ac ae W o_ ho_; obtain rfl := zE ho_
  obtain ⟨hb, _⟩ := yG hb R
  obtain ⟨c, g⟩ := kb2 R c g
  have X := X.kz R
  have ad : Sl T 43 (ptr a l) := (zE ((W 6 _ 43 zy rfl rfl).1 rfl)).symm
  refine zM fld51_2 (zC ac rfl ad) (kt_end rfl ⟨c, g⟩ (kt_step (rs := [8]) zy (one_mem ?_)))
  intro ae T _ W ac af ad o_ ho_; obtain rfl := zE ho_
  obtain ⟨hb, _⟩ := yG hb T
  obtain ⟨c, g⟩ := kb2 T c g
  have X := X.kz T
  have p := (((p.keep0 I).keep0 J).keep0 R).keep0 T
  have ae : Sl W 44 (ptr a (l + 2)) := (zE ((ad 7 _ 44 zy rfl rfl).1 rfl)).symm
  refine zN (v := (D.getD A default).iv) one49 (zC ac rfl ae) (p.2.2 2 _ rfl) (kt_end rfl ⟨c, g⟩ (kt_step (rs := [12]) zy (one_mem ?_)))
  intro ad a _ l p ac W o_ ho_; obtain rfl := zE ho_
  obtain ⟨hb, _⟩ := yG hb a
  have m := ((((m.keep0 I).keep0 J).keep0 R).keep0 T).keep0 a
  have K := ((K.keep0 R).keep0 T).keep0 a
  have ac : Sl l 45 (D.getD A default).iv := (zE ((W 8 _ 45 zy rfl rfl).1 rfl)).symm
  have ad : Sl l 48 (.slice (some ⟨M, 0, none⟩) 1 1) := (zE ((W 11 _ 48 zy rfl rfl).1 rfl)).symm
  have l := m
  refine op_append slt49 (zC p rfl ac) l (zC p rfl ad) (Src.ofRd Tryz.underlying49 zz (RdC.ofBx (sz := 1) (n := 1) K rfl zz) (by simp [Value.oneCell', u8v])) (by unfold maxLen; omega) zx (by first | exact Nat.le_trans (by assumption) hb.size | (have := hb.size; omega)) ?_
  intro M W p K ac
  have := K.size
  have c := (c.keep0 a).keepO l K zz
  have g := (g.keep0 a).keepO l K zz
  have X := (X.kz a).keepG (Gr.of K) Y.symm
  have hb := hb.stepL K (fun k _ h => .inr (aa k h))
  have p : Own W base 9 1 M ((D.getD A default).t.idx.length + 1) ((((D.getD A default).t.idx ++ [s.f.nm])).map sv) := by simpa [u8v, u16v, sv, cellsI, cellsC, cellsX, cellsS] using p
  refine kt_end rfl ⟨c, g⟩ ?_
  intro ah ac ad W ae ag af
  have ae := ae.trans ((by simp only [putsL_defers] : _ = _).trans Z)
  obtain ⟨hb, _⟩ := yG hb ac
  have O := ((((((O.keep0 I).keep0 J).keep0 R).keep0 T).keep0 a).keepT l K zz).keep0 ac
  have X := X.kz ac
  have p := p.keep0 ac
  have ah := (ag 2 rfl).trans (zL z rfl q)
  have ai := (ag 4 rfl).trans (zL z rfl U)
  have ag : Sl ad 38 tv := (af 1 _ 38 rfl rfl).2 rfl
  have aj : Sl ad 39 (.int .i64 (ixOf (fun d => decide (d.t.nm = s.f.tb)) D)) := (af 2 _ 39 rfl rfl).2 rfl
  have ak : Sl ad 49 M := (zE ((af 12 _ 49 rfl rfl).1 rfl)).symm
  refine split_end (from_seq (tl := [_, _, _]) zz zy rfl (op_index_own (i := A) slt27 (zC W rfl ag) O (zC W rfl aj) zx zx ?_))
  intro af aj ag ad
  refine zM fld51_2 (zA W rfl) ?_
  have af := O
  refine op_store_own (vs := [M]) size49 (zA W rfl) (zC W rfl ak) p.cl rfl (by simp only [yA, yB, yC, yD, p.one]; try rfl) af (ad.fld 2) (by have h9 := af.1; rw [h9]; simp only [List.length_cons, List.length_nil]; omega) ?_
  intro aj ag ad
  have := ad.size
  have P := (((((((P.keep0 I).keep0 J).keep0 R).keep0 T).keep0 a).keepT l K zz).keep0 ac).keepT af ad zz
  have c := (c.keep0 ac).keepO af ad zz
  have r := (((((((r.keep0 I).keep0 J).keep0 R).keep0 T).keep0 a).keepO l K zz).keep0 ac).keepO af ad zz
  have X := X.keepG (Gr.of ad) (X.notOwn af zz zz).symm
  have hb := hb.stepL ad (fun k _ h => .inl h)
  have ag : Own aj base 51 3 tv D.length (((D.set A (DTab.mk { (D.getD A default).t with idx := (D.getD A default).t.idx ++ [s.f.nm] } (D.getD A default).cv M))).flatMap cellsT) := by exact ag.cast rfl (flat_setT D A _ _ hkl rfl rfl rfl)
  refine zB (b _ _ (zF fun _ b => zH (zY agg30 rfl (zC W rfl ah) c ?_)))
  have t := r
  refine zZ size30 (zC W rfl ai) (zA W rfl) rfl (by simp only [yA, yB, yC, yD, ag.one, P.one]; try rfl) r rfl ?_
  intro l r a
  have := a.size
  have X := X.keepG (Gr.of a) (Dj.one (X.notBx t zz zz))
  have p := (p.keepT af ad zz).keepX t a zz
  have ag := ag.keepX t a zz
  have hb := hb.step1 a zx
  refine zD rfl (zB (b _ _ (wp_ret (retD rfl ae (zC W rfl ai) agg30 rfl r (zA W rfl) ⟨_, rfl, ?_⟩))))
  have y : (idxE (D.map DTab.t) s.f.tb s.f.nm) = 0 := (idxE_2 hkt).trans ((if_neg ab).trans (if_neg (of_decide_eq_false C)))
  obtain ⟨H, o⟩ := X.join (d := (DTab.mk { (D.getD A default).t with idx := (D.getD A default).t.idx ++ [s.f.nm] } (D.getD A default).cv M)) hkl rfl rfl (p.cast (by simp) (by simp))
  rw [y]; exact ⟨hb, D.set A (DTab.mk { (D.getD A default).t with idx := (D.getD A default).t.idx ++ [s.f.nm] } (D.getD A default).cv M), H, rfl, (ag.cast (by simp) rfl), o, fun _ => idxT_set D A _ _ _ (ix_first B) hkl hkn rfl⟩
 refine one_mem ?_
 intro J a _ I l K p o_ ho_; obtain rfl := zE ho_
 obtain ⟨hb, _⟩ := yG hb a
 have X := X.kz a
 have J : Sl I 47 (.string (bs s.f.nm)) := (p 10 _ 47 zy rfl rfl).2 rfl
 refine op_bslice (e := 9) (pv := [(0, (.string (bs s.f.nm)))]) (cs := [(.string (bs s.f.nm))]) ⟨rfl, (zC l rfl J), trivial⟩ zy ?_
 intro K I J M p l
 obtain ⟨hb, _⟩ := yG hb l
 have c := (c.keep0 a).keep0 l
 have g := (g.keep0 a).keep0 l
 have X := X.kz l
 refine kt_end rfl ⟨c, g⟩ (kt_step (rs := [6]) zy (one_mem ?_))
 intro T J _ K R W M o_ ho_; obtain rfl := zE ho_
 obtain ⟨hb, _⟩ := yG hb J
 have O := ((O.keep0 a).keep0 l).keep0 J
 obtain ⟨c, g⟩ := kb2 J c g
 have X := X.kz J
 have W : Sl K 41 tv := (M 4 _ 41 zy rfl rfl).2 rfl
 have ac : Sl K 42 (.int .i64 (ixOf (fun d => decide (d.t.nm = s.f.tb)) D)) := (M 5 _ 42 zy rfl rfl).2 rfl
 refine zh slt27 (zC R rfl W) O.rdw (zC R rfl ac) zx zx ?_
 intro K M ac W R
 have W : PtC T K (K + 1) K M [(.string (bs (D.getD A default).t.nm)), (D.getD A default).cv, (D.getD A default).iv] := ⟨by omega, by omega, fun j u hu => R j u (by have := (List.getElem?_eq_some_iff.1 hu).1; simpa using this) ((el_dt (i := A) zx zx) j u hu)⟩
 refine kt_end rfl ⟨c, g⟩ (kt_step (rs := [7]) zy (one_mem ?_))
 intro af R _ T ac ae ad o_ ho_; obtain rfl := zE ho_
 obtain ⟨hb, _⟩ := yG hb R
 obtain ⟨c, g⟩ := kb2 R c g
 have X := X.kz R
 have ae : Sl T 43 (ptr K M) := (zE ((ad 6 _ 43 zy rfl rfl).1 rfl)).symm
 refine zM fld51_2 (zC ac rfl ae) (kt_end rfl ⟨c, g⟩ (kt_step (rs := [8]) zy (one_mem ?_)))
 intro af T _ ac ad ag ae o_ ho_; obtain rfl := zE ho_
 obtain ⟨hb, _⟩ := yG hb T
 obtain ⟨c, g⟩ := kb2 T c g
 have X := X.kz T
 have W := (W.keep0 R).keep0 T
 have af : Sl ac 44 (ptr K (M + 2)) := (zE ((ae 7 _ 44 zy rfl rfl).1 rfl)).symm
 refine zN (v := (D.getD A default).iv) one49 (zC ad rfl af) (W.2.2 2 _ rfl) (kt_end rfl ⟨c, g⟩ (kt_step (rs := [12]) zy (one_mem ?_)))
 intro ae K _ W M ad ac o_ ho_; obtain rfl := zE ho_
 obtain ⟨hb, _⟩ := yG hb K
 have m := (((((m.keep0 a).keep0 l).keep0 J).keep0 R).keep0 T).keep0 K
 have p := (((p.keep0 J).keep0 R).keep0 T).keep0 K
 have ad : Sl W 45 (D.getD A default).iv := (zE ((ac 8 _ 45 zy rfl rfl).1 rfl)).symm
 have ae : Sl W 48 (.slice (some ⟨I, 0, none⟩) 1 1) := (zE ((ac 11 _ 48 zy rfl rfl).1 rfl)).symm
 have I := m
 refine op_append slt49 (zC M rfl ad) I (zC M rfl ae) (Src.ofRd Tryz.underlying49 zz (RdC.ofBx (sz := 1) (n := 1) p rfl zz) (by simp [Value.oneCell', u8v])) (by unfold maxLen; omega) zx (by first | exact Nat.le_trans (by assumption) hb.size | (have := hb.size; omega)) ?_
 intro M W m p ac
 have := p.size
 have c := (c.keep0 K).keepO I p zz
 have g := (g.keep0 K).keepO I p zz
 have X := (X.kz K).keepG (Gr.of p) Y.symm
 have hb := hb.stepL p (fun k _ h => .inr (aa k h))
 have m : Own W base 9 1 M ((D.getD A default).t.idx.length + 1) ((((D.getD A default).t.idx ++ [s.f.nm])).map sv) := by simpa [u8v, u16v, sv, cellsI, cellsC, cellsX, cellsS] using m
 refine kt_end rfl ⟨c, g⟩ ?_
 intro ae W Y g ac ad aa
 have ac := ac.trans ((by simp only [putsL_defers] : _ = _).trans Z)
 obtain ⟨hb, _⟩ := yG hb W
 have O := ((((O.keep0 R).keep0 T).keep0 K).keepT I p zz).keep0 W
 have X := X.kz W
 have m := m.keep0 W
 have Z := (ad 2 rfl).trans (zL z rfl q)
 have q := (ad 4 rfl).trans (zL z rfl U)
 have z : Sl Y 38 tv := (aa 1 _ 38 rfl rfl).2 rfl
 have U : Sl Y 39 (.int .i64 (ixOf (fun d => decide (d.t.nm = s.f.tb)) D)) := (aa 2 _ 39 rfl rfl).2 rfl
 have ad : Sl Y 49 M := (zE ((aa 12 _ 49 rfl rfl).1 rfl)).symm
 refine split_end (from_seq (tl := [_, _, _]) zz zy rfl (op_index_own (i := A) slt27 (zC g rfl z) O (zC g rfl U) zx zx ?_))
 intro Y U aa z
 refine zM fld51_2 (zA g rfl) ?_
 have U := O
 refine op_store_own (vs := [M]) size49 (zA g rfl) (zC g rfl ad) m.cl rfl (by simp only [yA, yB, yC, yD, m.one]; try rfl) U (z.fld 2) (by have h9 := U.1; rw [h9]; simp only [List.length_cons, List.length_nil]; omega) ?_
 intro aa Y z
 have := z.size
 have P := ((((((((P.keep0 a).keep0 l).keep0 J).keep0 R).keep0 T).keep0 K).keepT I p zz).keep0 W).keepT U z zz
 have c := (c.keep0 W).keepO U z zz
 have r := ((((((((r.keep0 a).keep0 l).keep0 J).keep0 R).keep0 T).keep0 K).keepO I p zz).keep0 W).keepO U z zz
 have X := X.keepG (Gr.of z) (X.notOwn U zz zz).symm
 have hb := hb.stepL z (fun k _ h => .inl h)
 have Y : Own aa base 51 3 tv D.length (((D.set A (DTab.mk { (D.getD A default).t with idx := (D.getD A default).t.idx ++ [s.f.nm] } (D.getD A default).cv M))).flatMap cellsT) := by exact Y.cast rfl (flat_setT D A _ _ hkl rfl rfl rfl)
 refine zB (b _ _ (zF fun _ b => zH (zY agg30 rfl (zC g rfl Z) c ?_)))
 have t := r
 refine zZ size30 (zC g rfl q) (zA g rfl) rfl (by simp only [yA, yB, yC, yD, Y.one, P.one]; try rfl) r rfl ?_
 intro c r a
 have := a.size
 have X := X.keepG (Gr.of a) (Dj.one (X.notBx t zz zz))
 have m := (m.keepT U z zz).keepX t a zz
 have Y := Y.keepX t a zz
 have hb := hb.step1 a zx
 refine zD rfl (zB (b _ _ (wp_ret (retD rfl ac (zC g rfl q) agg30 rfl r (zA g rfl) ⟨_, rfl, ?_⟩))))
 have y : (idxE (D.map DTab.t) s.f.tb s.f.nm) = 0 := (idxE_2 hkt).trans ((if_neg ab).trans (if_neg (of_decide_eq_false C)))
 obtain ⟨H, o⟩ := X.join (d := (DTab.mk { (D.getD A default).t with idx := (D.getD A default).t.idx ++ [s.f.nm] } (D.getD A default).cv M)) hkl rfl rfl (m.cast (by simp) (by simp))
 rw [y]; exact ⟨hb, D.set A (DTab.mk { (D.getD A default).t with idx := (D.getD A default).t.idx ++ [s.f.nm] } (D.getD A default).cv M), H, rfl, (Y.cast (by simp) rfl), o, fun _ => idxT_set D A _ _ _ (ix_first B) hkl hkn rfl⟩

theorem Add_ret {tv vv ow : Value} {D : List DTab} {V : List DVw} {o : Lb} {s : XS} {w : World} (hT : TsRd w w.heap.size tv D) (hD : D.length ≤ 1000000) (hsz : ∀ d ∈ D, d.t.cols.length ≤ 1000000 ∧ d.t.idx.length ≤ 1000000) (hV : VsFr w 0 w.heap.size vv V) (he : SFr w 0 w.heap.size s) (hol : o.length ≤ 100) (ho : RdC w 0 w.heap.size 1 ow o.length (o.map u16v)) : Ret Tryz.prog 9 #[(.agg #[tv, vv]), (.agg #[(.int .i64 s.f.kind), (.string (bs s.f.tb)), (.string (bs s.f.nm)), s.f.cv, s.f.gv, s.f.vv, s.f.iv, (.string (bs s.f.join)), s.f.ov, s.f.wv, s.f.rv, (.bool s.f.desc), s.nv]), ow] w (fun v' w' => Below w.heap.size w w' ∧ ∃ (tv' vv' : Value) (D' : List DTab) (V' : List DVw), v' = .tuple #[.agg #[tv', vv'], .int .i64 (addE (D.map DTab.t) (V.map DVw.nm) o s)] ∧ TsFr w' w.heap.size w'.heap.size tv' D' ∧ VsFr w' w.heap.size w'.heap.size vv' V' ∧ ((addE (D.map DTab.t) (V.map DVw.nm) o s) = 0 → D'.map DTab.t = addT (D.map DTab.t) s ∧ AddV V V' s) ∧ ((addE (D.map DTab.t) (V.map DVw.nm) o s) ≠ 0 → D' = [] ∧ V' = [])) := by
 have hR := hT.1
 have a := hV.3
 have hb := Below.refl w.heap.size w
 refine enter (N := 55) Tryz.func9 rfl rfl (by simp) fun b hN hd hA => ?_
 have c : b.tmps.getD 0 undef = (.agg #[tv, vv]) := hA 0 (by simp)
 have g : b.tmps.getD 1 undef = (.agg #[(.int .i64 s.f.kind), (.string (bs s.f.tb)), (.string (bs s.f.nm)), s.f.cv, s.f.gv, s.f.vv, s.f.iv, (.string (bs s.f.join)), s.f.ov, s.f.wv, s.f.rv, (.bool s.f.desc), s.nv]) := hA 1 (by simp)
 have j : b.tmps.getD 2 undef = ow := hA 2 (by simp)
 clear hA
 refine zF fun _ b => zH (op_box (cs := [tv, vv]) (zC hN rfl c) rfl ?_)
 intro p m r t c l
 obtain ⟨hb, _⟩ := yE hb l
 refine op_box (cs := [(.int .i64 s.f.kind), (.string (bs s.f.tb)), (.string (bs s.f.nm)), s.f.cv, s.f.gv, s.f.vv, s.f.iv, (.string (bs s.f.join)), s.f.ov, s.f.wv, s.f.rv, (.bool s.f.desc), s.nv]) (zC hN rfl g) rfl ?_
 intro t p r u g l
 obtain ⟨hb, _⟩ := yE hb l
 refine op_alloc (cs := [(.slice none 0 0), (.slice none 0 0)]) zero30 rfl ?_
 intro z t A B r u
 obtain ⟨hb, _⟩ := yE hb u
 have c := (c.keep0 l).keep0 u
 refine zD rfl (zB (b _ _ (zF fun _ b => zH (zY agg30 rfl (zA hN rfl) c ?_))))
 have hT' := hT.keep0 (zQ hb)
 have hV' := hV.keep0 (zQ hb)
 refine zj ok22 (twin_ret (hT'.mono zx) hD hsz (hV'.mono (Nat.zero_le _) zx)) ⟨(zA hN rfl), trivial⟩ ?_
 rintro _ R ⟨K, F, Q, I, H, E, M, rfl, l, B, G, A, C, P, J, S, T, L, O⟩
 have U : ∀ x, E x → z.heap.size ≤ x := fun x hx => (B.lt x hx).1
 have W : ¬ E t := fun hf => by have := U _ hf; have := r.lt; omega
 have U : ∀ x, M x → z.heap.size ≤ x := fun x hx => (C.lt x hx).1
 have z : ¬ M t := fun hf => by have := U _ hf; have := r.lt; omega
 have K := zQ K
 obtain ⟨hb, _⟩ := yE hb K
 have l := l.mono (base' := w.heap.size) zx
 have A := A.mono (base' := w.heap.size) zx
 have B : TabsR R w.heap.size I E := B.mono zx
 have C : VsIn R w.heap.size H M := C.mono zx
 refine op_alloc (cs := [(.slice none 0 0), (.slice none 0 0)]) zero30 rfl ?_
 intro Y X Z aa R U
 have Y : ¬ E X := fun hf => by have := (B.lt _ hf).2; omega
 have Z : ¬ M X := fun hf => by have := (C.lt _ hf).2; omega
 obtain ⟨hb, _⟩ := yE hb U
 have g := ((g.keep0 u).keep0 K).keep0 U
 have l := l.keep0 U
 have A := A.keep0 U
 have u := R
 refine zZ size30 (zA hN rfl) (zA hN rfl) rfl (by simp only [yA, yB, yC, yD, l.one, A.one]; try rfl) R rfl ?_
 intro ab R aa
 have := aa.size
 have c := ((c.keep0 K).keep0 U).keep aa sB
 have g := g.keep aa (sN g u)
 have r := ((r.keep0 K).keep0 U).keep aa sB
 have l := l.keepX u aa zz
 have B := (B.kz U).keepG (Gr.of aa) (Dj.one Y)
 have A := A.keepX u aa zz
 have C := (C.kz U).keepG (Gr.of aa) (Dj.one Z)
 have hb := below_step1 hb aa hb.size zx
 refine zD rfl (zB (b _ _ (zF fun _ b => zF fun _ K => zH ?_)))
 obtain ⟨aa, U⟩ := sz_of G hD hsz
 have ac : H.length ≤ 1000 := by have := a; omega
 have a := names_same L O
 refine zM fld37_0 (zA hN rfl) (zN one3 (zA hN rfl) (g.cell rfl) (zB (K _ _ (wp_block (zF fun _ K => zH (op_eql (zA hN rfl) rfl (fun ad => ?_) (fun ad => ?_)))))))
 ·
  refine zD (zA hN rfl) (zB (K _ _ (wp_cond_true (zA hN rfl) (zH (zY agg30 rfl (zA hN rfl) R (zY agg37 rfl (zA hN rfl) g ?_))))))
  have he' := he.keep0 (zQ hb)
  refine zj ok23 (table_ret l B A C P J aa U ac he' (Nat.le_refl _) zx) ⟨(zA hN rfl), ⟨(zA hN rfl), trivial⟩⟩ ?_
  rintro _ aj ⟨ag, al, ai, ak, rfl, ae, af, ah⟩
  have aj := l
  have ak := c.lt
  have al := g.lt
  have am := r.lt
  have an := R.lt
  have ao : Dj (Bl Q) (Bl F) := A.notOwn aj zz
  have := ag.size
  have r := r.keepG ag (aj.notBx r zz)
  have A := A.keepG ag ao
  have R := R.keepG ag (aj.notBx R zz)
  have hb := below_stepG hb ag hb.size (fun k hk => (aj.lt k hk).1)
  refine zG (zA hN rfl) (zW (zA hN rfl) rfl (zW (zA hN rfl) rfl ?_))
  have u := R
  refine zZ size30 (zA hN rfl) (zA hN rfl) rfl (by simp only [yA, yB, yC, yD, ae.one, A.one]; try rfl) R rfl ?_
  intro ao R aj
  have := aj.size
  have r := r.keep aj sB
  have A := A.keepX u aj zz
  have C := (C.keepG ag J.symm).keepG (Gr.of aj) (Dj.one Z)
  have ae := ae.keepX u aj zz
  have af := af.keepG (Gr.of aj) (Dj.one (af.notBx u zz zz))
  have hb := below_step1 hb aj hb.size zx
  refine zD (zA hN rfl) (zB (b _ _ (zF fun _ b => zF fun _ K => zH (zG (zA hN rfl) (op_neq (zA hN rfl) rfl (fun ag => ?_) (fun ag => ?_))))))
  ·
   refine zB (K _ _ (wp_cond_true (zA hN rfl) (zF fun _ K => zH (zf (pv := []) (v := (Value.agg #[(.slice none 0 0), (.slice none 0 0)])) trivial zy (zG (zA hN rfl) (zZ size30 (zA hN rfl) (zA hN rfl) rfl rfl r rfl ?_))))))
   intro ao r aj
   have := aj.size
   have hb := below_step1 hb aj hb.size zx
   refine zD (zA hN rfl) (zB (K _ _ (wp_ret (zO ( (retD rfl hd (zA hN rfl) agg30 rfl r (zA hN rfl) ⟨_, rfl, ?_⟩))))))
   have e9 : (addE (D.map DTab.t) (V.map DVw.nm) o s) = (tabE (I.map DTab.t) s.f.nm s.f.cols) := (addE_1 ad).trans (by rw [G])
   rw [e9]; exact ⟨hb, _, _, [], [], rfl, ⟨RdC.nil _ _ _ _, fun _ h => (by cases h)⟩, VsFr.nil _ _ _, fun h => absurd h ag, fun _ => ⟨rfl, rfl⟩⟩
  refine zB (K _ _ (wp_cond_false (zA hN rfl) (wp_skip (b _ _ (zF fun _ b => zH (zY agg30 rfl (zA hN rfl) R ?_))))))
  have aj := r
  refine zZ size30 (zA hN rfl) (zA hN rfl) rfl (by simp only [yA, yB, yC, yD, ae.one, A.one]; try rfl) r rfl ?_
  intro ap r ao
  have := ao.size
  have A := A.keepX aj ao zz
  have C := C.keepG (Gr.of ao) (Dj.one z)
  have ae := ae.keepX aj ao zz
  have af := af.keepG (Gr.of ao) (Dj.one (af.notBx aj zz zz))
  have hb := below_step1 hb ao hb.size zx
  refine zD rfl (zB (b _ _ (wp_ret (retD rfl hd (zA hN rfl) agg30 rfl r (zA hN rfl) ⟨_, rfl, ?_⟩))))
  have e9 : (addE (D.map DTab.t) (V.map DVw.nm) o s) = (tabE (I.map DTab.t) s.f.nm s.f.cols) := (addE_1 ad).trans (by rw [G])
  rw [e9, ag]; exact ⟨hb, _, _, ai, H, rfl, TabsR.fr af ae, C.fr ac A, fun _ => ⟨by rw [ah, if_pos ag, G, addT_1 ad], AddV.n zx L O⟩, fun h => absurd rfl h⟩
 refine zD (zA hN rfl) (zB (K _ _ (wp_cond_false (zA hN rfl) (zF fun _ K => zH (op_eql (zA hN rfl) rfl (fun ad => ?_) (fun ad => ?_))))))
 ·
  refine zD (zA hN rfl) (zB (K _ _ (wp_cond_true (zA hN rfl) (zH (zY agg30 rfl (zA hN rfl) R (zY agg37 rfl (zA hN rfl) g ?_))))))
  have he' := he.keep0 (zQ hb)
  refine zj ok24 (index_ret l B A C P J aa U ac S T he' (Nat.le_refl _) zx) ⟨(zA hN rfl), ⟨(zA hN rfl), trivial⟩⟩ ?_
  rintro _ ao ⟨af, ah, ap, rfl, T, ae, ai⟩
  have ao : ∀ k, (fun y => Bl F y ∨ E y) k → w.heap.size ≤ k ∧ k < ab.heap.size := fun k hk => hk.elim (l.lt k) (B.lt k)
  have ab : Dj (Bl Q) (fun y => Bl F y ∨ E y) := fun k hk q => q.elim ((A.notOwn l zz) k hk) (B.notOwn A zz zz k hk)
  have ap : Dj M (fun y => Bl F y ∨ E y) := fun k hk q => q.elim (fun h => J k h hk) (fun h => S k h hk)
  have M : ¬ (fun y => Bl F y ∨ E y) m := fun q => q.elim (fun h => Own.notBx l c zz h) (fun h => B.notBx c zz zz h)
  have m : ¬ (fun y => Bl F y ∨ E y) p := fun q => q.elim (fun h => Own.notBx l g zz h) (fun h => B.notBx g zz zz h)
  have m : ¬ (fun y => Bl F y ∨ E y) t := fun q => q.elim (fun h => Own.notBx l r zz h) (fun h => B.notBx r zz zz h)
  have p : ¬ (fun y => Bl F y ∨ E y) X := fun q => q.elim (fun h => Own.notBx l R zz h) (fun h => B.notBx R zz zz h)
  have := af.size
  have A := A.keepG af ab
  have R := R.keepG af p
  have hb := below_stepG hb af hb.size (fun k hk => (ao k hk).1)
  refine zG (zA hN rfl) (zW (zA hN rfl) rfl (zW (zA hN rfl) rfl ?_))
  have u := R
  refine zZ size30 (zA hN rfl) (zA hN rfl) rfl (by simp only [yA, yB, yC, yD, T.one, A.one]; try rfl) R rfl ?_
  intro E R p
  have := p.size
  have r := (r.keepG af m).keep p sB
  have A := A.keepX u p zz
  have C := (C.keepG af ap).keepG (Gr.of p) (Dj.one Z)
  have T := T.keepX u p zz
  have ae := ae.keepG (Gr.of p) (Dj.one (ae.notBx u zz zz))
  have hb := below_step1 hb p hb.size zx
  refine zD (zA hN rfl) (zB (b _ _ (zF fun _ b => zF fun _ K => zH (zG (zA hN rfl) (op_neq (zA hN rfl) rfl (fun ag => ?_) (fun ag => ?_))))))
  ·
   refine zB (K _ _ (wp_cond_true (zA hN rfl) (zF fun _ K => zH (zf (pv := []) (v := (Value.agg #[(.slice none 0 0), (.slice none 0 0)])) trivial zy (zG (zA hN rfl) (zZ size30 (zA hN rfl) (zA hN rfl) rfl rfl r rfl ?_))))))
   intro p r m
   have := m.size
   have hb := below_step1 hb m hb.size zx
   refine zD (zA hN rfl) (zB (K _ _ (wp_ret (zO ( (retD rfl hd (zA hN rfl) agg30 rfl r (zA hN rfl) ⟨_, rfl, ?_⟩))))))
   have e9 : (addE (D.map DTab.t) (V.map DVw.nm) o s) = (idxE (I.map DTab.t) s.f.tb s.f.nm) := (addE_2 ad).trans (by rw [G])
   rw [e9]; exact ⟨hb, _, _, [], [], rfl, ⟨RdC.nil _ _ _ _, fun _ h => (by cases h)⟩, VsFr.nil _ _ _, fun h => absurd h ag, fun _ => ⟨rfl, rfl⟩⟩
  refine zB (K _ _ (wp_cond_false (zA hN rfl) (wp_skip (b _ _ (zF fun _ b => zH (zY agg30 rfl (zA hN rfl) R ?_))))))
  have aj := r
  refine zZ size30 (zA hN rfl) (zA hN rfl) rfl (by simp only [yA, yB, yC, yD, T.one, A.one]; try rfl) r rfl ?_
  intro p r m
  have := m.size
  have A := A.keepX aj m zz
  have C := C.keepG (Gr.of m) (Dj.one z)
  have T := T.keepX aj m zz
  have ae := ae.keepG (Gr.of m) (Dj.one (ae.notBx aj zz zz))
  have hb := below_step1 hb m hb.size zx
  refine zD rfl (zB (b _ _ (wp_ret (retD rfl hd (zA hN rfl) agg30 rfl r (zA hN rfl) ⟨_, rfl, ?_⟩))))
  have e9 : (addE (D.map DTab.t) (V.map DVw.nm) o s) = (idxE (I.map DTab.t) s.f.tb s.f.nm) := (addE_2 ad).trans (by rw [G])
  rw [e9, ag]; exact ⟨hb, _, _, ah, H, rfl, TabsR.fr ae T, C.fr ac A, fun _ => ⟨by rw [ai ag, G, addT_2 ad], AddV.n zx L O⟩, fun h => absurd rfl h⟩
 refine zD (zA hN rfl) (zB (K _ _ (wp_cond_false (zA hN rfl) (zF fun _ K => zH (op_eql (zA hN rfl) rfl (fun m => ?_) (fun m => ?_))))))
 ·
  refine zD (zA hN rfl) (zB (K _ _ (wp_cond_true (zA hN rfl) (zH (zY agg30 rfl (zA hN rfl) R (zY agg37 rfl (zA hN rfl) g (zG (zC hN rfl j) (op_bslice (e := 3) (pv := [(0, (.int .i64 6))]) (cs := [(.int .i64 6)]) ⟨rfl, rfl, trivial⟩ zy ?_))))))))
  intro T ab S M E p
  obtain ⟨hb, _⟩ := yE hb p
  have l := l.keep0 p
  obtain ⟨c, g, r⟩ := kb3 p c g r
  have B := B.kz p
  have A := A.keep0 p
  have C := C.kz p
  have R := R.keep0 p
  have he' := he.keep0 (zQ hb)
  have ho' := ho.keep0 (zQ hb)
  refine zj ok25 (view_ret (kk := [6]) l B A C P J aa U ac he' (Nat.le_refl _) zx hol (ho'.mono (Nat.le_refl _) zx) ((RdC.ofBx (sz := 1) (n := 1) E rfl zz).mono (Nat.zero_le _) zx)) ⟨(zA hN rfl), ⟨(zA hN rfl), ⟨(zA hN rfl), ⟨(zA hN rfl), trivial⟩⟩⟩⟩ ?_
  rintro _ ah ⟨M, ai, af, ab, rfl, p, S, T, ad, ae, ao⟩
  have ah := A
  have ak := c.lt
  have al := g.lt
  have am := r.lt
  have an := R.lt
  have ai := E.lt
  have E : Dj (Bl F) (Bl Q) := l.notOwn ah zz
  have ai := (B.notOwn A zz zz).symm
  have := M.size
  have r := r.keepG M (ah.notBx r zz)
  have l := l.keepG M E
  have R := R.keepG M (ah.notBx R zz)
  have hb := below_stepG hb M hb.size (fun k hk => (ah.lt k hk).1)
  have E : ¬ ab t := ne_stepF T am z
  have ah : ¬ ab X := ne_stepF T an Z
  refine zG (zA hN rfl) (zW (zA hN rfl) rfl (zW (zA hN rfl) rfl ?_))
  have u := R
  refine zZ size30 (zA hN rfl) (zA hN rfl) rfl (by simp only [yA, yB, yC, yD, l.one, p.one]; try rfl) R rfl ?_
  intro ab R T
  have := T.size
  have r := r.keep T sB
  have l := l.keepX u T zz
  have B := (B.keepG M ai).keepG (Gr.of T) (Dj.one Y)
  have p := p.keepX u T zz
  have S := S.keepG (Gr.of T) (Dj.one ah)
  have hb := below_step1 hb T hb.size zx
  refine zD (zA hN rfl) (zB (b _ _ (zF fun _ b => zF fun _ K => zH (zG (zA hN rfl) (op_neq (zA hN rfl) rfl (fun ag => ?_) (fun ag => ?_))))))
  ·
   refine zB (K _ _ (wp_cond_true (zA hN rfl) (zF fun _ K => zH (zf (pv := []) (v := (Value.agg #[(.slice none 0 0), (.slice none 0 0)])) trivial zy (zG (zA hN rfl) (zZ size30 (zA hN rfl) (zA hN rfl) rfl rfl r rfl ?_))))))
   intro T r M
   have := M.size
   have hb := below_step1 hb M hb.size zx
   refine zD (zA hN rfl) (zB (K _ _ (wp_ret (zO ( (retD rfl hd (zA hN rfl) agg30 rfl r (zA hN rfl) ⟨_, rfl, ?_⟩))))))
   have e9 : (addE (D.map DTab.t) (V.map DVw.nm) o s) = (viewE (H.map DVw.nm) o s [6]) := (addE_3 m).trans (by rw [a])
   rw [e9]; exact ⟨hb, _, _, [], [], rfl, ⟨RdC.nil _ _ _ _, fun _ h => (by cases h)⟩, VsFr.nil _ _ _, fun h => absurd h ag, fun _ => ⟨rfl, rfl⟩⟩
  refine zB (K _ _ (wp_cond_false (zA hN rfl) (wp_skip (b _ _ (zF fun _ b => zH (zY agg30 rfl (zA hN rfl) R ?_))))))
  have aj := r
  refine zZ size30 (zA hN rfl) (zA hN rfl) rfl (by simp only [yA, yB, yC, yD, l.one, p.one]; try rfl) r rfl ?_
  intro T r M
  have := M.size
  have l := l.keepX aj M zz
  have B := B.keepG (Gr.of M) (Dj.one W)
  have p := p.keepX aj M zz
  have S := S.keepG (Gr.of M) (Dj.one E)
  have hb := below_step1 hb M hb.size zx
  refine zD rfl (zB (b _ _ (wp_ret (retD rfl hd (zA hN rfl) agg30 rfl r (zA hN rfl) ⟨_, rfl, ?_⟩))))
  have e9 : (addE (D.map DTab.t) (V.map DVw.nm) o s) = (viewE (H.map DVw.nm) o s [6]) := (addE_3 m).trans (by rw [a])
  obtain ⟨m, hVd, hnd⟩ := ae ag
  rw [e9, ag]; exact ⟨hb, _, _, I, af, rfl, TabsR.fr B l, S.fr ad p, fun _ => ⟨by rw [G, addT_v zx], by rw [hVd]; exact AddV.v zx L O hnd⟩, fun h => absurd rfl h⟩
 refine zD (zA hN rfl) (zB (K _ _ (wp_cond_false (zA hN rfl) (zF fun _ K => zH (op_eql (zA hN rfl) rfl (fun p => ?_) (fun p => ?_))))))
 ·
  refine zD (zA hN rfl) (zB (K _ _ (wp_cond_true (zA hN rfl) (zH (zY agg30 rfl (zA hN rfl) R (zY agg37 rfl (zA hN rfl) g (zG (zC hN rfl j) (op_bslice (e := 3) (pv := [(0, (.int .i64 5)), (1, (.int .i64 7)), (2, (.int .i64 8))]) (cs := [(.int .i64 5), (.int .i64 7), (.int .i64 8)]) ⟨rfl, rfl, ⟨rfl, rfl, ⟨rfl, rfl, trivial⟩⟩⟩ zy ?_))))))))
  intro S M T ab E j
  obtain ⟨hb, _⟩ := yE hb j
  have l := l.keep0 j
  obtain ⟨c, g, r⟩ := kb3 j c g r
  have B := B.kz j
  have A := A.keep0 j
  have C := C.kz j
  have R := R.keep0 j
  have he' := he.keep0 (zQ hb)
  have ho' := ho.keep0 (zQ hb)
  refine zj ok25 (view_ret (kk := [5, 7, 8]) l B A C P J aa U ac he' (Nat.le_refl _) zx hol (ho'.mono (Nat.le_refl _) zx) ((RdC.ofBx (sz := 1) (n := 3) E rfl zz).mono (Nat.zero_le _) zx)) ⟨(zA hN rfl), ⟨(zA hN rfl), ⟨(zA hN rfl), ⟨(zA hN rfl), trivial⟩⟩⟩⟩ ?_
  rintro _ aa ⟨C, ab, U, P, rfl, j, J, M, S, T, ac⟩
  have aa := A
  have ak := c.lt
  have al := g.lt
  have am := r.lt
  have an := R.lt
  have c := E.lt
  have c : Dj (Bl F) (Bl Q) := l.notOwn aa zz
  have g := (B.notOwn A zz zz).symm
  have := C.size
  have r := r.keepG C (aa.notBx r zz)
  have l := l.keepG C c
  have R := R.keepG C (aa.notBx R zz)
  have hb := below_stepG hb C hb.size (fun k hk => (aa.lt k hk).1)
  have c : ¬ P t := ne_stepF M am z
  have t : ¬ P X := ne_stepF M an Z
  refine zG (zA hN rfl) (zW (zA hN rfl) rfl (zW (zA hN rfl) rfl ?_))
  have u := R
  refine zZ size30 (zA hN rfl) (zA hN rfl) rfl (by simp only [yA, yB, yC, yD, l.one, j.one]; try rfl) R rfl ?_
  intro A R z
  have := z.size
  have r := r.keep z sB
  have l := l.keepX u z zz
  have B := (B.keepG C g).keepG (Gr.of z) (Dj.one Y)
  have j := j.keepX u z zz
  have J := J.keepG (Gr.of z) (Dj.one t)
  have hb := below_step1 hb z hb.size zx
  refine zD (zA hN rfl) (zB (b _ _ (zF fun _ b => zF fun _ K => zH (zG (zA hN rfl) (op_neq (zA hN rfl) rfl (fun ag => ?_) (fun ag => ?_))))))
  ·
   refine zB (K _ _ (wp_cond_true (zA hN rfl) (zF fun _ K => zH (zf (pv := []) (v := (Value.agg #[(.slice none 0 0), (.slice none 0 0)])) trivial zy (zG (zA hN rfl) (zZ size30 (zA hN rfl) (zA hN rfl) rfl rfl r rfl ?_))))))
   intro t r g
   have := g.size
   have hb := below_step1 hb g hb.size zx
   refine zD (zA hN rfl) (zB (K _ _ (wp_ret (zO ( (retD rfl hd (zA hN rfl) agg30 rfl r (zA hN rfl) ⟨_, rfl, ?_⟩))))))
   have e9 : (addE (D.map DTab.t) (V.map DVw.nm) o s) = (viewE (H.map DVw.nm) o s [5, 7, 8]) := (addE_4 p).trans (by rw [a])
   rw [e9]; exact ⟨hb, _, _, [], [], rfl, ⟨RdC.nil _ _ _ _, fun _ h => (by cases h)⟩, VsFr.nil _ _ _, fun h => absurd h ag, fun _ => ⟨rfl, rfl⟩⟩
  refine zB (K _ _ (wp_cond_false (zA hN rfl) (wp_skip (b _ _ (zF fun _ b => zH (zY agg30 rfl (zA hN rfl) R ?_))))))
  have aj := r
  refine zZ size30 (zA hN rfl) (zA hN rfl) rfl (by simp only [yA, yB, yC, yD, l.one, j.one]; try rfl) r rfl ?_
  intro t r g
  have := g.size
  have l := l.keepX aj g zz
  have B := B.keepG (Gr.of g) (Dj.one W)
  have j := j.keepX aj g zz
  have J := J.keepG (Gr.of g) (Dj.one c)
  have hb := below_step1 hb g hb.size zx
  refine zD rfl (zB (b _ _ (wp_ret (retD rfl hd (zA hN rfl) agg30 rfl r (zA hN rfl) ⟨_, rfl, ?_⟩))))
  have e9 : (addE (D.map DTab.t) (V.map DVw.nm) o s) = (viewE (H.map DVw.nm) o s [5, 7, 8]) := (addE_4 p).trans (by rw [a])
  obtain ⟨m, hVd, hnd⟩ := T ag
  rw [e9, ag]; exact ⟨hb, _, _, I, U, rfl, TabsR.fr B l, J.fr S j, fun _ => ⟨by rw [G, addT_v zx], by rw [hVd]; exact AddV.v zx L O hnd⟩, fun h => absurd rfl h⟩
 refine zD (zA hN rfl) (zB ?_)
 refine K _ _ (wp_cond_false (zA hN rfl) (wp_skip (b _ _ (zF fun _ b => zF fun _ K => zH (zG (zA hN rfl) (op_bin (v := .bool true) (zA hN rfl) rfl (by rw [binOp_neq]; rfl) (zB (K _ _ (wp_cond_true (zA hN rfl) (zF fun _ K => zH (zf (pv := []) (v := (Value.agg #[(.slice none 0 0), (.slice none 0 0)])) trivial zy (zG (zA hN rfl) (zZ size30 (zA hN rfl) (zA hN rfl) rfl rfl r rfl ?_)))))))))))))
 intro b r a
 have := a.size
 have hb := below_step1 hb a hb.size zx
 refine zD (zA hN rfl) (zB (K _ _ (wp_ret (zO ( (retD rfl hd (zA hN rfl) agg30 rfl r (zA hN rfl) ⟨_, rfl, ?_⟩))))))
 have e9 : (addE (D.map DTab.t) (V.map DVw.nm) o s) = 1 := addE_5 zx
 rw [e9]; exact ⟨hb, _, _, [], [], rfl, ⟨RdC.nil _ _ _ _, fun _ h => (by cases h)⟩, VsFr.nil _ _ _, fun h => absurd h zz, fun _ => ⟨rfl, rfl⟩⟩

end Go.Proofs.YthflnkfghogaoaaGreat

namespace Go.Proofs.YthflnkfghogaoaaGreat
open Go.Gx
end Go.Proofs.YthflnkfghogaoaaGreat

namespace Go.Proofs.YthflnkfghogaoaaGreat
open Go.Gx
end Go.Proofs.YthflnkfghogaoaaGreat

namespace Go.Proofs.YthflnkfghogaoaaGreat
open Go.Gx
def LsRd (w : World) (B : Nat) (L : List (Value × List UInt8)) : Prop := ∀ x ∈ L, RdC w 0 B 1 x.1 x.2.length (x.2.map u8v)
section
variable {w w' : World} {B B' base e sz n : Nat} {L : List (Value × List UInt8)} {row : Option Nat} {F : Nat → Prop} {u : Value} {ws : List Value}
theorem LsRd.keep (h : LsRd w B L) (E : w.grownBy w' row) (hne : ∀ k, row = some k → k < 0 ∨ B ≤ k) : LsRd w' B L := fun a ha => (h a ha).keep E hne
theorem LsRd.keep0 (h : LsRd w B L) (E : w.grownBy w' none) : LsRd w' B L := h.keep E (by simp)
end
def InvT (T : List PTab) (n : Nat) : Prop :=
  T.length ≤ 8 ∧ (∀ t ∈ T, t.cols.length ≤ 6 ∧ t.idx.length ≤ n) ∧ (∀ i j, i < j → j < T.length → (T.getD i default).nm ≠ (T.getD j default).nm) ∧ ∀ j, j < T.length → ∀ c ∈ (T.getD j default).cols, c.ref ≠ [] → ∃ m, m < j ∧ (T.getD m default).nm = c.ref
theorem InvT.nil (n : Nat) : InvT [] n := ⟨by simp, fun _ h => (by cases h), fun _ _ _ h => absurd h (Nat.not_lt_zero _), fun _ h => absurd h (Nat.not_lt_zero _)⟩
theorem InvT.mono {T : List PTab} {n m : Nat} (h : InvT T n) (hn : n ≤ m) : InvT T m := ⟨h.1, fun t ht => ⟨(h.2.1 t ht).1, Nat.le_trans (h.2.1 t ht).2 hn⟩, h.2.2⟩
theorem InvT.sz {T : List PTab} {n : Nat} (h : InvT T n) (hn : n ≤ 1000) : SzT T := ⟨by have := h.1; omega, fun t ht => by have := h.2.1 t ht; omega⟩
theorem mem_get {α : Type} [Inhabited α] {l : List α} {a : α} (h : a ∈ l) : ∃ j, j < l.length ∧ l.getD j default = a := by
  obtain ⟨j, hj, rfl⟩ := List.mem_iff_getElem.1 h
  exact ⟨j, hj, by simp [List.getD_eq_getElem?_getD, hj]⟩
theorem tabAt_get {T : List PTab} {x : List UInt8} {t : PTab} (h : tabAt T x = some t) : ∃ m, m < T.length ∧ (T.getD m default).nm = x := by
  obtain ⟨m, hm, e⟩ := mem_get (List.mem_of_find?_eq_some h)
  have := List.find?_some h
  exact ⟨m, hm, by rw [e]; exact of_decide_eq_true this⟩
theorem tabAt_no {T : List PTab} {x : List UInt8} (h : (tabAt T x).isSome = false) {j : Nat} (hj : j < T.length) : (T.getD j default).nm ≠ x := fun e => by
  cases hh : tabAt T x with
  | some t => rw [hh] at h; cases h
  | none =>
    have := List.find?_eq_none.1 hh _ (getD_mem (d := default) hj)
    exact this (decide_eq_true e)
theorem tabE_0 {T : List PTab} {nm : List UInt8} {l : List PCol} (h : tabE T nm l = 0) : (tabAt T nm).isSome = false ∧ T.length < 8 ∧ l.length ≤ 6 ∧ ∀ i, i < l.length → colE T l i = 0 := by
  unfold tabE at h
  by_cases h1 : (tabAt T nm).isSome = true
  · rw [if_pos h1] at h; exact absurd h (by decide)
  · rw [if_neg h1] at h
    by_cases h2 : 8 ≤ T.length
    · rw [if_pos h2] at h; exact absurd h (by decide)
    · rw [if_neg h2] at h
      by_cases h3 : l.length = 0 ∨ 6 < l.length
      · rw [if_pos h3] at h; exact absurd h (by decide)
      · rw [if_neg h3] at h
        exact ⟨by simpa using h1, by omega, by omega, fun i hi => firstE_all h _ (List.mem_map.2 ⟨i, List.mem_range.2 hi, rfl⟩)⟩
theorem colE_ref {T : List PTab} {l : List PCol} {i : Nat} (h : colE T l i = 0) (hr : (l.getD i default).ref ≠ []) : ∃ t, tabAt T (l.getD i default).ref = some t := by
  unfold colE at h
  by_cases h1 : 0 ≤ ixOf (fun d => decide (d.nm = (l.getD i default).nm)) (l.take i)
  · rw [if_pos h1] at h; exact absurd h (by decide)
  · rw [if_neg h1] at h
    by_cases h2 : (l.getD i default).kind ≠ 1 ∧ (l.getD i default).kind ≠ 2
    · rw [if_pos h2] at h; exact absurd h (by decide)
    · rw [if_neg h2, if_neg hr] at h
      by_cases h3 : i = 0 ∨ 0 ≤ ixOf (fun d : PCol => decide (d.ref ≠ [])) (l.take i)
      · rw [if_pos h3] at h; exact absurd h (by decide)
      · rw [if_neg h3] at h
        cases hh : tabAt T (l.getD i default).ref with
        | some t => exact ⟨t, rfl⟩
        | none => rw [hh] at h; exact absurd (show (9 : Int) = 0 from h) (by decide)
theorem InvT.table {T : List PTab} {n : Nat} {nm : List UInt8} {l : List PCol} (h : InvT T n) (he : tabE T nm l = 0) : InvT (T ++ [⟨nm, l, []⟩]) n := by
  obtain ⟨e1, e2, e3, e4⟩ := tabE_0 he
  have hl : (T ++ [(⟨nm, l, []⟩ : PTab)]).length = T.length + 1 := by simp
  refine ⟨by rw [hl]; omega, fun t ht => ?_, fun i j hij hj => ?_, fun j hj c hc hr => ?_⟩
  · rcases List.mem_append.1 ht with ht | ht
    · exact h.2.1 t ht
    · rw [List.mem_singleton] at ht; subst ht; exact ⟨e3, Nat.zero_le _⟩
  · rw [hl] at hj; rw [getD_old (show i < T.length by omega)]
    by_cases hjt : j < T.length
    · rw [getD_old hjt]; exact h.2.2.1 i j hij hjt
    · rw [getD_snoc (show j = T.length by omega)]; exact tabAt_no e1 (by omega)
  · rw [hl] at hj
    by_cases hjt : j < T.length
    · rw [getD_old hjt] at hc
      obtain ⟨m, hm, hmn⟩ := h.2.2.2 j hjt c hc hr
      exact ⟨m, hm, by rw [getD_old (by omega)]; exact hmn⟩
    · rw [getD_snoc (show j = T.length by omega)] at hc
      obtain ⟨i, hi, rfl⟩ := mem_get hc
      obtain ⟨t, ht⟩ := colE_ref (e4 i hi) hr
      obtain ⟨m, hm, hmn⟩ := tabAt_get ht
      exact ⟨m, by omega, by rw [getD_old hm]; exact hmn⟩
theorem idxT_get (tb nm : List UInt8) : ∀ (T : List PTab), (idxT T tb nm).length = T.length ∧ ∀ j, ((idxT T tb nm).getD j default).nm = (T.getD j default).nm ∧ ((idxT T tb nm).getD j default).cols = (T.getD j default).cols ∧ ((idxT T tb nm).getD j default).idx.length ≤ (T.getD j default).idx.length + 1
  | [] => ⟨rfl, fun j => ⟨rfl, rfl, Nat.le_succ _⟩⟩
  | t :: T => by
    obtain ⟨h1, h2⟩ := idxT_get tb nm T
    by_cases ht : t.nm = tb
    · rw [show idxT (t :: T) tb nm = { t with idx := t.idx ++ [nm] } :: T by simp [idxT, ht]]
      refine ⟨rfl, fun j => ?_⟩
      cases j with
      | zero => exact ⟨rfl, rfl, by simp⟩
      | succ j => exact ⟨rfl, rfl, Nat.le_succ _⟩
    · rw [show idxT (t :: T) tb nm = t :: idxT T tb nm by simp [idxT, ht]]
      refine ⟨by simp [h1], fun j => ?_⟩
      cases j with
      | zero => exact ⟨rfl, rfl, Nat.le_succ _⟩
      | succ j => simpa using h2 j
theorem InvT.index {T : List PTab} {n : Nat} {tb nm : List UInt8} (h : InvT T n) : InvT (idxT T tb nm) (n + 1) := by
  obtain ⟨hl, hg⟩ := idxT_get tb nm T
  refine ⟨by rw [hl]; exact h.1, fun t ht => ?_, fun i j hij hj => ?_, fun j hj c hc hr => ?_⟩
  · obtain ⟨j, hj, rfl⟩ := mem_get ht
    rw [hl] at hj
    have := h.2.1 _ (getD_mem (d := default) hj)
    exact ⟨by rw [(hg j).2.1]; exact this.1, Nat.le_trans (hg j).2.2 (by omega)⟩
  · rw [hl] at hj; rw [(hg i).1, (hg j).1]; exact h.2.2.1 i j hij hj
  · rw [hl] at hj; rw [(hg j).2.1] at hc
    obtain ⟨m, hm, hmn⟩ := h.2.2.2 j hj c hc hr
    exact ⟨m, hm, by rw [(hg m).1]; exact hmn⟩
theorem grow_law {T : List PTab} {V V' : List DVw} {o : Lb} {s : XS} {n : Nat} (h : InvT T n) (hv : V.length ≤ 8) (he : addE T (V.map DVw.nm) o s = 0) (ha : AddV V V' s) :
    InvT (addT T s) (n + 1) ∧ V'.length ≤ 8 ∧ (addT T s).length + V'.length = T.length + V.length + (if s.f.kind = 2 then 0 else 1) ∧ T.length ≤ (addT T s).length ∧ V.length ≤ V'.length ∧ ∀ k, k < T.length → ((addT T s).getD k default).nm = (T.getD k default).nm ∧ ((addT T s).getD k default).cols.length = (T.getD k default).cols.length := by
  by_cases h1 : s.f.kind = 1
  · rw [addE_1 h1] at he; unfold AddV at ha; rw [if_neg (by omega)] at ha; rw [addT_1 h1, if_neg (by omega)]
    exact ⟨(h.table he).mono (Nat.le_succ _), by rw [ha.1]; exact hv, by rw [ha.1]; simp; omega, by simp, by rw [ha.1]; exact Nat.le_refl _, fun k hk => by rw [getD_old hk]; exact ⟨rfl, rfl⟩⟩
  · by_cases h2 : s.f.kind = 2
    · unfold AddV at ha; rw [if_neg (by omega)] at ha; rw [addT_2 h2, if_pos h2]
      obtain ⟨hl, hg⟩ := idxT_get s.f.tb s.f.nm T
      exact ⟨h.index, by rw [ha.1]; exact hv, by rw [ha.1, hl]; rfl, by rw [hl]; exact Nat.le_refl _, by rw [ha.1]; exact Nat.le_refl _, fun k _ => ⟨(hg k).1, by rw [(hg k).2.1]⟩⟩
    · by_cases h3 : s.f.kind = 3 ∨ s.f.kind = 4
      · unfold AddV at ha; rw [if_pos h3] at ha
        obtain ⟨W, d, rfl, hl, _, _⟩ := ha
        have hv8 : V.length < 8 := by
          have q : ∀ k, viewE (V.map DVw.nm) o s k = 0 → V.length < 8 := fun k hk => by
            unfold viewE at hk
            by_cases a : s.f.nm ∈ V.map DVw.nm
            · rw [if_pos a] at hk; exact absurd hk (by decide)
            · rw [if_neg a] at hk
              by_cases b : 8 ≤ (V.map DVw.nm).length
              · rw [if_pos b] at hk; exact absurd hk (by decide)
              · rw [List.length_map] at b; omega
          rcases h3 with h3 | h3
          · rw [addE_3 h3] at he; exact q _ he
          · rw [addE_4 h3] at he; exact q _ he
        rw [addT_v ⟨h1, h2⟩, if_neg h2]
        exact ⟨h.mono (Nat.le_succ _), by simp; omega, by simp; omega, Nat.le_refl _, by simp; omega, fun _ _ => ⟨rfl, rfl⟩⟩
      · rw [addE_5 ⟨h1, h2, fun q => h3 (.inl q), fun q => h3 (.inr q)⟩] at he; exact absurd he (by decide)
end Go.Proofs.YthflnkfghogaoaaGreat

namespace Go.Proofs.YthflnkfghogaoaaGreat
open Go.Gx
theorem map_t (D : List DTab) (k : Nat) : (D.map DTab.t).getD k default = (D.getD k default).t := by
  simp only [List.getD_eq_getElem?_getD, List.getElem?_map]
  cases D[k]? <;> rfl
theorem grow_D {D D' : List DTab} {V V' : List DVw} {o : Lb} {s : XS} {n : Nat} (h : InvT (D.map DTab.t) n) (hv : V.length ≤ 8) (he : addE (D.map DTab.t) (V.map DVw.nm) o s = 0) (hA : addE (D.map DTab.t) (V.map DVw.nm) o s = 0 → D'.map DTab.t = addT (D.map DTab.t) s ∧ AddV V V' s) :
    InvT (D'.map DTab.t) (n + 1) ∧ V'.length ≤ 8 ∧ D'.length ≤ 8 ∧ D.length ≤ D'.length ∧ (∃ m, D'.length + V'.length = D.length + V.length + m ∧ m ≤ 1 ∧ (s.f.kind = 2 ↔ ((m : Nat) : Int) = 0)) ∧ ∀ k, k < D.length → (D'.getD k default).t.nm = (D.getD k default).t.nm ∧ (D'.getD k default).t.cols.length = (D.getD k default).t.cols.length := by
  obtain ⟨hm, ha⟩ := hA he
  obtain ⟨h1, h2, h3, h4, h5, h6⟩ := grow_law h hv he ha
  rw [← hm] at h1 h3 h4 h6
  have h7 := h1.1
  rw [List.length_map] at h3 h4 h7
  refine ⟨h1, h2, h7, by simpa using h4, ?_, fun k hk => ?_⟩
  · by_cases h8 : s.f.kind = 2
    · rw [if_pos h8] at h3; exact ⟨0, by simpa using h3, by omega, by simp [h8]⟩
    · rw [if_neg h8] at h3; exact ⟨1, by simpa using h3, by omega, by simp [h8]⟩
  · have := h6 k (by rw [List.length_map]; exact hk)
    rw [map_t, map_t] at this; exact this
theorem lsrd_at {w : World} {B : Nat} {L : List (Value × List UInt8)} {i : Nat} (h : LsRd w B L) (hi : i < L.length) : RdC w 0 B 1 (L.getD i default).1 (L.getD i default).2.length ((L.getD i default).2.map u8v) := h _ (getD_mem hi)
theorem el_lb {L : List (Value × List UInt8)} {e : Int} {i : Nat} (he : e = (i : Int)) (h : i < L.length) : (L.flatMap (fun x9 => [x9.1]))[e.toNat * 1 + 0]? = some (L.getD i default).1 := el_ll he h
end Go.Proofs.YthflnkfghogaoaaGreat

namespace Go.Proofs.YthflnkfghogaoaaGreat
open Go.Gx
theorem vw_is9 {V : List DVw} {x : List UInt8} {i : Nat} (hi : i < V.length) (h : (V.getD i default).nm = x) : x ∈ V.map DVw.nm := List.mem_map.2 ⟨_, getD_mem hi, h⟩
theorem vw_not9 {V : List DVw} {x : List UInt8} {i : Nat} (hi : V.length ≤ i) (h : ∀ j, j < i → decide ((V.getD j default).nm = x) = false) : ¬ x ∈ V.map DVw.nm := fun hx => by
  obtain ⟨d, hd, e⟩ := List.mem_map.1 hx
  obtain ⟨j, hj, rfl⟩ := mem_get hd
  exact of_decide_eq_false (h j (by omega)) e
theorem ix_is9 {l : List (List UInt8)} {x : List UInt8} {i : Nat} (hi : i < l.length) (h : l.getD i [] = x) : x ∈ l := h ▸ getD_mem hi
theorem ix_not9 {l : List (List UInt8)} {x : List UInt8} {i : Nat} (hi : l.length ≤ i) (h : ∀ j, j < i → decide (l.getD j [] = x) = false) : ¬ x ∈ l := fun hx => by
  obtain ⟨j, hj, e⟩ := List.mem_iff_getElem.1 hx
  refine of_decide_eq_false (h j (by omega)) ?_
  rw [← e, List.getD_eq_getElem?_getD, List.getElem?_eq_getElem hj]; rfl
theorem colIx_0 {l : List PCol} {x : List UInt8} (hl : 0 < l.length) (h : (l.getD 0 default).nm = x) : colIx l x = 0 :=
  ixOf_hit (p := fun d : PCol => decide (d.nm = x)) hl (fun _ h => absurd h (Nat.not_lt_zero _)) (decide_eq_true h)
theorem colIx_ne {l : List PCol} {x : List UInt8} (h : ¬ (l.getD 0 default).nm = x) : ¬ colIx l x = 0 := fun e => by
  rcases ixOf_cases (fun d : PCol => decide (d.nm = x)) l with ⟨h1, _⟩ | ⟨i, h1, h2, h3, _⟩
  · have : colIx l x = -1 := h1
    omega
  · have h4 : colIx l x = (i : Int) := h1
    obtain rfl : i = 0 := by omega
    exact h (of_decide_eq_true h3)
theorem colIx_no {l : List PCol} {x : List UInt8} (hl : ¬ 0 < l.length) : ¬ colIx l x = 0 := fun e => by
  rcases ixOf_cases (fun d : PCol => decide (d.nm = x)) l with ⟨h1, _⟩ | ⟨i, h1, h2, h3, _⟩
  · have : colIx l x = -1 := h1
    omega
  · omega
theorem one_dv {w : World} {L B : Nat} {v : Value} {V : List DVw} (h : VsFr w L B v V) : (V.flatMap cellsW).all Value.oneCell' = true := by
  rw [List.all_flatMap, List.all_eq_true]
  intro d hd
  obtain ⟨h1, h2, _⟩ := h.2 d hd
  obtain ⟨g1, g2, g3, g4, g5, g6, g7⟩ := h2.ff
  simp only [cellsW, List.all_cons, List.all_nil, h1.one, g1.one, g2.one, g3.1.one, g4.one, g5.1.one, g6.1.one, g7.1.one, h2.nvr.one]; rfl
def colsE (T : List PTab) (l : List PCol) : Int := if l.length = 0 ∨ 6 < l.length then 7 else firstE ((List.range l.length).map (colE T l))
theorem tabE_cols {T : List PTab} {nm : List UInt8} {l : List PCol} (h : (tabAt T nm).isSome = false) (h2 : ¬ 8 ≤ T.length) : tabE T nm l = colsE T l := by unfold tabE; rw [if_neg (by rw [h]; decide), if_neg h2]; rfl
theorem colsE_hit {T : List PTab} {l : List PCol} {i : Nat} (h3 : ¬ (l.length = 0 ∨ 6 < l.length)) (hi : i < l.length) (ha : ∀ j, j < i → colE T l j = 0) (hx : colE T l i ≠ 0) : colsE T l = colE T l i := by
  unfold colsE; rw [if_neg h3]
  have hl : ((List.range l.length).map (colE T l)).length = l.length := by simp
  have hg : ∀ j, j < l.length → ((List.range l.length).map (colE T l)).getD j 0 = colE T l j := fun j hj => by simp [List.getD_eq_getElem?_getD, hj]
  rw [firstE_at (i := i) (by rw [hl]; exact hi) (fun j hj => by rw [hg j (by omega)]; exact ha j hj) (by rw [hg i hi]; exact hx), hg i hi]
theorem colsE_ok {T : List PTab} {l : List PCol} {i : Nat} (h3 : ¬ (l.length = 0 ∨ 6 < l.length)) (hi : l.length ≤ i) (ha : ∀ j, j < i → colE T l j = 0) : colsE T l = 0 := by
  unfold colsE; rw [if_neg h3]
  refine firstE_zero fun x hx => ?_
  obtain ⟨j, hj, rfl⟩ := List.mem_map.1 hx
  exact ha j (by have := List.mem_range.1 hj; omega)
theorem take_get' {α : Type} [Inhabited α] {l : List α} {i j : Nat} (h : j < i) : (l.take i).getD j default = l.getD j default := by
  simp [List.getD_eq_getElem?_getD, List.getElem?_take, h]
theorem ixOf_pos {α : Type} [Inhabited α] {p : α → Bool} {L : List α} : 0 ≤ ixOf p L ↔ ∃ j, j < L.length ∧ p (L.getD j default) = true := by
  rcases ixOf_cases p L with ⟨h1, h2⟩ | ⟨j, h1, h2, h3, _⟩
  · rw [h1]
    refine ⟨fun h => absurd h (by decide), fun ⟨j, hj, hp⟩ => ?_⟩
    exact absurd hp (by simpa using List.find?_eq_none.1 h2 _ (getD_mem (d := default) hj))
  · rw [h1]; exact ⟨fun _ => ⟨j, h2, h3⟩, fun _ => by omega⟩
theorem ixOf_take {α : Type} [Inhabited α] {p : α → Bool} {L : List α} {i : Nat} (hi : i ≤ L.length) : 0 ≤ ixOf p (L.take i) ↔ ∃ j, j < i ∧ p (L.getD j default) = true := by
  rw [ixOf_pos]
  refine ⟨fun ⟨j, hj, hp⟩ => ?_, fun ⟨j, hj, hp⟩ => ⟨j, by rw [List.length_take]; omega, by rw [take_get' hj]; exact hp⟩⟩
  rw [List.length_take] at hj
  exact ⟨j, by omega, by rwa [take_get' (by omega)] at hp⟩
theorem ix_tk {l : List PCol} {x : List UInt8} {i k : Nat} (hk : k < i) (hi : i ≤ l.length) (h : (l.getD k default).nm = x) : 0 ≤ ixOf (fun d : PCol => decide (d.nm = x)) (l.take i) := (ixOf_take hi).2 ⟨k, hk, decide_eq_true h⟩
theorem ix_tn {l : List PCol} {x : List UInt8} {i : Nat} (hi : i ≤ l.length) (h : ∀ j, j < i → decide ((l.getD j default).nm = x) = false) : ¬ 0 ≤ ixOf (fun d : PCol => decide (d.nm = x)) (l.take i) := fun g => by
  obtain ⟨j, hj, hp⟩ := (ixOf_take hi).1 g
  exact absurd (h j hj) (by simpa using hp)
def refB (l : List PCol) (i : Nat) : Bool := decide (0 ≤ ixOf (fun d : PCol => decide (d.ref ≠ [])) (l.take i))
theorem refB_0 (l : List PCol) : false = refB l 0 := rfl
theorem refB_f {l : List PCol} {i : Nat} (hi : i < l.length) (h : (l.getD i default).ref = []) : refB l i = refB l (i + 1) := by
  unfold refB
  refine decide_eq_decide.2 ?_
  rw [ixOf_take (by omega), ixOf_take (by omega)]
  refine ⟨fun ⟨j, hj, hp⟩ => ⟨j, by omega, hp⟩, fun ⟨j, hj, hp⟩ => ⟨j, ?_, hp⟩⟩
  rcases Nat.lt_or_ge j i with q | q
  · exact q
  · obtain rfl : j = i := by omega
    exact absurd h (of_decide_eq_true hp)
theorem refB_t {l : List PCol} {i : Nat} (hi : i < l.length) (h : ¬ (l.getD i default).ref = []) : true = refB l (i + 1) :=
  (decide_eq_true ((ixOf_take (p := fun d : PCol => decide (d.ref ≠ [])) (show i + 1 ≤ l.length by omega)).2 ⟨i, Nat.lt_succ_self _, decide_eq_true h⟩)).symm
theorem refB_no {l : List PCol} {i : Nat} (h0 : ¬ i = 0) (h : refB l i = false) : ¬ (i = 0 ∨ 0 ≤ ixOf (fun d : PCol => decide (d.ref ≠ [])) (l.take i)) := fun g => g.elim h0 (of_decide_eq_false h)
def tabD (D : List DTab) (x : List UInt8) : DTab := (D.find? fun d => decide (d.t.nm = x)).getD ⟨⟨[], [], []⟩, .slice none 0 0, .slice none 0 0⟩
theorem tabAt_find (D : List DTab) (x : List UInt8) : tabAt (D.map DTab.t) x = (D.find? fun d => decide (d.t.nm = x)).map DTab.t := by unfold tabAt; rw [List.find?_map]; rfl
theorem tabD_is {D : List DTab} {x : List UInt8} (h : (tabAt (D.map DTab.t) x).isSome = true) : tabAt (D.map DTab.t) x = some (tabD D x).t ∧ tabD D x ∈ D := by
  rw [tabAt_find] at h ⊢
  unfold tabD
  cases hh : D.find? fun d => decide (d.t.nm = x) with
  | none => rw [hh] at h; cases h
  | some d => exact ⟨rfl, List.mem_of_find?_eq_some hh⟩
theorem tabD_rd {w : World} {B : Nat} {v : Value} {D : List DTab} (h : TsRd w B v D) (x : List UInt8) : RdC w 0 B 3 (tabD D x).cv (tabD D x).t.cols.length ((tabD D x).t.cols.flatMap cellsC) ∧ RdC w 0 B 1 (tabD D x).iv (tabD D x).t.idx.length ((tabD D x).t.idx.map sv) := by
  unfold tabD
  cases hh : D.find? fun d => decide (d.t.nm = x) with
  | none => exact ⟨RdC.nil _ _ _ _, RdC.nil _ _ _ _⟩
  | some d => exact h.2 d (List.mem_of_find?_eq_some hh)
theorem tabD_hit {D : List DTab} {x : List UInt8} {i : Nat} (hi : i < D.length) (h : ∀ j, j < i → decide ((D.getD j default).t.nm = x) = false) (hx : (D.getD i default).t.nm = x) : tabD D x = D.getD i default ∧ (tabAt (D.map DTab.t) x).isSome = true := by
  have h1 := ixOf_hit (p := fun d : DTab => decide (d.t.nm = x)) hi h (decide_eq_true hx)
  rcases ixOf_cases (fun d : DTab => decide (d.t.nm = x)) D with ⟨g1, _⟩ | ⟨k, g1, g2, g3, g4⟩
  · rw [h1] at g1; omega
  · rw [h1] at g1
    obtain rfl : i = k := by omega
    rw [tabAt_find]; unfold tabD; rw [g4]; exact ⟨rfl, rfl⟩
theorem tabD_end {D : List DTab} {x : List UInt8} {i : Nat} (hi : D.length ≤ i) (h : ∀ j, j < i → decide ((D.getD j default).t.nm = x) = false) : tabD D x = ⟨⟨[], [], []⟩, .slice none 0 0, .slice none 0 0⟩ ∧ (tabAt (D.map DTab.t) x).isSome = false := by
  have h1 := ixOf_none (p := fun d : DTab => decide (d.t.nm = x)) hi h
  rcases ixOf_cases (fun d : DTab => decide (d.t.nm = x)) D with ⟨_, g⟩ | ⟨k, g1, _⟩
  · rw [tabAt_find]; unfold tabD; rw [g]; exact ⟨rfl, rfl⟩
  · rw [h1] at g1; omega
theorem tab_no9 {T : List PTab} {x : List UInt8} (hi : (tabAt T x).isSome = false) : tabAt T x = none := by
  cases h : tabAt T x with
  | none => rfl
  | some t => rw [h] at hi; cases hi
theorem sfr0 (w : World) (L B : Nat) : SFr w L B default := SFr.flat ⟨RdC.nil _ _ _ _, RdC.nil _ _ _ _, XsFr.nil _ _ _, RdC.nil _ _ _ _, XsFr.nil _ _ _, XsFr.nil _ _ _, XsFr.nil _ _ _⟩ ⟨Nat.zero_le _, Nat.zero_le _, Nat.zero_le _⟩ rfl rfl
end Go.Proofs.YthflnkfghogaoaaGreat
namespace Go.Gx
def VsSame (V V2 : List DVw) : Prop := V.length = V2.length ∧ ∀ i, i < V.length → VSame (V.getD i default) (V2.getD i default)
theorem XSame.symm {a b : XE} (h : XSame a b) : XSame b a := by
  induction h with | mk h hl hs ih => exact .mk ⟨h.1.symm, h.2.1.symm, h.2.2.1.symm, h.2.2.2.1.symm, h.2.2.2.2.1.symm, h.2.2.2.2.2.symm⟩ hl.symm fun i hi => ih i (by omega)
theorem XSame.trans {a b : XE} (h : XSame a b) : ∀ {c : XE}, XSame b c → XSame a c := by
  induction h with | mk h hl hs ih =>
    intro c h2
    cases h2 with | mk h2 hl2 hs2 => exact .mk ⟨h.1.trans h2.1, h.2.1.trans h2.2.1, h.2.2.1.trans h2.2.2.1, h.2.2.2.1.trans h2.2.2.2.1, h.2.2.2.2.1.trans h2.2.2.2.2.1, h.2.2.2.2.2.trans h2.2.2.2.2.2⟩ (hl.trans hl2) fun i hi => ih i hi (hs2 i (by omega))
theorem XsSame.symm {E F : List XE} (h : XsSame E F) : XsSame F E := ⟨h.1.symm, fun i hi => (h.2 i (by have := h.1; omega)).symm⟩
theorem XsSame.trans {E F K : List XE} (h : XsSame E F) (h2 : XsSame F K) : XsSame E K := ⟨h.1.trans h2.1, fun i hi => (h.2 i hi).trans (h2.2 i (by have := h.1; omega))⟩
theorem FSame.symm {f g : StF} (h : FSame f g) : FSame g f := by
  obtain ⟨h1, h2, h3, h4, h5, h6, h7, h8, h9, h10, h11, h12⟩ := h
  exact ⟨h1.symm, h2.symm, h3.symm, h4.symm, h5.symm, h6.symm, h7.symm, h8.symm, h9.symm, h10.symm, h11.symm, h12.symm⟩
theorem FSame.trans {f g k : StF} (h : FSame f g) (k' : FSame g k) : FSame f k := by
  obtain ⟨h1, h2, h3, h4, h5, h6, h7, h8, h9, h10, h11, h12⟩ := h
  obtain ⟨g1, g2, g3, g4, g5, g6, g7, g8, g9, g10, g11, g12⟩ := k'
  exact ⟨h1.trans g1, h2.trans g2, h3.trans g3, h4.trans g4, h5.trans g5, h6.trans g6, h7.trans g7, h8.trans g8, h9.trans g9, h10.trans g10, h11.trans g11, h12.trans g12⟩
theorem SSame.symm {s t : XS} (h : SSame s t) : SSame t s := by
  induction h with | mk h hl hs ih => exact .mk h.symm hl.symm fun i hi => ih i (by omega)
theorem SSame.trans {s t : XS} (h : SSame s t) : ∀ {u : XS}, SSame t u → SSame s u := by
  induction h with | mk h hl hs ih =>
    intro u h2
    cases h2 with | mk h2 hl2 hs2 => exact .mk (h.trans h2) (hl.trans hl2) fun i hi => ih i hi (hs2 i (by omega))
theorem VSame.symm {a b : DVw} (h : VSame a b) : VSame b a := ⟨h.1.symm, h.2.1.symm, h.2.2.symm⟩
theorem VSame.trans {a b c : DVw} (h : VSame a b) (h2 : VSame b c) : VSame a c := ⟨h.1.trans h2.1, h.2.1.trans h2.2.1, h.2.2.trans h2.2.2⟩
end Go.Gx

namespace Go.Proofs.YthflnkfghogaoaaGreat
open Go.Gx Go.RowKit
attribute [local irreducible] wpList wpStill Code.wp Calls

theorem Table9_ret {tv vv : Value} {D : List DTab} {x : List UInt8} {B : Nat} {w : World} (hT : TsRd w B tv D) (hB : B ≤ w.heap.size) (hD : D.length ≤ 1000000) : Ret Tryz.prog 26 #[(.agg #[tv, vv]), (.string (bs x))] w (fun v' w' => Below w.heap.size w w' ∧ v' = .tuple #[.agg #[.string (bs (tabD D x).t.nm), (tabD D x).cv, (tabD D x).iv], .bool (tabAt (D.map DTab.t) x).isSome]) := by
 have hR := hT.1
 have hb := Below.refl w.heap.size w
 refine enter (N := 28) Tryz.func26 rfl rfl (by simp) fun a hN hd hA => ?_
 have b : a.tmps.getD 0 undef = (.agg #[tv, vv]) := hA 0 (by simp)
 have c : a.tmps.getD 1 undef = (.string (bs x)) := hA 1 (by simp)
 clear hA
 refine zF fun _ a => zH (op_box (cs := [tv, vv]) (zC hN rfl b) rfl ?_)
 intro l e m k b g
 obtain ⟨hb, _⟩ := yE hb g
 refine op_alloc (cs := [(.string (bs [])), (.slice none 0 0), (.slice none 0 0)]) zero51 rfl ?_
 intro m k o p g l
 obtain ⟨hb, _⟩ := yE hb l
 have b := b.keep0 l
 refine zD rfl (zB (a _ _ (zF fun _ a => zF fun _ l => zH (zD rfl (zB (l _ _ (wp_block (loop_m (fun mz_ az_ w' => ∃ (i : Nat), mz_ = D.length - i ∧ (Sl az_ 1 (.string (bs x))) ∧ (Sl az_ 2 (ptr e 0)) ∧ (Sl az_ 4 (ptr k 0)) ∧ (Sl az_ 6 (.int .i64 ((i : Nat) : Int))) ∧ (i ≤ D.length) ∧ (∀ j, j < i → decide ((D.getD j default).t.nm = x) = false) ∧ (Below w.heap.size w w') ∧ (m.heap.size ≤ w'.heap.size) ∧ (Bx w' e 30 [tv, vv]) ∧ (Bx w' k 51 [(.string (bs [])), (.slice none 0 0), (.slice none 0 0)])) _ hN hd ⟨0, rfl, (zL hN rfl c), (zU hN rfl), (zU hN rfl), (zU hN rfl), (Nat.zero_le _), (fun _ h => absurd h (Nat.not_lt_zero _)), hb, (Nat.le_refl _), b, g⟩ ?_))))))))
 rintro _ s r c o ⟨i, rfl, p, m, e, k, hi, hall, hb, q, b, g⟩
 have := hb.size
 refine zF fun _ l => zF fun _ q => zH (zG (zC c rfl k) (zM fld30_0 (zC c rfl m) (zN one27 (zA c rfl) (b.cell rfl) ?_)))
 have hR' := hR.keep0 (zQ hb)
 refine op_len_rd Tryz.underlying27 (zA c rfl) hR' (op_lss (zA c rfl) (zA c rfl) (fun r => ?_) (fun r => ?_))
 ·
  refine zB (q _ _ (wp_cond_true (zA c rfl) (wp_skip (l _ _ (zF fun _ l => wp_block (zF fun _ q => zH (zM fld30_0 (zC c rfl m) (zN one27 (zA c rfl) (b.cell rfl) (zG (zC c rfl k) (zh slt27 (zA c rfl) hR' (zA c rfl) zx zx ?_))))))))))
  intro s z t y r
  refine zM fld51_0 (zA c rfl) (zN (v := (Value.string (bs (D.getD i default).t.nm))) one9 (zA c rfl) (r 0 ((.string (bs (D.getD i default).t.nm))) zz ((el_dt (i := i) zx zx) 0 ((.string (bs (D.getD i default).t.nm))) rfl)) (zG (zC c rfl p) (op_seql (zA c rfl) (zA c rfl) (fun s => ?_) (fun s => ?_))))
  ·
   refine zB (q _ _ (wp_cond_true (zA c rfl) (zF fun _ q => zH (zM fld30_0 (zC c rfl m) (zN one27 (zA c rfl) (b.cell rfl) (zG (zC c rfl k) (zh slt27 (zA c rfl) hR' (zA c rfl) zx zx ?_)))))))
   intro z A y t r
   refine zX (cs := [(.string (bs (D.getD i default).t.nm)), (D.getD i default).cv, (D.getD i default).iv]) agg51 rfl (zA c rfl) (fun j u hu => r j u (by have := (List.getElem?_eq_some_iff.1 hu).1; simpa using this) ((el_dt (i := i) zx zx) j u hu)) ?_
   have hT' := hT.keep0 (zQ hb)
   refine zZ size51 (zC c rfl e) (zA c rfl) rfl (by simp only [yA, yB, yC, yD, (hT'.2 (D.getD i default) (getD_mem zx)).1.one, (hT'.2 (D.getD i default) (getD_mem zx)).2.one]; try rfl) g rfl ?_
   intro t g r
   have := r.size
   have hb := below_step1 hb r hb.size zx
   refine zD rfl (zB (q _ _ (wp_ret (zb (zO (zO (zb (zO ( (retD rfl o (zC c rfl e) agg51 rfl g (zA c rfl) ⟨_, rfl, ?_⟩))))))))))
   have r := tabD_hit zx hall s
   rw [r.1, r.2]; exact ⟨hb, rfl⟩
  refine zB (q _ _ (wp_cond_false (zA c rfl) (wp_skip (l _ _ (zH (zG (zC c rfl k) (op_add (zA c rfl) rfl (add64 zx) (zD (zA c rfl) (zB ?_)))))))))
  -- round 11T 21F
  exact zg _ c o ⟨(i + 1), rfl, (zL c rfl p), (zL c rfl m), (zL c rfl e), (zU c rfl).trans (congrArg (Value.int .i64) zx), zx, (all_next hall (decide_eq_false s)), hb, zx, b, g⟩ zx
 refine zB (q _ _ (wp_cond_false (zA c rfl) (wp_exit (then_exit (then_exit (blk_hit (a _ _ (zF fun _ a => zH (zf (pv := []) (v := (Value.agg #[(.string (bs [])), (.slice none 0 0), (.slice none 0 0)])) trivial zy (zZ size51 (zC c rfl e) (zA c rfl) rfl rfl g rfl ?_))))))))))
 intro k g b
 have := b.size
 have hb := below_step1 hb b hb.size zx
 refine zD rfl (zB (a _ _ (wp_ret (retD rfl o (zC c rfl e) agg51 rfl g (zA c rfl) ⟨_, rfl, ?_⟩))))
 have r := tabD_end zx hall
 rw [r.1, r.2]; exact ⟨hb, rfl⟩

theorem View9_ret {tv vv : Value} {V : List DVw} {x : List UInt8} {L B : Nat} {w : World} (hV : VsFr w L B vv V) (hB : B ≤ w.heap.size) : Ret Tryz.prog 30 #[(.agg #[tv, vv]), (.string (bs x))] w (fun v' w' => Below w.heap.size w w' ∧ ∃ (n9 : List UInt8) (l9 : Lb) (z9 : Value) (a9 : XS), v' = .tuple #[.agg #[(.string (bs n9)), z9, (.int .i64 a9.f.kind), (.string (bs a9.f.tb)), (.string (bs a9.f.nm)), a9.f.cv, a9.f.gv, a9.f.vv, a9.f.iv, (.string (bs a9.f.join)), a9.f.ov, a9.f.wv, a9.f.rv, (.bool a9.f.desc), a9.nv], .bool (decide (x ∈ V.map DVw.nm))] ∧ RdC w' 0 w'.heap.size 1 z9 l9.length (l9.map u16v) ∧ SFr w' 0 w'.heap.size a9) := by
 have hVR := hV.1
 have hVz := hV.3
 have hb := Below.refl w.heap.size w
 refine enter (N := 28) Tryz.func30 rfl rfl (by simp) fun a hN hd hA => ?_
 have b : a.tmps.getD 0 undef = (.agg #[tv, vv]) := hA 0 (by simp)
 have c : a.tmps.getD 1 undef = (.string (bs x)) := hA 1 (by simp)
 clear hA
 refine zF fun _ a => zH (op_box (cs := [tv, vv]) (zC hN rfl b) rfl ?_)
 intro l e m k b g
 obtain ⟨hb, _⟩ := yE hb g
 refine op_alloc (cs := [(.string (bs [])), (.slice none 0 0), (.int .i64 0), (.string (bs [])), (.string (bs [])), (.slice none 0 0), (.slice none 0 0), (.slice none 0 0), (.slice none 0 0), (.string (bs [])), (.slice none 0 0), (.slice none 0 0), (.slice none 0 0), (.bool false), (.slice none 0 0)]) zero68 rfl ?_
 intro m k o p g l
 obtain ⟨hb, _⟩ := yE hb l
 have b := b.keep0 l
 refine zD rfl (zB (a _ _ (zF fun _ a => zF fun _ l => zH (zD rfl (zB (l _ _ (wp_block (loop_m (fun mz_ az_ w' => ∃ (i : Nat), mz_ = V.length - i ∧ (Sl az_ 1 (.string (bs x))) ∧ (Sl az_ 2 (ptr e 0)) ∧ (Sl az_ 4 (ptr k 0)) ∧ (Sl az_ 6 (.int .i64 ((i : Nat) : Int))) ∧ (i ≤ V.length) ∧ (∀ j, j < i → decide ((V.getD j default).nm = x) = false) ∧ (Below w.heap.size w w') ∧ (m.heap.size ≤ w'.heap.size) ∧ (Bx w' e 30 [tv, vv]) ∧ (Bx w' k 68 [(.string (bs [])), (.slice none 0 0), (.int .i64 0), (.string (bs [])), (.string (bs [])), (.slice none 0 0), (.slice none 0 0), (.slice none 0 0), (.slice none 0 0), (.string (bs [])), (.slice none 0 0), (.slice none 0 0), (.slice none 0 0), (.bool false), (.slice none 0 0)])) _ hN hd ⟨0, rfl, (zL hN rfl c), (zU hN rfl), (zU hN rfl), (zU hN rfl), (Nat.zero_le _), (fun _ h => absurd h (Nat.not_lt_zero _)), hb, (Nat.le_refl _), b, g⟩ ?_))))))))
 rintro _ s q c o ⟨i, rfl, p, k, e, m, hi, hall, hb, r, b, g⟩
 have := hb.size
 refine zF fun _ l => zF fun _ q => zH (zG (zC c rfl m) (zM fld30_1 (zC c rfl k) (zN one28 (zA c rfl) (b.cell rfl) ?_)))
 have hVR' := hVR.keep0 (zQ hb)
 refine op_len_rd Tryz.underlying28 (zA c rfl) hVR' (op_lss (zA c rfl) (zA c rfl) (fun r => ?_) (fun r => ?_))
 ·
  refine zB (q _ _ (wp_cond_true (zA c rfl) (wp_skip (l _ _ (zF fun _ l => wp_block (zF fun _ q => zH (zM fld30_1 (zC c rfl k) (zN one28 (zA c rfl) (b.cell rfl) (zG (zC c rfl m) (zh slt28 (zA c rfl) hVR' (zA c rfl) zx zx ?_))))))))))
  intro t z y s r
  refine zM fld68_0 (zA c rfl) (zN (v := (Value.string (bs (V.getD i default).nm))) one9 (zA c rfl) (r 0 ((.string (bs (V.getD i default).nm))) zz ((el_dv (i := i) zx zx) 0 ((.string (bs (V.getD i default).nm))) rfl)) (zG (zC c rfl p) (op_seql (zA c rfl) (zA c rfl) (fun s => ?_) (fun s => ?_))))
  ·
   refine zB (q _ _ (wp_cond_true (zA c rfl) (zF fun _ q => zH (zM fld30_1 (zC c rfl k) (zN one28 (zA c rfl) (b.cell rfl) (zG (zC c rfl m) (zh slt28 (zA c rfl) hVR' (zA c rfl) zx zx ?_)))))))
   intro t A y z r
   refine zX (cs := [(.string (bs (V.getD i default).nm)), (V.getD i default).sv, (.int .i64 (V.getD i default).act.f.kind), (.string (bs (V.getD i default).act.f.tb)), (.string (bs (V.getD i default).act.f.nm)), (V.getD i default).act.f.cv, (V.getD i default).act.f.gv, (V.getD i default).act.f.vv, (V.getD i default).act.f.iv, (.string (bs (V.getD i default).act.f.join)), (V.getD i default).act.f.ov, (V.getD i default).act.f.wv, (V.getD i default).act.f.rv, (.bool (V.getD i default).act.f.desc), (V.getD i default).act.nv]) agg68 rfl (zA c rfl) (fun j u hu => r j u (by have := (List.getElem?_eq_some_iff.1 hu).1; simpa using this) ((el_dv (i := i) zx zx) j u hu)) ?_
   have hV' := hV.keep0 (zQ hb)
   refine zZ size68 (zC c rfl e) (zA c rfl) rfl (by simp only [yA, yB, yC, yD, (hV'.2 (V.getD i default) (getD_mem zx)).1.one, (hV'.2 (V.getD i default) (getD_mem zx)).2.1.ff.1.one, (hV'.2 (V.getD i default) (getD_mem zx)).2.1.ff.2.1.one, (hV'.2 (V.getD i default) (getD_mem zx)).2.1.ff.2.2.1.1.one, (hV'.2 (V.getD i default) (getD_mem zx)).2.1.ff.2.2.2.1.one, (hV'.2 (V.getD i default) (getD_mem zx)).2.1.ff.2.2.2.2.1.1.one, (hV'.2 (V.getD i default) (getD_mem zx)).2.1.ff.2.2.2.2.2.1.1.one, (hV'.2 (V.getD i default) (getD_mem zx)).2.1.ff.2.2.2.2.2.2.1.one, (hV'.2 (V.getD i default) (getD_mem zx)).2.1.nvr.one]; try rfl) g rfl ?_
   intro t g r
   have := r.size
   have hb := below_step1 hb r hb.size zx
   refine zD rfl (zB (q _ _ (wp_ret (zb (zO (zO (zb (zO ( (retD rfl o (zC c rfl e) agg68 rfl g (zA c rfl) ⟨_, rfl, ?_⟩))))))))))
   have hV' := hV.keep0 (zQ hb)
   have r : decide (x ∈ V.map DVw.nm) = true := decide_eq_true (vw_is9 zx s)
   have t := hV'.2 (V.getD i default) (getD_mem zx)
   rw [r]; exact ⟨hb, (V.getD i default).nm, (V.getD i default).strip, (V.getD i default).sv, (V.getD i default).act, rfl, t.1.mono (Nat.zero_le _) zx, t.2.1.mono (Nat.zero_le _) zx⟩
  refine zB (q _ _ (wp_cond_false (zA c rfl) (wp_skip (l _ _ (zH (zG (zC c rfl m) (op_add (zA c rfl) rfl (add64 zx) (zD (zA c rfl) (zB ?_)))))))))
  -- round 11T 21F
  exact zg _ c o ⟨(i + 1), rfl, (zL c rfl p), (zL c rfl k), (zL c rfl e), (zU c rfl).trans (congrArg (Value.int .i64) zx), zx, (all_next hall (decide_eq_false s)), hb, zx, b, g⟩ zx
 refine zB (q _ _ (wp_cond_false (zA c rfl) (wp_exit (then_exit (then_exit (blk_hit (a _ _ (zF fun _ a => zH (zf (pv := []) (v := (Value.agg #[(.string (bs [])), (.slice none 0 0), (.int .i64 0), (.string (bs [])), (.string (bs [])), (.slice none 0 0), (.slice none 0 0), (.slice none 0 0), (.slice none 0 0), (.string (bs [])), (.slice none 0 0), (.slice none 0 0), (.slice none 0 0), (.bool false), (.slice none 0 0)])) trivial zy (zZ size68 (zC c rfl e) (zA c rfl) rfl rfl g rfl ?_))))))))))
 intro k g b
 have := b.size
 have hb := below_step1 hb b hb.size zx
 refine zD rfl (zB (a _ _ (wp_ret (retD rfl o (zC c rfl e) agg68 rfl g (zA c rfl) ⟨_, rfl, ?_⟩))))
 have r : decide (x ∈ V.map DVw.nm) = false := decide_eq_false (vw_not9 zx hall)
 rw [r]; exact ⟨hb, [], [], .slice none 0 0, default, rfl, RdC.nil _ _ _ _, sfr0 _ _ _⟩

theorem Column9_ret (a : List UInt8) (l : List PCol) (cv iv : Value) (x : List UInt8) (w : World) (hl : RdC w 0 w.heap.size 3 cv l.length (l.flatMap cellsC)) : Ret Tryz.prog 28 #[(.agg #[(.string (bs a)), cv, iv]), (.string (bs x))] w (fun v' w' => Below w.heap.size w w' ∧ v' = .int .i64 (colIx l x)) := by
 have hlm := rd_len hl
 have hb := Below.refl w.heap.size w
 refine enter (N := 22) Tryz.func28 rfl rfl (by simp) fun b hN hd hA => ?_
 have c : b.tmps.getD 0 undef = (.agg #[(.string (bs a)), cv, iv]) := hA 0 (by simp)
 have e : b.tmps.getD 1 undef = (.string (bs x)) := hA 1 (by simp)
 clear hA
 refine zF fun _ b => zH (op_box (cs := [(.string (bs a)), cv, iv]) (zC hN rfl c) rfl ?_)
 intro k g q o c m
 obtain ⟨hb, _⟩ := yE hb m
 refine zD rfl (zB (b _ _ (zF fun _ b => zF fun _ m => zH (zD rfl (zB (m _ _ (wp_block (loop_m (fun mz_ az_ w' => ∃ (i : Nat), mz_ = l.length - i ∧ (Sl az_ 1 (.string (bs x))) ∧ (Sl az_ 2 (ptr g 0)) ∧ (Sl az_ 5 (.int .i64 ((i : Nat) : Int))) ∧ (i ≤ l.length) ∧ (∀ j, j < i → decide ((l.getD j default).nm = x) = false) ∧ (Below w.heap.size w w') ∧ (k.heap.size ≤ w'.heap.size) ∧ (Bx w' g 51 [(.string (bs a)), cv, iv])) _ hN hd ⟨0, rfl, (zL hN rfl e), (zU hN rfl), (zU hN rfl), (Nat.zero_le _), (fun _ h => absurd h (Nat.not_lt_zero _)), hb, (Nat.le_refl _), c⟩ ?_))))))))
 rintro _ t s e o ⟨i, rfl, q, k, g, hi, hall, hb, r, c⟩
 have := hb.size
 refine zF fun _ m => zF fun _ r => zH (zG (zC e rfl g) (zM fld51_1 (zC e rfl k) (zN one32 (zA e rfl) (c.cell rfl) ?_)))
 have hl' := hl.keep0 (zQ hb)
 refine op_len_rd Tryz.underlying32 (zA e rfl) hl' (op_lss (zA e rfl) (zA e rfl) (fun s => ?_) (fun s => ?_))
 ·
  refine zB (r _ _ (wp_cond_true (zA e rfl) (wp_skip (m _ _ (zF fun _ m => wp_block (zF fun _ r => zH (zM fld51_1 (zC e rfl k) (zN one32 (zA e rfl) (c.cell rfl) (zG (zC e rfl g) (zh slt32 (zA e rfl) hl' (zA e rfl) zx zx ?_))))))))))
  intro z u t y s
  refine zM fld48_0 (zA e rfl) (zN (v := (Value.string (bs (l.getD i default).nm))) one9 (zA e rfl) (s 0 ((.string (bs (l.getD i default).nm))) zz ((el_pc (i := i) zx zx) 0 ((.string (bs (l.getD i default).nm))) rfl)) (zG (zC e rfl q) (op_seql (zA e rfl) (zA e rfl) (fun t => ?_) (fun t => ?_))))
  ·
   refine zB (r _ _ (wp_cond_true (zA e rfl) (zF fun _ r => zH (zG (zC e rfl g) (zD (zA e rfl) (zB (r _ _ (wp_ret (zb (zO (zO (zb (zO ( (ret1 rfl o (zA e rfl) ⟨_, rfl, ?_⟩)))))))))))))))
   have s : colIx l x = (i : Int) := ixOf_hit (p := fun d : PCol => decide (d.nm = x)) zx hall (decide_eq_true t)
   rw [s]; exact ⟨hb, rfl⟩
  refine zB (r _ _ (wp_cond_false (zA e rfl) (wp_skip (m _ _ (zH (zG (zC e rfl g) (op_add (zA e rfl) rfl (add64 zx) (zD (zA e rfl) (zB ?_)))))))))
  -- round 10T 20F
  exact zg _ e o ⟨(i + 1), rfl, (zL e rfl q), (zL e rfl k), (zU e rfl).trans (congrArg (Value.int .i64) zx), zx, (all_next hall (decide_eq_false t)), hb, zx, c⟩ zx
 refine zB (r _ _ (wp_cond_false (zA e rfl) (wp_exit (then_exit (then_exit (blk_hit (b _ _ (zF fun _ b => zH (zD rfl (zB (b _ _ (wp_ret (ret1 rfl o (zA e rfl) ⟨_, rfl, ?_⟩)))))))))))))
 have s : colIx l x = -1 := ixOf_none (p := fun d : PCol => decide (d.nm = x)) zx hall
 rw [s]; exact ⟨hb, rfl⟩

theorem Indexed9_ret {a : List UInt8} {l : List PCol} {ix : List (List UInt8)} {cv iv : Value} (x : List UInt8) {w : World} (hl : RdC w 0 w.heap.size 3 cv l.length (l.flatMap cellsC)) (hi : RdC w 0 w.heap.size 1 iv ix.length (ix.map sv)) : Ret Tryz.prog 29 #[(.agg #[(.string (bs a)), cv, iv]), (.string (bs x))] w (fun v' w' => Below w.heap.size w w' ∧ v' = .bool (decide (colIx l x = 0 ∨ x ∈ ix))) := by
 have hlm := rd_len hi
 have hb := Below.refl w.heap.size w
 refine enter (N := 33) Tryz.func29 rfl rfl (by simp) fun c hN hd hA => ?_
 have e : c.tmps.getD 0 undef = (.agg #[(.string (bs a)), cv, iv]) := hA 0 (by simp)
 have g : c.tmps.getD 1 undef = (.string (bs x)) := hA 1 (by simp)
 clear hA
 refine zF fun _ c => zH (op_box (cs := [(.string (bs a)), cv, iv]) (zC hN rfl e) rfl ?_)
 intro m k q p e o
 obtain ⟨hb, _⟩ := yE hb o
 refine zD rfl (zB (c _ _ (zF fun _ c => zF fun _ o => zH (zM fld51_1 (zA hN rfl) (zN one32 (zA hN rfl) (e.cell rfl) ?_)))))
 have hl' := hl.keep0 (zQ hb)
 refine op_len_rd Tryz.underlying32 (zA hN rfl) hl' (op_gtr (zA hN rfl) rfl (fun p => ?_) (fun p => ?_))
 ·
  refine zG (zA hN rfl) (zS (j := 4) (dj := 10) (b := true) rfl rfl rfl (zA hN rfl) (zM fld51_1 (zA hN rfl) (zS (j := 4) (dj := 10) (b := true) rfl rfl rfl (zA hN rfl) (zN one32 (zA hN rfl) (e.cell rfl) (zS (j := 4) (dj := 10) (b := true) rfl rfl rfl (zA hN rfl) (zh slt32 (zA hN rfl) hl' rfl zx zx ?_))))))
  intro t q s r p
  refine zS (j := 4) (dj := 10) (b := true) rfl rfl rfl (zA hN rfl) (zM fld48_0 (zA hN rfl) (zS (j := 4) (dj := 10) (b := true) rfl rfl rfl (zA hN rfl) (zN (v := (Value.string (bs (l.getD 0 default).nm))) one9 (zA hN rfl) (p 0 ((.string (bs (l.getD 0 default).nm))) zz ((el_pc (i := 0) zx zx) 0 ((.string (bs (l.getD 0 default).nm))) rfl)) (zS (j := 4) (dj := 10) (b := true) rfl rfl rfl (zA hN rfl) (zG (zC hN rfl g) (zS (j := 4) (dj := 10) (b := true) rfl rfl rfl (zA hN rfl) (op_seql (zA hN rfl) (zA hN rfl) (fun q => ?_) (fun q => ?_))))))))
  ·
   refine zc (zA hN rfl) (zA hN rfl) (zB (o _ _ (wp_cond_true (zA hN rfl) (zF fun _ o => zH (zD rfl (zB (o _ _ (wp_ret (zO ( (ret1 rfl hd (zA hN rfl) ⟨_, rfl, ?_⟩)))))))))))
   exact ⟨hb, congrArg Value.bool (decide_eq_true (.inl (colIx_0 zx q))).symm⟩
  refine zc (zA hN rfl) (zA hN rfl) (zB (o _ _ (wp_cond_false (zA hN rfl) (wp_skip (c _ _ (zF fun _ c => zF fun _ o => zH (zD rfl (zB (o _ _ (wp_block (loop_m (fun mz_ az_ w' => ∃ (i : Nat), mz_ = ix.length - i ∧ (Sl az_ 1 (.string (bs x))) ∧ (Sl az_ 2 (ptr k 0)) ∧ (Sl az_ 5 (.int .i64 ((i : Nat) : Int))) ∧ (i ≤ ix.length) ∧ (∀ j, j < i → decide (ix.getD j [] = x) = false) ∧ (Below w.heap.size w w') ∧ (m.heap.size ≤ w'.heap.size) ∧ (Bx w' k 51 [(.string (bs a)), cv, iv])) _ hN hd ⟨0, rfl, (zL hN rfl g), (zU hN rfl), (zU hN rfl), (Nat.zero_le _), (fun _ h => absurd h (Nat.not_lt_zero _)), hb, (Nat.le_refl _), e⟩ ?_)))))))))))
  rintro _ y A p s ⟨i, rfl, u, r, t, hii, hall, hb, z, e⟩
  have := hb.size
  refine zF fun _ o => zF fun _ y => zH (zG (zC p rfl t) (zM fld51_2 (zC p rfl r) (zN one49 (zA p rfl) (e.cell rfl) ?_)))
  have hi' := hi.keep0 (zQ hb)
  refine op_len_rd Tryz.underlying49 (zA p rfl) hi' (op_lss (zA p rfl) (zA p rfl) (fun z => ?_) (fun z => ?_))
  ·
   refine zB (y _ _ (wp_cond_true (zA p rfl) (wp_skip (o _ _ (zF fun _ o => wp_block (zF fun _ y => zH (zM fld51_2 (zC p rfl r) (zN one49 (zA p rfl) (e.cell rfl) (zG (zC p rfl t) (zh slt49 (zA p rfl) hi' (zA p rfl) zx zx ?_))))))))))
   intro B D C E A
   refine zN (v := (Value.string (bs (ix.getD i [])))) one9 (zA p rfl) (by have := A 0 (.string (bs (ix.getD i []))) zz (el_sv (i := i) zx zx); simpa using this) (zG (zC p rfl u) (op_seql (zA p rfl) (zA p rfl) (fun B => ?_) (fun B => ?_)))
   ·
    refine zB (y _ _ (wp_cond_true (zA p rfl) (zF fun _ y => zH (zD rfl (zB (y _ _ (wp_ret (zb (zO (zO (zb (zO ( (ret1 rfl s (zA p rfl) ⟨_, rfl, ?_⟩))))))))))))))
    exact ⟨hb, congrArg Value.bool (decide_eq_true (.inr (ix_is9 zx B))).symm⟩
   refine zB (y _ _ (wp_cond_false (zA p rfl) (wp_skip (o _ _ (zH (zG (zC p rfl t) (op_add (zA p rfl) rfl (add64 zx) (zD (zA p rfl) (zB ?_)))))))))
   -- round 9T 17F 23T 32F
   exact zg _ p s ⟨(i + 1), rfl, (zL p rfl u), (zL p rfl r), (zU p rfl).trans (congrArg (Value.int .i64) zx), zx, (all_next hall (decide_eq_false B)), hb, zx, e⟩ zx
  refine zB (y _ _ (wp_cond_false (zA p rfl) (wp_exit (then_exit (then_exit (blk_hit (c _ _ (zF fun _ c => zH (zD rfl (zB (c _ _ (wp_ret (ret1 rfl s (zA p rfl) ⟨_, rfl, ?_⟩)))))))))))))
  exact ⟨hb, congrArg Value.bool (decide_eq_false (fun h => h.elim (colIx_ne q) (ix_not9 zx hall))).symm⟩
 refine zG (zA hN rfl) (zR (j := 4) (dj := 10) (b := true) rfl rfl rfl (zA hN rfl) rfl rfl (zR (j := 4) (dj := 10) (b := true) rfl rfl rfl (zA hN rfl) rfl rfl (zR (j := 4) (dj := 10) (b := true) rfl rfl rfl (zA hN rfl) rfl rfl (zR (j := 4) (dj := 10) (b := true) rfl rfl rfl (zA hN rfl) rfl rfl (zR (j := 4) (dj := 10) (b := true) rfl rfl rfl (zA hN rfl) rfl rfl (zR (j := 4) (dj := 10) (b := true) rfl rfl rfl (zA hN rfl) rfl rfl ?_))))))
 refine zR (j := 4) (dj := 10) (b := true) rfl rfl rfl (zA hN rfl) rfl rfl (zd (zA hN rfl) rfl (zB (o _ _ (wp_cond_false (zA hN rfl) (wp_skip (c _ _ (zF fun _ c => zF fun _ o => zH (zD rfl (zB (o _ _ (wp_block (loop_m (fun mz_ az_ w' => ∃ (i : Nat), mz_ = ix.length - i ∧ (Sl az_ 1 (.string (bs x))) ∧ (Sl az_ 2 (ptr k 0)) ∧ (Sl az_ 5 (.int .i64 ((i : Nat) : Int))) ∧ (i ≤ ix.length) ∧ (∀ j, j < i → decide (ix.getD j [] = x) = false) ∧ (Below w.heap.size w w') ∧ (m.heap.size ≤ w'.heap.size) ∧ (Bx w' k 51 [(.string (bs a)), cv, iv])) _ hN hd ⟨0, rfl, (zL hN rfl g), (zU hN rfl), (zU hN rfl), (Nat.zero_le _), (fun _ h => absurd h (Nat.not_lt_zero _)), hb, (Nat.le_refl _), e⟩ ?_))))))))))))
 rintro _ s r g k ⟨i, rfl, q, p, m, hii, hall, hb, t, e⟩
 have := hb.size
 refine zF fun _ o => zF fun _ y => zH (zG (zC g rfl m) (zM fld51_2 (zC g rfl p) (zN one49 (zA g rfl) (e.cell rfl) ?_)))
 have hi' := hi.keep0 (zQ hb)
 refine op_len_rd Tryz.underlying49 (zA g rfl) hi' (op_lss (zA g rfl) (zA g rfl) (fun z => ?_) (fun z => ?_))
 ·
  refine zB (y _ _ (wp_cond_true (zA g rfl) (wp_skip (o _ _ (zF fun _ o => wp_block (zF fun _ y => zH (zM fld51_2 (zC g rfl p) (zN one49 (zA g rfl) (e.cell rfl) (zG (zC g rfl m) (zh slt49 (zA g rfl) hi' (zA g rfl) zx zx ?_))))))))))
  intro t s z u r
  refine zN (v := (Value.string (bs (ix.getD i [])))) one9 (zA g rfl) (by have := r 0 (.string (bs (ix.getD i []))) zz (el_sv (i := i) zx zx); simpa using this) (zG (zC g rfl q) (op_seql (zA g rfl) (zA g rfl) (fun B => ?_) (fun B => ?_)))
  ·
   refine zB (y _ _ (wp_cond_true (zA g rfl) (zF fun _ y => zH (zD rfl (zB (y _ _ (wp_ret (zb (zO (zO (zb (zO ( (ret1 rfl k (zA g rfl) ⟨_, rfl, ?_⟩))))))))))))))
   exact ⟨hb, congrArg Value.bool (decide_eq_true (.inr (ix_is9 zx B))).symm⟩
  refine zB (y _ _ (wp_cond_false (zA g rfl) (wp_skip (o _ _ (zH (zG (zC g rfl m) (op_add (zA g rfl) rfl (add64 zx) (zD (zA g rfl) (zB ?_)))))))))
  -- round 9F 23T 32F
  exact zg _ g k ⟨(i + 1), rfl, (zL g rfl q), (zL g rfl p), (zU g rfl).trans (congrArg (Value.int .i64) zx), zx, (all_next hall (decide_eq_false B)), hb, zx, e⟩ zx
 refine zB (y _ _ (wp_cond_false (zA g rfl) (wp_exit (then_exit (then_exit (blk_hit (c _ _ (zF fun _ c => zH (zD rfl (zB (c _ _ (wp_ret (ret1 rfl k (zA g rfl) ⟨_, rfl, ?_⟩)))))))))))))
 exact ⟨hb, congrArg Value.bool (decide_eq_false (fun h => h.elim (colIx_no zx) (ix_not9 zx hall))).symm⟩

theorem data9_ret {k : Int} {w : World} : Ret Tryz.prog 32 #[(.int .i64 k)] w (fun v' w' => Below w.heap.size w w' ∧ v' = .bool (decide (5 ≤ k ∧ k ≤ 8))) := by
 have hb := Below.refl w.heap.size w
 refine enter (N := 9) Tryz.func32 rfl rfl (by simp) fun a hN hd hA => ?_
 have c : a.tmps.getD 0 undef = (.int .i64 k) := hA 0 (by simp)
 clear hA
 refine zF fun _ a => zH (zD rfl (zB (a _ _ (zF fun _ a => zH (zG (zC hN rfl c) (op_geq (zA hN rfl) rfl (fun e => ?_) (fun e => ?_)))))))
 ·
  refine zG (zA hN rfl) (zS (j := 2) (dj := 5) (b := true) rfl rfl rfl (zA hN rfl) (zG (zC hN rfl c) (zS (j := 2) (dj := 5) (b := true) rfl rfl rfl (zA hN rfl) (op_leq (zA hN rfl) rfl (fun e => ?_) (fun e => ?_)))))
  ·
   refine zc (zA hN rfl) (zA hN rfl) (zD (zA hN rfl) (zB (a _ _ (wp_ret (ret1 rfl hd (zA hN rfl) ⟨_, rfl, ?_⟩)))))
   exact ⟨hb, congrArg Value.bool (by first | exact (decide_eq_true zx).symm | exact (decide_eq_false zx).symm | exact (decide_eq_decide.2 zx))⟩
  refine zc (zA hN rfl) (zA hN rfl) (zD (zA hN rfl) (zB (a _ _ (wp_ret (ret1 rfl hd (zA hN rfl) ⟨_, rfl, ?_⟩)))))
  exact ⟨hb, congrArg Value.bool (by first | exact (decide_eq_true zx).symm | exact (decide_eq_false zx).symm | exact (decide_eq_decide.2 zx))⟩
 refine zG (zA hN rfl) (zR (j := 2) (dj := 5) (b := true) rfl rfl rfl (zA hN rfl) rfl rfl (zR (j := 2) (dj := 5) (b := true) rfl rfl rfl (zA hN rfl) rfl rfl (zd (zA hN rfl) rfl (zD (zA hN rfl) (zB (a _ _ (wp_ret (ret1 rfl hd (zA hN rfl) ⟨_, rfl, ?_⟩))))))))
 exact ⟨hb, congrArg Value.bool (by first | exact (decide_eq_true zx).symm | exact (decide_eq_false zx).symm | exact (decide_eq_decide.2 zx))⟩

end Go.Proofs.YthflnkfghogaoaaGreat

namespace Go.Gx
open Go.RowKit
section
variable {P : Program} {w : World} {L B L2 B2 n m : Nat} {v u : Value} {la lb : List UInt8}
end
end Go.Gx

namespace Go.Gx
open Go.RowKit
section
variable {P : Program} {Q : Exit → Act → World → Prop} {a : Act} {w w' w9 : World} {l : List (Nat × Value)} {ops : Array Oper} {rest : List Oper}
variable {d ty t e xt yt tx i : Nat} {p : String} {af : Array Edge} {x y : Operand} {v : Value} {k : IntKind} {n base sz by_ b o : Nat} {cs ws : List Value} {zv : Value} {r : Int}
theorem Own.atV (O : Own w base e sz v n cs) (h1 : i < n) : ∃ b o, base ≤ b ∧ AtV v (i * sz) b o := by
  obtain ⟨hl, ⟨rfl, rfl⟩ | ⟨g, off, cap, cur, fr, rfl, hb, _⟩⟩ := O
  · omega
  · exact ⟨g, off + i * sz, hb, off, n, cap, rfl, rfl⟩
theorem op_index_at (T : SlT P xt e zv sz by_) (hx : (putsL a l).eval x = v) (O : Own w9 base e sz v n cs) (hy : (putsL a l).eval y = .int k r) (hr : r = (i : Int)) (h1 : i < n) (hA : AtV v (i * sz) b o)
    (h : wpList P ops Q rest (putsL a ((d, ptr b o) :: l)) w) : wpList P ops Q (⟨some d, .indexAddr xt x y, ty, p, af, none⟩ :: rest) (putsL a l) w := by
  obtain ⟨inf, hi, hz0, hz1, hz2⟩ := info_parts T.info
  subst hr
  obtain ⟨hl, ⟨rfl, rfl⟩ | ⟨g, off, cap, cur, fr, rfl, hb, _⟩⟩ := O
  · omega
  · obtain ⟨off2, n2, c2, hv, rfl⟩ := hA
    injection hv with e1 e2 e3; injection e1 with e1; injection e1 with e1 e4; subst e1; subst e4
    refine op_gen (v := ptr g (off + i * sz)) rfl ?_ h
    have hand : (0 ≤ (i : Int) ∧ (i : Int) < (n : Int)) := by omega
    simp [execOp, hx, hy, Instr.indexAt, asIntOf, run_underlying T.und, sizeOf, typeInfo, hi, ptr, Addr.add_lit, hz1, h1]
theorem RdC.atV {L B : Nat} (R : RdC w L B sz v n cs) (hp : 0 < sz) (h1 : i < n) : ∃ b o, AtV v (i * sz) b o := by
  obtain ⟨h0, a, c, hv, h2, h3, h4⟩ := R
  rcases h4 with h4 | ⟨b, off, ha, _⟩
  · rw [h4] at h0; have : 0 < n * sz := Nat.mul_pos (by omega) hp; simp at h0; omega
  · subst ha; exact ⟨b, off + i * sz, off, n, c, hv, rfl⟩
theorem RdC.cellAt {L B q : Nat} (R : RdC w L B sz v n cs) (hA : AtV v q b o) : ∀ j u, cs[q + j]? = some u → w.cell? ⟨b, o + j, none⟩ = some u := by
  intro j u hu
  obtain ⟨off', n', c', hv', rfl⟩ := hA
  obtain ⟨h0, a, c, hv, h2, h3, h4⟩ := R
  rcases h4 with h4 | ⟨b2, off, ha, _, _, hc⟩
  · rw [h4] at hu; simp at hu
  · subst ha
    rw [hv] at hv'
    injection hv' with e1 e2 e3; injection e1 with e1; injection e1 with e1 e4; subst e1; subst e4
    have := hc (q + j) u hu
    rw [← Nat.add_assoc] at this
    exact this
theorem op_index_atR {L B : Nat} (T : SlT P xt e zv sz by_) (hx : (putsL a l).eval x = v) (R : RdC w9 L B sz v n cs) (hp : 0 < sz) (hy : (putsL a l).eval y = .int k r) (hr : r = (i : Int)) (h1 : i < n) (hA : AtV v (i * sz) b o)
    (h : wpList P ops Q rest (putsL a ((d, ptr b o) :: l)) w) : wpList P ops Q (⟨some d, .indexAddr xt x y, ty, p, af, none⟩ :: rest) (putsL a l) w := by
  obtain ⟨inf, hi, hz0, hz1, hz2⟩ := info_parts T.info
  subst hr
  obtain ⟨h0, a', c, hv, h2, h3, h4⟩ := R
  rcases h4 with h4 | ⟨b2, off, ha, _, _, hc⟩
  · rw [h4] at h0; have : 0 < n * sz := Nat.mul_pos (by omega) hp; simp at h0; omega
  · subst ha; subst hv
    obtain ⟨off2, n2, c2, hv, rfl⟩ := hA
    injection hv with e1 e2 e3; injection e1 with e1; injection e1 with e1 e4; subst e1; subst e4
    refine op_gen (v := ptr b2 (off + i * sz)) rfl ?_ h
    have hand : (0 ≤ (i : Int) ∧ (i : Int) < (n : Int)) := by omega
    simp [execOp, hx, hy, Instr.indexAt, asIntOf, run_underlying T.und, sizeOf, typeInfo, hi, ptr, Addr.add_lit, hz1, h1]
end
end Go.Gx
namespace Go.Gx
open Go.RowKit
section
variable {P : Program} {Q : Exit → Act → World → Prop} {a : Act} {w : World} {l : List (Nat × Value)} {ops : Array Oper} {rest : List Oper} {d ty e xt yt sz by_ : Nat} {p : String} {af : Array Edge} {x y : Operand} {zv : Value}
end
end Go.Gx

namespace Go.Proofs.YthflnkfghogaoaaGreat
open Go.Gx Go.RowKit
attribute [local irreducible] wpList wpStill Code.wp Calls

theorem cols9_ret {tv vv cv : Value} {D : List DTab} {l : List PCol} {B : Nat} {w : World} (hT : TsRd w B tv D) (hB : B ≤ w.heap.size) (hD : D.length ≤ 1000000) (hnc : ∀ t ∈ D.map DTab.t, 1 ≤ t.cols.length) (hc : RdC w 0 w.heap.size 3 cv l.length (l.flatMap cellsC)) : Ret Tryz.prog 27 #[(.agg #[tv, vv]), cv] w (fun v' w' => Below w.heap.size w w' ∧ v' = .int .i64 (colsE (D.map DTab.t) l)) := by
 have hR := hT.1
 have hcm := rd_len hc
 have hb := Below.refl w.heap.size w
 refine enter (N := 88) Tryz.func27 rfl rfl (by simp) fun a hN hd hA => ?_
 have c : a.tmps.getD 0 undef = (.agg #[tv, vv]) := hA 0 (by simp)
 have e : a.tmps.getD 1 undef = cv := hA 1 (by simp)
 clear hA
 refine zF fun _ a => zH (op_box (cs := [tv, vv]) (zC hN rfl c) rfl ?_)
 intro m o q r c p
 obtain ⟨hb, _⟩ := yE hb p
 refine zD rfl (zB (a _ _ (zF fun _ a => zF fun _ p => zH (zG (zC hN rfl e) ?_))))
 have hc' := hc.keep0 (zQ hb)
 refine op_len_rd Tryz.underlying32 (zA hN rfl) hc' (op_eql (zA hN rfl) rfl (fun q => ?_) (fun q => ?_))
 ·
  refine zG (zA hN rfl) (zR (j := 3) (dj := 13) (b := false) rfl rfl rfl (zA hN rfl) rfl rfl ?_)
  refine zR (j := 3) (dj := 13) (b := false) rfl rfl rfl (zA hN rfl) rfl rfl (zR (j := 3) (dj := 13) (b := false) rfl rfl rfl (zA hN rfl) rfl rfl (zc (zA hN rfl) rfl (zB (p _ _ (wp_cond_true (zA hN rfl) (zF fun _ p => zH (zD rfl (zB (p _ _ (wp_ret (zO ( (ret1 rfl hd (zA hN rfl) ⟨_, rfl, ?_⟩)))))))))))))
  have q : (colsE (D.map DTab.t) l) = 7 := if_pos zx
  rw [q]; exact ⟨hb, rfl⟩
 refine zG (zA hN rfl) (zS (j := 3) (dj := 13) (b := false) rfl rfl rfl (zA hN rfl) (zG (zC hN rfl e) (zS (j := 3) (dj := 13) (b := false) rfl rfl rfl (zA hN rfl) (op_len_rd Tryz.underlying32 (zA hN rfl) hc' (zS (j := 3) (dj := 13) (b := false) rfl rfl rfl (zA hN rfl) (op_gtr (zA hN rfl) rfl (fun r => ?_) (fun r => ?_)))))))
 ·
  refine zd (zA hN rfl) (zA hN rfl) (zB (p _ _ (wp_cond_true (zA hN rfl) (zF fun _ p => zH (zD rfl (zB (p _ _ (wp_ret (zO ( (ret1 rfl hd (zA hN rfl) ⟨_, rfl, ?_⟩)))))))))))
  have q : (colsE (D.map DTab.t) l) = 7 := if_pos zx
  rw [q]; exact ⟨hb, rfl⟩
 refine zd (zA hN rfl) (zA hN rfl) (zB (p _ _ (wp_cond_false (zA hN rfl) (wp_skip (a _ _ (zF fun _ a => ?_))))))
 refine zH (zD rfl (zB (a _ _ (zF fun _ a => zF fun _ p => zH (zD rfl (zB (p _ _ (wp_block (loop_m (fun mz_ az_ w' => ∃ (i : Nat), mz_ = l.length - i ∧ (Sl az_ 1 cv) ∧ (Sl az_ 2 (ptr o 0)) ∧ (Sl az_ 6 (.int .i64 ((i : Nat) : Int))) ∧ (Sl az_ 5 (.bool (refB l i))) ∧ (i ≤ l.length) ∧ (∀ j, j < i → colE (D.map DTab.t) l j = 0) ∧ (Below w.heap.size w w') ∧ (m.heap.size ≤ w'.heap.size) ∧ (Bx w' o 30 [tv, vv])) _ hN hd ⟨0, rfl, (zL hN rfl e), (zU hN rfl), (zU hN rfl), (zU hN rfl).trans (congrArg Value.bool (refB_0 l)), (Nat.zero_le _), (fun _ h => absurd h (Nat.not_lt_zero _)), hb, (Nat.le_refl _), c⟩ ?_)))))))))
 rintro _ G C e y ⟨i, rfl, s, z, r, A, hi, hall, hb, F, c⟩
 have := hb.size
 refine zF fun _ p => zF fun _ F => zH (zG (zC e rfl r) (zG (zC e rfl s) ?_))
 have hc' := hc.keep0 (zQ hb)
 refine op_len_rd Tryz.underlying32 (zA e rfl) hc' (op_lss (zA e rfl) (zA e rfl) (fun G => ?_) (fun G => ?_))
 ·
  refine zB (F _ _ (wp_cond_true (zA e rfl) (wp_skip (p _ _ (zF fun _ p => wp_block (zF fun _ F => zF fun _ G => zH (zD rfl (zB (G _ _ (wp_block (loop_m (fun mz_ az_ w' => ∃ (k : Nat), mz_ = i - k ∧ (Sl az_ 1 cv) ∧ (Sl az_ 2 (ptr o 0)) ∧ (Sl az_ 5 (.bool (refB l i))) ∧ (Sl az_ 6 (.int .i64 ((i : Nat) : Int))) ∧ (Sl az_ 7 (.int .i64 ((k : Nat) : Int))) ∧ (k ≤ i) ∧ (∀ j, j < k → decide ((l.getD j default).nm = (l.getD i default).nm) = false) ∧ (Below w.heap.size w w') ∧ (C.heap.size ≤ w'.heap.size) ∧ (Bx w' o 30 [tv, vv])) _ e y ⟨0, rfl, (zL e rfl s), (zL e rfl z), (zL e rfl A), (zL e rfl r), (zU e rfl), (Nat.zero_le _), (fun _ h => absurd h (Nat.not_lt_zero _)), hb, (Nat.le_refl _), c⟩ ?_)))))))))))
  rintro _ L A o z ⟨k, rfl, s, C, H, r, I, hk, J, hb, K, c⟩
  have := hb.size
  refine zF fun _ G => zF fun _ K => zH (zG (zC o rfl I) (zG (zC o rfl r) (op_lss (zA o rfl) (zA o rfl) (fun L => ?_) (fun L => ?_))))
  ·
   refine zB (K _ _ (wp_cond_true (zA o rfl) (wp_skip (G _ _ (zF fun _ G => wp_block (zF fun _ K => reg_still mixed zy ?_))))))
   intro M L
   obtain ⟨hb, _⟩ := yE hb L
   have c := c.keep0 L
   refine st_step rfl (fun _ L => zG (zC o rfl s) L) (st_step rfl (fun _ L => zG (zC o rfl I) L) ?_)
   have hc' := hc.keep0 (zQ hb)
   refine st_index_rd slt32 (zA o rfl) hc' (zA o rfl) zx zx ?_
   intro R P O Q M
   refine st_step rfl (fun _ L => zM fld48_0 (zA o rfl) L) (st_step rfl (fun _ L => zN (v := (Value.string (bs (l.getD k default).nm))) one9 (zA o rfl) (M 0 ((.string (bs (l.getD k default).nm))) zz ((el_pc (i := k) zx zx) 0 ((.string (bs (l.getD k default).nm))) rfl)) L) (st_step rfl (fun _ L => zG (zC o rfl s) L) (st_step rfl (fun _ L => zG (zC o rfl r) L) (st_index_rd slt32 (zA o rfl) hc' (zA o rfl) zx zx ?_))))
   intro Q R O P M
   refine st_step rfl (fun _ L => zM fld48_0 (zA o rfl) L) (st_step rfl (fun _ L => zN (v := (Value.string (bs (l.getD i default).nm))) one9 (zA o rfl) (M 0 ((.string (bs (l.getD i default).nm))) zz ((el_pc (i := i) zx zx) 0 ((.string (bs (l.getD i default).nm))) rfl)) L) (st_step rfl (fun _ L => op_seqlb (b := (decide ((l.getD k default).nm = (l.getD i default).nm))) (zA o rfl) (zA o rfl) rfl L) (st_nil (K _ _ (wp_cond_split (zA o rfl) (fun O => ?_) (fun O => ?_))))))
   ·
    have O := of_decide_eq_true O
    refine zF fun _ K => zH (zD rfl (zB (K _ _ (wp_ret (zb (zO (zO (zb (zO (zb (zO (zO (zb (zO ( (ret1 rfl z (zA o rfl) ⟨_, rfl, ?_⟩))))))))))))))))
    have M : colE (D.map DTab.t) l i = 12 := colE_1 (ix_tk (k := k) zx zx O)
    have q : (colsE (D.map DTab.t) l) = 12 := (colsE_hit zx zx hall (by rw [M]; decide)).trans M
    rw [q]; exact ⟨hb, rfl⟩
   have O := of_decide_eq_false O
   refine wp_skip (G _ _ (zH (zG (zC o rfl I) (op_add (zA o rfl) rfl (add64 zx) (zD (zA o rfl) (zB ?_))))))
   -- round 12F 16F 21T 26T 39F
   exact zg _ o z ⟨(k + 1), rfl, (zL o rfl s), (zL o rfl C), (zL o rfl H), (zL o rfl r), (zU o rfl).trans (congrArg (Value.int .i64) zx), zx, (all_next J (decide_eq_false O)), hb, zx, c⟩ zx
  refine zB (K _ _ (wp_cond_false (zA o rfl) (wp_exit (then_exit (then_exit (blk_hit (F _ _ (zF fun _ F => zF fun _ G => zH ?_))))))))
  have I : ∀ j, j < i → decide ((l.getD j default).nm = (l.getD i default).nm) = false := fun j hj => J j zx
  refine zG (zC o rfl s) (zG (zC o rfl r) ?_)
  have hc' := hc.keep0 (zQ hb)
  refine zh slt32 (zA o rfl) hc' (zA o rfl) zx zx ?_
  intro O P K Q J
  refine zM fld48_1 (zA o rfl) (zN (v := (Value.int .i64 (l.getD i default).kind)) one3 (zA o rfl) (J 1 ((.int .i64 (l.getD i default).kind)) zz ((el_pc (i := i) zx zx) 1 ((.int .i64 (l.getD i default).kind)) rfl)) (op_neq (zA o rfl) rfl (fun K => ?_) (fun K => ?_)))
  ·
   refine zG (zA o rfl) (zS (j := 6) (dj := 46) (b := true) rfl rfl rfl (zA o rfl) (zG (zC o rfl s) (zS (j := 6) (dj := 46) (b := true) rfl rfl rfl (zA o rfl) (zG (zC o rfl r) (zS (j := 6) (dj := 46) (b := true) rfl rfl rfl (zA o rfl) (zh slt32 (zA o rfl) hc' (zA o rfl) zx zx ?_))))))
   intro O P Q K J
   refine zS (j := 6) (dj := 46) (b := true) rfl rfl rfl (zA o rfl) (zM fld48_1 (zA o rfl) (zS (j := 6) (dj := 46) (b := true) rfl rfl rfl (zA o rfl) (zN (v := (Value.int .i64 (l.getD i default).kind)) one3 (zA o rfl) (J 1 ((.int .i64 (l.getD i default).kind)) zz ((el_pc (i := i) zx zx) 1 ((.int .i64 (l.getD i default).kind)) rfl)) (zS (j := 6) (dj := 46) (b := true) rfl rfl rfl (zA o rfl) (op_neq (zA o rfl) rfl (fun K => ?_) (fun K => ?_))))))
   ·
    refine zc (zA o rfl) (zA o rfl) (zB (G _ _ (wp_cond_true (zA o rfl) (zF fun _ G => zH (zD rfl (zB (G _ _ (wp_ret (zO (zb (zO (zO (zb (zO ( (ret1 rfl z (zA o rfl) ⟨_, rfl, ?_⟩))))))))))))))))
    have M : colE (D.map DTab.t) l i = 11 := colE_2 (ix_tn zx I) ⟨by omega, by omega⟩
    have q : (colsE (D.map DTab.t) l) = 11 := (colsE_hit zx zx hall (by rw [M]; decide)).trans M
    rw [q]; exact ⟨hb, rfl⟩
   refine zc (zA o rfl) (zA o rfl) (zB (G _ _ (wp_cond_false (zA o rfl) (wp_skip (F _ _ (zF fun _ F => zF fun _ G => zH (zG (zC o rfl s) (zG (zC o rfl r) (zh slt32 (zA o rfl) hc' (zA o rfl) zx zx ?_)))))))))
   intro O K P Q J
   refine zM fld48_2 (zA o rfl) (zN (v := (Value.string (bs (l.getD i default).ref))) one9 (zA o rfl) (J 2 ((.string (bs (l.getD i default).ref))) zz ((el_pc (i := i) zx zx) 2 ((.string (bs (l.getD i default).ref))) rfl)) (op_seql (zA o rfl) rfl (fun K => ?_) (fun K => ?_)))
   ·
    refine zB (G _ _ (wp_cond_true (zA o rfl) (wp_exit (then_exit (blk_hit (p _ _ (zH (zG (zC o rfl r) (op_add (zA o rfl) rfl (add64 zx) (zD (zA o rfl) (zB ?_)))))))))))
    -- round 12F 16F 21T 26F 45T 52F 59T
    exact zg _ o z ⟨(i + 1), rfl, (zL o rfl s), (zL o rfl C), (zU o rfl).trans (congrArg (Value.int .i64) zx), (zL o rfl H).trans (congrArg Value.bool (refB_f zx K)), zx, (all_next hall (colE_3 (ix_tn zx I) zx K)), hb, zx, c⟩ zx
   refine zB (G _ _ (wp_cond_false (zA o rfl) (wp_skip (F _ _ (zF fun _ F => zF fun _ G => zH (zG (zC o rfl r) (op_eql (zA o rfl) rfl (fun J => ?_) (fun J => ?_))))))))
   ·
    refine zG (zA o rfl) (zR (j := 2) (dj := 62) (b := false) rfl rfl rfl (zA o rfl) rfl rfl (zc (zA o rfl) rfl (zB (G _ _ (wp_cond_true (zA o rfl) (zF fun _ G => zH (zD rfl (zB (G _ _ (wp_ret (zO (zb (zO (zO (zb (zO ( (ret1 rfl z (zA o rfl) ⟨_, rfl, ?_⟩))))))))))))))))))
    have M : colE (D.map DTab.t) l i = 14 := colE_4 (ix_tn zx I) zx K (.inl zx)
    have q : (colsE (D.map DTab.t) l) = 14 := (colsE_hit zx zx hall (by rw [M]; decide)).trans M
    rw [q]; exact ⟨hb, rfl⟩
   refine zG (zA o rfl) (zS (j := 2) (dj := 62) (b := false) rfl rfl rfl (zA o rfl) ?_)
   rcases Bool.eq_false_or_eq_true ((refB l i)) with O | O
   ·
    try rw [O]
    refine zG ((zC o rfl H).trans (congrArg Value.bool O)) (zd (zA o rfl) (zA o rfl) (zB (G _ _ (wp_cond_true (zA o rfl) (zF fun _ G => zH (zD rfl (zB (G _ _ (wp_ret (zO (zb (zO (zO (zb (zO ( (ret1 rfl z (zA o rfl) ⟨_, rfl, ?_⟩)))))))))))))))))
    have M : colE (D.map DTab.t) l i = 14 := colE_4 (ix_tn zx I) zx K (.inr (of_decide_eq_true O))
    have q : (colsE (D.map DTab.t) l) = 14 := (colsE_hit zx zx hall (by rw [M]; decide)).trans M
    rw [q]; exact ⟨hb, rfl⟩
   try rw [O]
   refine zG ((zC o rfl H).trans (congrArg Value.bool O)) (zd (zA o rfl) (zA o rfl) (zB (G _ _ (wp_cond_false (zA o rfl) (wp_skip (F _ _ (zF fun _ F => zH (zD rfl (zB (F _ _ (zF fun _ F => ?_)))))))))))
   have hT' := hT.keep0 (zQ hb)
   refine reg_store 10 11 8 51 8 73 (Φ := phiL [(fun uz _ => uz = (.agg #[tv, vv])), (fun uz _ => uz = cv), (fun uz _ => uz = (.int .i64 ((i : Nat) : Int))), (fun uz w' => ∃ (S : (Nat)) (U : (Nat)), uz = (ptr S U) ∧ PtC w' 0 w.heap.size S U [(.string (bs (l.getD i default).nm)), (.int .i64 (l.getD i default).kind), (.string (bs (l.getD i default).ref))]), (fun uz w' => ∃ (W : (Nat)) (V : (Nat)), uz = (ptr W (V + 2)) ∧ PtC w' 0 w.heap.size W V [(.string (bs (l.getD i default).nm)), (.int .i64 (l.getD i default).kind), (.string (bs (l.getD i default).ref))]), (fun uz _ => uz = (.string (bs (l.getD i default).ref))), (fun uz _ => uz = (.tuple #[(.agg #[(.string (bs (tabD D ((l.getD i default).ref)).t.nm)), (tabD D ((l.getD i default).ref)).cv, (tabD D ((l.getD i default).ref)).iv]), (.bool (tabAt (D.map DTab.t) ((l.getD i default).ref)).isSome)])), (fun uz _ => uz = (.tuple #[(.agg #[(.string (bs (tabD D ((l.getD i default).ref)).t.nm)), (tabD D ((l.getD i default).ref)).cv, (tabD D ((l.getD i default).ref)).iv]), (.bool (tabAt (D.map DTab.t) ((l.getD i default).ref)).isSome)])), (fun uz _ => uz = (.agg #[(.string (bs (tabD D ((l.getD i default).ref)).t.nm)), (tabD D ((l.getD i default).ref)).cv, (tabD D ((l.getD i default).ref)).iv])), (fun uz _ => uz = (.bool (tabAt (D.map DTab.t) ((l.getD i default).ref)).isSome)), (fun _ _ => True), (fun _ _ => True), (fun uz _ => uz = (.bool (tabAt (D.map DTab.t) ((l.getD i default).ref)).isSome))]) (cs := [(.string (bs (tabD D ((l.getD i default).ref)).t.nm)), (tabD D ((l.getD i default).ref)).cv, (tabD D ((l.getD i default).ref)).iv]) (val := (Value.agg #[(.string (bs (tabD D ((l.getD i default).ref)).t.nm)), (tabD D ((l.getD i default).ref)).cv, (tabD D ((l.getD i default).ref)).iv])) mixed zy zy zy zy o rfl rfl zero51 rfl size51 rfl rfl (by simp only [yA, yB, yC, yD, (tabD_rd hT' ((l.getD i default).ref)).1.one, (tabD_rd hT' ((l.getD i default).ref)).2.one]; try rfl) zy rfl (fun _ _ h => h) (fun _ _ => trivial) (StB.get (StB.eq (StB.eq (StB.eq (StB.cons (fun u m X E h => by obtain ⟨R, P, hv, Q⟩ := h; exact ⟨R, P, hv, Q.lo E zx⟩) (StB.cons (fun u m X E h => by obtain ⟨R, P, hv, Q⟩ := h; exact ⟨R, P, hv, Q.lo E zx⟩) (StB.eq (StB.eq (StB.eq (StB.eq (StB.eq (StB.any (StB.any (StB.eq (StB.nil))))))))))))))) (ObS.get (ObS.cons ?_ (ObS.cons ?_ (ObS.cons ?_ (ObS.cons ?_ (ObS.cons ?_ (ObS.cons ?_ (ObS.cons ?_ (ObS.cons ?_ (ObS.cons ?_ (ObS.cons ?_ (ObS.pass1 (ObS.pass2 (ObS.cons ?_ (ObS.nil))))))))))))))) ?_
   ·
    intro aA wA hNA hRA hbsA hdpA
    have hRA : A.grownBy wA none := hRA.grown
    have := hRA.size
    have c := c.keep0 hRA
    have Y := (hbsA 2 rfl).trans (zL o rfl C)
    clear hbsA hdpA
    refine zY agg30 rfl (zC hNA rfl Y) c ?_
    exact obN_end rfl rfl (grown_refl _ _)
   ·
    intro aA wA hNA hRA hbsA hdpA
    have Z := (hbsA 1 rfl).trans (zL o rfl s)
    refine zG (zC hNA rfl Z) ?_
    exact obN_end rfl rfl (grown_refl _ _)
   ·
    intro aA wA hNA hRA hbsA hdpA
    have aa := (hbsA 6 rfl).trans (zL o rfl r)
    refine zG (zC hNA rfl aa) ?_
    exact obN_end rfl rfl (grown_refl _ _)
   ·
    intro aA wA hNA hRA hbsA hdpA
    have hRA : A.grownBy wA none := hRA.grown
    obtain ⟨hb, _⟩ := yE hb hRA
    have ab : Sl aA 67 cv := hdpA 1 _ 67 zy rfl rfl
    have ac : Sl aA 68 (.int .i64 ((i : Nat) : Int)) := hdpA 2 _ 68 zy rfl rfl
    clear hbsA hdpA
    have hc' := hc.keep0 (zQ hb)
    refine zh slt32 (zC hNA rfl ab) hc' (zC hNA rfl ac) zx zx ?_
    intro ad ae ag ah af
    have ag : PtC wA 0 w.heap.size ad ae [(.string (bs (l.getD i default).nm)), (.int .i64 (l.getD i default).kind), (.string (bs (l.getD i default).ref))] := ⟨by omega, by omega, fun j u hu => af j u (by have := (List.getElem?_eq_some_iff.1 hu).1; simpa using this) ((el_pc (i := i) zx zx) j u hu)⟩
    exact obN_end rfl ⟨ad, ae, rfl, ag⟩ (grown_refl _ _)
   ·
    intro aA wA hNA hRA hbsA hdpA
    obtain ⟨S, U, ae, ad⟩ := hdpA 3 _ 69 zy rfl rfl
    have ad : PtC wA 0 w.heap.size S U [(.string (bs (l.getD i default).nm)), (.int .i64 (l.getD i default).kind), (.string (bs (l.getD i default).ref))] := ad
    refine zM fld48_2 (zC hNA rfl ae) ?_
    exact obN_end rfl ⟨S, U, rfl, ad⟩ (grown_refl _ _)
   ·
    intro aA wA hNA hRA hbsA hdpA
    have hRA : A.grownBy wA none := hRA.grown
    have := hRA.size
    obtain ⟨W, V, U, S⟩ := hdpA 4 _ 70 zy rfl rfl
    have S : PtC wA 0 w.heap.size W V [(.string (bs (l.getD i default).nm)), (.int .i64 (l.getD i default).kind), (.string (bs (l.getD i default).ref))] := S
    clear hbsA hdpA
    refine zN (v := (Value.string (bs (l.getD i default).ref))) one9 (zC hNA rfl U) (S.2.2 2 _ rfl) ?_
    exact obN_end rfl rfl (grown_refl _ _)
   ·
    intro aA wA hNA hRA hbsA hdpA
    have hRA : A.grownBy wA none := hRA.grown
    obtain ⟨hb, _⟩ := yE hb hRA
    have S : Sl aA 66 (.agg #[tv, vv]) := hdpA 0 _ 66 zy rfl rfl
    have V : Sl aA 71 (.string (bs (l.getD i default).ref)) := hdpA 5 _ 71 zy rfl rfl
    clear hbsA hdpA
    have hT' := hT.keep0 (zQ hb)
    refine zj ok26 (Table9_ret (D := D) (x := (l.getD i default).ref) hT' zx hD) ⟨(zC hNA rfl S), ⟨(zC hNA rfl V), trivial⟩⟩ ?_
    rintro _ ad ⟨W, rfl⟩
    have W := zQ W
    have := W.size
    exact obN_end rfl rfl (W)
   ·
    intro aA wA hNA hRA hbsA hdpA
    have W : Sl aA 72 (.tuple #[(.agg #[(.string (bs (tabD D ((l.getD i default).ref)).t.nm)), (tabD D ((l.getD i default).ref)).cv, (tabD D ((l.getD i default).ref)).iv]), (.bool (tabAt (D.map DTab.t) ((l.getD i default).ref)).isSome)]) := hdpA 6 _ 72 zy rfl rfl
    refine zG (zC hNA rfl W) ?_
    exact obN_end rfl rfl (grown_refl _ _)
   ·
    intro aA wA hNA hRA hbsA hdpA
    have ad : Sl aA 65 (.tuple #[(.agg #[(.string (bs (tabD D ((l.getD i default).ref)).t.nm)), (tabD D ((l.getD i default).ref)).cv, (tabD D ((l.getD i default).ref)).iv]), (.bool (tabAt (D.map DTab.t) ((l.getD i default).ref)).isSome)]) := hdpA 7 _ 65 zy rfl rfl
    refine zW (zC hNA rfl ad) rfl ?_
    exact obN_end rfl rfl (grown_refl _ _)
   ·
    intro aA wA hNA hRA hbsA hdpA
    have ad : Sl aA 65 (.tuple #[(.agg #[(.string (bs (tabD D ((l.getD i default).ref)).t.nm)), (tabD D ((l.getD i default).ref)).cv, (tabD D ((l.getD i default).ref)).iv]), (.bool (tabAt (D.map DTab.t) ((l.getD i default).ref)).isSome)]) := hdpA 7 _ 65 zy rfl rfl
    refine zW (zC hNA rfl ad) rfl ?_
    exact obN_end rfl rfl (grown_refl _ _)
   ·
    intro aA wA hNA hRA hbsA hdpA
    have af : Sl aA 74 (.bool (tabAt (D.map DTab.t) ((l.getD i default).ref)).isSome) := hdpA 9 _ 74 zy rfl rfl
    refine zD (zC hNA rfl af) ?_
    exact obN_end rfl rfl (grown_refl _ _)
   intro an al ag ah ai ak am aj
   have ah := ah.trans z
   obtain ⟨au, ap, ar, aq, ao⟩ := am
   have am := (ai 1 rfl).trans (zL o rfl s)
   have aq := (ai 2 rfl).trans (zL o rfl C)
   have ar := (ai 5 rfl).trans (zU o rfl)
   have au := (ai 6 rfl).trans (zL o rfl r)
   have aw : Sl an 9 (.bool (tabAt (D.map DTab.t) ((l.getD i default).ref)).isSome) := ak 12 _ 9 rfl rfl
   clear ai ak
   have aj : A.grownBy al none := aj
   obtain ⟨hb, _⟩ := yE hb aj
   have c := c.keep0 aj
   refine F _ _ (zF fun _ F => zF fun _ G => zH ?_)
   rcases Bool.eq_false_or_eq_true ((tabAt (D.map DTab.t) ((l.getD i default).ref)).isSome) with ai | ai
   ·
    try rw [ai]
    refine zG ((zC ag rfl aw).trans (congrArg Value.bool ai)) (op_not (zA ag rfl) (zB (G _ _ (wp_cond_false (zA ag rfl) (wp_skip (F _ _ (zF fun _ F => reg_still mixed zy ?_)))))))
    intro ak aj
    obtain ⟨hb, _⟩ := yE hb aj
    obtain ⟨c, ao⟩ := kb2 aj c ao
    have aj := tabD_is ai
    have ak := hnc _ (List.mem_map.2 ⟨_, aj.2, rfl⟩)
    refine st_step rfl (fun _ L => zM fld51_1 (zC ag rfl ap) L) (st_step rfl (fun _ L => zN one32 (zA ag rfl) (ao.cell rfl) L) ?_)
    have hT' := hT.keep0 (zQ hb)
    refine st_index_rd slt32 (zA ag rfl) (tabD_rd hT' ((l.getD i default).ref)).1 rfl zx zx ?_
    intro ao ax an ap al
    refine st_step rfl (fun _ L => zM fld48_1 (zA ag rfl) L) (st_step rfl (fun _ L => zN (v := (Value.int .i64 ((tabD D ((l.getD i default).ref)).t.cols.getD 0 default).kind)) one3 (zA ag rfl) (al 1 ((.int .i64 ((tabD D ((l.getD i default).ref)).t.cols.getD 0 default).kind)) zz ((el_pc (i := 0) zx zx) 1 ((.int .i64 ((tabD D ((l.getD i default).ref)).t.cols.getD 0 default).kind)) rfl)) L) (st_step rfl (fun _ L => zG (zC ag rfl am) L) (st_step rfl (fun _ L => zG (zC ag rfl au) L) ?_)))
    have hc' := hc.keep0 (zQ hb)
    refine st_index_rd slt32 (zA ag rfl) hc' (zA ag rfl) zx zx ?_
    intro an ap ax ao al
    refine st_step rfl (fun _ L => zM fld48_1 (zA ag rfl) L) (st_step rfl (fun _ L => zN (v := (Value.int .i64 (l.getD i default).kind)) one3 (zA ag rfl) (al 1 ((.int .i64 (l.getD i default).kind)) zz ((el_pc (i := i) zx zx) 1 ((.int .i64 (l.getD i default).kind)) rfl)) L) (st_step rfl (fun _ L => op_cmp (b := (decide (((tabD D ((l.getD i default).ref)).t.cols.getD 0 default).kind ≠ (l.getD i default).kind))) (zA ag rfl) (zA ag rfl) (b_neq rfl) L) (st_nil (F _ _ (wp_cond_split (zA ag rfl) (fun an => ?_) (fun an => ?_))))))
    ·
     have an := of_decide_eq_true an
     refine zF fun _ F => zH (zD rfl (zB (F _ _ (wp_ret (zb (zO (zO (zb (zO ( (ret1 rfl ah (zA ag rfl) ⟨_, rfl, ?_⟩)))))))))))
     have M : colE (D.map DTab.t) l i = 11 := (colE_5 (T := (D.map DTab.t)) (ix_tn zx I) zx K (refB_no zx O)).trans (by rw [aj.1]; exact if_pos (.inr zx))
     have q : (colsE (D.map DTab.t) l) = 11 := (colsE_hit zx zx hall (by rw [M]; decide)).trans M
     rw [q]; exact ⟨hb, rfl⟩
    have an := of_decide_eq_false an
    refine wp_skip (p _ _ (zH (zG (zC ag rfl au) (op_add (zA ag rfl) rfl (add64 zx) (zD (zA ag rfl) (zB ?_))))))
    -- round 12F 16F 21T 26F 45T 52F 59F 61F 63F 75T 87F
    exact zg _ ag ah ⟨(i + 1), rfl, (zL ag rfl am), (zL ag rfl aq), (zU ag rfl).trans (congrArg (Value.int .i64) zx), (zL ag rfl ar).trans (congrArg Value.bool (refB_t zx K)), zx, (all_next hall ((colE_5 (T := (D.map DTab.t)) (ix_tn zx I) zx K (refB_no zx O)).trans (by rw [aj.1]; exact if_neg (fun h => h.elim (fun g => by have := ak; omega) fun g => g zx)))), hb, zx, c⟩ zx
   try rw [ai]
   refine zG ((zC ag rfl aw).trans (congrArg Value.bool ai)) (op_not (zA ag rfl) (zB (G _ _ (wp_cond_true (zA ag rfl) (zF fun _ G => zH (zD rfl (zB (G _ _ (wp_ret (zO (zb (zO (zO (zb (zO ( (ret1 rfl ah (zA ag rfl) ⟨_, rfl, ?_⟩)))))))))))))))))
   have M : colE (D.map DTab.t) l i = 9 := (colE_5 (T := (D.map DTab.t)) (ix_tn zx I) zx K (refB_no zx O)).trans (by rw [tab_no9 ai])
   have q : (colsE (D.map DTab.t) l) = 9 := (colsE_hit zx zx hall (by rw [M]; decide)).trans M
   rw [q]; exact ⟨hb, rfl⟩
  refine zG (zA o rfl) (zR (j := 6) (dj := 46) (b := true) rfl rfl rfl (zA o rfl) rfl rfl (zR (j := 6) (dj := 46) (b := true) rfl rfl rfl (zA o rfl) rfl rfl (zR (j := 6) (dj := 46) (b := true) rfl rfl rfl (zA o rfl) rfl rfl ?_)))
  refine zR (j := 6) (dj := 46) (b := true) rfl rfl rfl (zA o rfl) rfl rfl (zR (j := 6) (dj := 46) (b := true) rfl rfl rfl (zA o rfl) rfl rfl (zR (j := 6) (dj := 46) (b := true) rfl rfl rfl (zA o rfl) rfl rfl (zd (zA o rfl) rfl (zB (G _ _ (wp_cond_false (zA o rfl) (wp_skip (F _ _ (zF fun _ F => zF fun _ G => zH (zG (zC o rfl s) (zG (zC o rfl r) ?_)))))))))))
  have hc' := hc.keep0 (zQ hb)
  refine zh slt32 (zA o rfl) hc' (zA o rfl) zx zx ?_
  intro ao ah al am ag
  refine zM fld48_2 (zA o rfl) (zN (v := (Value.string (bs (l.getD i default).ref))) one9 (zA o rfl) (ag 2 ((.string (bs (l.getD i default).ref))) zz ((el_pc (i := i) zx zx) 2 ((.string (bs (l.getD i default).ref))) rfl)) (op_seql (zA o rfl) rfl (fun K => ?_) (fun K => ?_)))
  ·
   refine zB (G _ _ (wp_cond_true (zA o rfl) (wp_exit (then_exit (blk_hit (p _ _ (zH (zG (zC o rfl r) (op_add (zA o rfl) rfl (add64 zx) (zD (zA o rfl) (zB ?_)))))))))))
   -- round 12F 16F 21T 26F 45F 59T
   exact zg _ o z ⟨(i + 1), rfl, (zL o rfl s), (zL o rfl C), (zU o rfl).trans (congrArg (Value.int .i64) zx), (zL o rfl H).trans (congrArg Value.bool (refB_f zx K)), zx, (all_next hall (colE_3 (ix_tn zx I) zx K)), hb, zx, c⟩ zx
  refine zB (G _ _ (wp_cond_false (zA o rfl) (wp_skip (F _ _ (zF fun _ F => zF fun _ G => zH (zG (zC o rfl r) (op_eql (zA o rfl) rfl (fun J => ?_) (fun J => ?_))))))))
  ·
   refine zG (zA o rfl) (zR (j := 2) (dj := 62) (b := false) rfl rfl rfl (zA o rfl) rfl rfl (zc (zA o rfl) rfl (zB (G _ _ (wp_cond_true (zA o rfl) (zF fun _ G => zH (zD rfl (zB (G _ _ (wp_ret (zO (zb (zO (zO (zb (zO ( (ret1 rfl z (zA o rfl) ⟨_, rfl, ?_⟩))))))))))))))))))
   have M : colE (D.map DTab.t) l i = 14 := colE_4 (ix_tn zx I) zx K (.inl zx)
   have q : (colsE (D.map DTab.t) l) = 14 := (colsE_hit zx zx hall (by rw [M]; decide)).trans M
   rw [q]; exact ⟨hb, rfl⟩
  refine zG (zA o rfl) (zS (j := 2) (dj := 62) (b := false) rfl rfl rfl (zA o rfl) ?_)
  rcases Bool.eq_false_or_eq_true ((refB l i)) with O | O
  ·
   try rw [O]
   refine zG ((zC o rfl H).trans (congrArg Value.bool O)) (zd (zA o rfl) (zA o rfl) (zB (G _ _ (wp_cond_true (zA o rfl) (zF fun _ G => zH (zD rfl (zB (G _ _ (wp_ret (zO (zb (zO (zO (zb (zO ( (ret1 rfl z (zA o rfl) ⟨_, rfl, ?_⟩)))))))))))))))))
   have M : colE (D.map DTab.t) l i = 14 := colE_4 (ix_tn zx I) zx K (.inr (of_decide_eq_true O))
   have q : (colsE (D.map DTab.t) l) = 14 := (colsE_hit zx zx hall (by rw [M]; decide)).trans M
   rw [q]; exact ⟨hb, rfl⟩
  try rw [O]
  refine zG ((zC o rfl H).trans (congrArg Value.bool O)) (zd (zA o rfl) (zA o rfl) (zB (G _ _ (wp_cond_false (zA o rfl) (wp_skip (F _ _ (zF fun _ F => zH (zD rfl (zB (F _ _ (zF fun _ F => ?_)))))))))))
  have hT' := hT.keep0 (zQ hb)
  refine reg_store 10 11 8 51 8 73 (Φ := phiL [(fun uz _ => uz = (.agg #[tv, vv])), (fun uz _ => uz = cv), (fun uz _ => uz = (.int .i64 ((i : Nat) : Int))), (fun uz w' => ∃ (J : (Nat)) (H : (Nat)), uz = (ptr J H) ∧ PtC w' 0 w.heap.size J H [(.string (bs (l.getD i default).nm)), (.int .i64 (l.getD i default).kind), (.string (bs (l.getD i default).ref))]), (fun uz w' => ∃ (ah : (Nat)) (ag : (Nat)), uz = (ptr ah (ag + 2)) ∧ PtC w' 0 w.heap.size ah ag [(.string (bs (l.getD i default).nm)), (.int .i64 (l.getD i default).kind), (.string (bs (l.getD i default).ref))]), (fun uz _ => uz = (.string (bs (l.getD i default).ref))), (fun uz _ => uz = (.tuple #[(.agg #[(.string (bs (tabD D ((l.getD i default).ref)).t.nm)), (tabD D ((l.getD i default).ref)).cv, (tabD D ((l.getD i default).ref)).iv]), (.bool (tabAt (D.map DTab.t) ((l.getD i default).ref)).isSome)])), (fun uz _ => uz = (.tuple #[(.agg #[(.string (bs (tabD D ((l.getD i default).ref)).t.nm)), (tabD D ((l.getD i default).ref)).cv, (tabD D ((l.getD i default).ref)).iv]), (.bool (tabAt (D.map DTab.t) ((l.getD i default).ref)).isSome)])), (fun uz _ => uz = (.agg #[(.string (bs (tabD D ((l.getD i default).ref)).t.nm)), (tabD D ((l.getD i default).ref)).cv, (tabD D ((l.getD i default).ref)).iv])), (fun uz _ => uz = (.bool (tabAt (D.map DTab.t) ((l.getD i default).ref)).isSome)), (fun _ _ => True), (fun _ _ => True), (fun uz _ => uz = (.bool (tabAt (D.map DTab.t) ((l.getD i default).ref)).isSome))]) (cs := [(.string (bs (tabD D ((l.getD i default).ref)).t.nm)), (tabD D ((l.getD i default).ref)).cv, (tabD D ((l.getD i default).ref)).iv]) (val := (Value.agg #[(.string (bs (tabD D ((l.getD i default).ref)).t.nm)), (tabD D ((l.getD i default).ref)).cv, (tabD D ((l.getD i default).ref)).iv])) mixed zy zy zy zy o rfl rfl zero51 rfl size51 rfl rfl (by simp only [yA, yB, yC, yD, (tabD_rd hT' ((l.getD i default).ref)).1.one, (tabD_rd hT' ((l.getD i default).ref)).2.one]; try rfl) zy rfl (fun _ _ h => h) (fun _ _ => trivial) (StB.get (StB.eq (StB.eq (StB.eq (StB.cons (fun u m X E h => by obtain ⟨R, P, hv, Q⟩ := h; exact ⟨R, P, hv, Q.lo E zx⟩) (StB.cons (fun u m X E h => by obtain ⟨R, P, hv, Q⟩ := h; exact ⟨R, P, hv, Q.lo E zx⟩) (StB.eq (StB.eq (StB.eq (StB.eq (StB.eq (StB.any (StB.any (StB.eq (StB.nil))))))))))))))) (ObS.get (ObS.cons ?_ (ObS.cons ?_ (ObS.cons ?_ (ObS.cons ?_ (ObS.cons ?_ (ObS.cons ?_ (ObS.cons ?_ (ObS.cons ?_ (ObS.cons ?_ (ObS.cons ?_ (ObS.pass1 (ObS.pass2 (ObS.cons ?_ (ObS.nil))))))))))))))) ?_
  ·
   intro aA wA hNA hRA hbsA hdpA
   have hRA : A.grownBy wA none := hRA.grown
   have := hRA.size
   have c := c.keep0 hRA
   have Y := (hbsA 2 rfl).trans (zL o rfl C)
   clear hbsA hdpA
   refine zY agg30 rfl (zC hNA rfl Y) c ?_
   exact obN_end rfl rfl (grown_refl _ _)
  ·
   intro aA wA hNA hRA hbsA hdpA
   have Z := (hbsA 1 rfl).trans (zL o rfl s)
   refine zG (zC hNA rfl Z) ?_
   exact obN_end rfl rfl (grown_refl _ _)
  ·
   intro aA wA hNA hRA hbsA hdpA
   have aa := (hbsA 6 rfl).trans (zL o rfl r)
   refine zG (zC hNA rfl aa) ?_
   exact obN_end rfl rfl (grown_refl _ _)
  ·
   intro aA wA hNA hRA hbsA hdpA
   have hRA : A.grownBy wA none := hRA.grown
   obtain ⟨hb, _⟩ := yE hb hRA
   have ab : Sl aA 67 cv := hdpA 1 _ 67 zy rfl rfl
   have ac : Sl aA 68 (.int .i64 ((i : Nat) : Int)) := hdpA 2 _ 68 zy rfl rfl
   clear hbsA hdpA
   have hc' := hc.keep0 (zQ hb)
   refine zh slt32 (zC hNA rfl ab) hc' (zC hNA rfl ac) zx zx ?_
   intro P m R X Q
   have R : PtC wA 0 w.heap.size P m [(.string (bs (l.getD i default).nm)), (.int .i64 (l.getD i default).kind), (.string (bs (l.getD i default).ref))] := ⟨by omega, by omega, fun j u hu => Q j u (by have := (List.getElem?_eq_some_iff.1 hu).1; simpa using this) ((el_pc (i := i) zx zx) j u hu)⟩
   exact obN_end rfl ⟨P, m, rfl, R⟩ (grown_refl _ _)
  ·
   intro aA wA hNA hRA hbsA hdpA
   obtain ⟨J, H, ae, m⟩ := hdpA 3 _ 69 zy rfl rfl
   have m : PtC wA 0 w.heap.size J H [(.string (bs (l.getD i default).nm)), (.int .i64 (l.getD i default).kind), (.string (bs (l.getD i default).ref))] := m
   refine zM fld48_2 (zC hNA rfl ae) ?_
   exact obN_end rfl ⟨J, H, rfl, m⟩ (grown_refl _ _)
  ·
   intro aA wA hNA hRA hbsA hdpA
   have hRA : A.grownBy wA none := hRA.grown
   have := hRA.size
   obtain ⟨ah, ag, U, m⟩ := hdpA 4 _ 70 zy rfl rfl
   have m : PtC wA 0 w.heap.size ah ag [(.string (bs (l.getD i default).nm)), (.int .i64 (l.getD i default).kind), (.string (bs (l.getD i default).ref))] := m
   clear hbsA hdpA
   refine zN (v := (Value.string (bs (l.getD i default).ref))) one9 (zC hNA rfl U) (m.2.2 2 _ rfl) ?_
   exact obN_end rfl rfl (grown_refl _ _)
  ·
   intro aA wA hNA hRA hbsA hdpA
   have hRA : A.grownBy wA none := hRA.grown
   obtain ⟨hb, _⟩ := yE hb hRA
   have S : Sl aA 66 (.agg #[tv, vv]) := hdpA 0 _ 66 zy rfl rfl
   have V : Sl aA 71 (.string (bs (l.getD i default).ref)) := hdpA 5 _ 71 zy rfl rfl
   clear hbsA hdpA
   have hT' := hT.keep0 (zQ hb)
   refine zj ok26 (Table9_ret (D := D) (x := (l.getD i default).ref) hT' zx hD) ⟨(zC hNA rfl S), ⟨(zC hNA rfl V), trivial⟩⟩ ?_
   rintro _ H ⟨m, rfl⟩
   have m := zQ m
   have := m.size
   exact obN_end rfl rfl (m)
  ·
   intro aA wA hNA hRA hbsA hdpA
   have W : Sl aA 72 (.tuple #[(.agg #[(.string (bs (tabD D ((l.getD i default).ref)).t.nm)), (tabD D ((l.getD i default).ref)).cv, (tabD D ((l.getD i default).ref)).iv]), (.bool (tabAt (D.map DTab.t) ((l.getD i default).ref)).isSome)]) := hdpA 6 _ 72 zy rfl rfl
   refine zG (zC hNA rfl W) ?_
   exact obN_end rfl rfl (grown_refl _ _)
  ·
   intro aA wA hNA hRA hbsA hdpA
   have ad : Sl aA 65 (.tuple #[(.agg #[(.string (bs (tabD D ((l.getD i default).ref)).t.nm)), (tabD D ((l.getD i default).ref)).cv, (tabD D ((l.getD i default).ref)).iv]), (.bool (tabAt (D.map DTab.t) ((l.getD i default).ref)).isSome)]) := hdpA 7 _ 65 zy rfl rfl
   refine zW (zC hNA rfl ad) rfl ?_
   exact obN_end rfl rfl (grown_refl _ _)
  ·
   intro aA wA hNA hRA hbsA hdpA
   have ad : Sl aA 65 (.tuple #[(.agg #[(.string (bs (tabD D ((l.getD i default).ref)).t.nm)), (tabD D ((l.getD i default).ref)).cv, (tabD D ((l.getD i default).ref)).iv]), (.bool (tabAt (D.map DTab.t) ((l.getD i default).ref)).isSome)]) := hdpA 7 _ 65 zy rfl rfl
   refine zW (zC hNA rfl ad) rfl ?_
   exact obN_end rfl rfl (grown_refl _ _)
  ·
   intro aA wA hNA hRA hbsA hdpA
   have af : Sl aA 74 (.bool (tabAt (D.map DTab.t) ((l.getD i default).ref)).isSome) := hdpA 9 _ 74 zy rfl rfl
   refine zD (zC hNA rfl af) ?_
   exact obN_end rfl rfl (grown_refl _ _)
  intro U R m H J Q S P
  have H := H.trans z
  obtain ⟨Y, V, W, X, z⟩ := S
  have S := (J 1 rfl).trans (zL o rfl s)
  have s := (J 2 rfl).trans (zL o rfl C)
  have C := (J 5 rfl).trans (zU o rfl)
  have W := (J 6 rfl).trans (zL o rfl r)
  have o : Sl U 9 (.bool (tabAt (D.map DTab.t) ((l.getD i default).ref)).isSome) := Q 12 _ 9 rfl rfl
  clear J Q
  have P : A.grownBy R none := P
  obtain ⟨hb, _⟩ := yE hb P
  have c := c.keep0 P
  refine F _ _ (zF fun _ F => zF fun _ G => zH ?_)
  rcases Bool.eq_false_or_eq_true ((tabAt (D.map DTab.t) ((l.getD i default).ref)).isSome) with ai | ai
  ·
   try rw [ai]
   refine zG ((zC m rfl o).trans (congrArg Value.bool ai)) (op_not (zA m rfl) (zB (G _ _ (wp_cond_false (zA m rfl) (wp_skip (F _ _ (zF fun _ F => reg_still mixed zy ?_)))))))
   intro A r
   obtain ⟨hb, _⟩ := yE hb r
   obtain ⟨c, z⟩ := kb2 r c z
   have aj := tabD_is ai
   have ak := hnc _ (List.mem_map.2 ⟨_, aj.2, rfl⟩)
   refine st_step rfl (fun _ L => zM fld51_1 (zC m rfl V) L) (st_step rfl (fun _ L => zN one32 (zA m rfl) (z.cell rfl) L) ?_)
   have hT' := hT.keep0 (zQ hb)
   refine st_index_rd slt32 (zA m rfl) (tabD_rd hT' ((l.getD i default).ref)).1 rfl zx zx ?_
   intro A P z J r
   refine st_step rfl (fun _ L => zM fld48_1 (zA m rfl) L) (st_step rfl (fun _ L => zN (v := (Value.int .i64 ((tabD D ((l.getD i default).ref)).t.cols.getD 0 default).kind)) one3 (zA m rfl) (r 1 ((.int .i64 ((tabD D ((l.getD i default).ref)).t.cols.getD 0 default).kind)) zz ((el_pc (i := 0) zx zx) 1 ((.int .i64 ((tabD D ((l.getD i default).ref)).t.cols.getD 0 default).kind)) rfl)) L) (st_step rfl (fun _ L => zG (zC m rfl S) L) (st_step rfl (fun _ L => zG (zC m rfl W) L) ?_)))
   have hc' := hc.keep0 (zQ hb)
   refine st_index_rd slt32 (zA m rfl) hc' (zA m rfl) zx zx ?_
   intro A z J P r
   refine st_step rfl (fun _ L => zM fld48_1 (zA m rfl) L) (st_step rfl (fun _ L => zN (v := (Value.int .i64 (l.getD i default).kind)) one3 (zA m rfl) (r 1 ((.int .i64 (l.getD i default).kind)) zz ((el_pc (i := i) zx zx) 1 ((.int .i64 (l.getD i default).kind)) rfl)) L) (st_step rfl (fun _ L => op_cmp (b := (decide (((tabD D ((l.getD i default).ref)).t.cols.getD 0 default).kind ≠ (l.getD i default).kind))) (zA m rfl) (zA m rfl) (b_neq rfl) L) (st_nil (F _ _ (wp_cond_split (zA m rfl) (fun an => ?_) (fun an => ?_))))))
   ·
    have an := of_decide_eq_true an
    refine zF fun _ F => zH (zD rfl (zB (F _ _ (wp_ret (zb (zO (zO (zb (zO ( (ret1 rfl H (zA m rfl) ⟨_, rfl, ?_⟩)))))))))))
    have M : colE (D.map DTab.t) l i = 11 := (colE_5 (T := (D.map DTab.t)) (ix_tn zx I) zx K (refB_no zx O)).trans (by rw [aj.1]; exact if_pos (.inr zx))
    have q : (colsE (D.map DTab.t) l) = 11 := (colsE_hit zx zx hall (by rw [M]; decide)).trans M
    rw [q]; exact ⟨hb, rfl⟩
   have an := of_decide_eq_false an
   refine wp_skip (p _ _ (zH (zG (zC m rfl W) (op_add (zA m rfl) rfl (add64 zx) (zD (zA m rfl) (zB ?_))))))
   -- round 12F 16F 21T 26F 45F 59F 61F 63F 75T 87F
   exact zg _ m H ⟨(i + 1), rfl, (zL m rfl S), (zL m rfl s), (zU m rfl).trans (congrArg (Value.int .i64) zx), (zL m rfl C).trans (congrArg Value.bool (refB_t zx K)), zx, (all_next hall ((colE_5 (T := (D.map DTab.t)) (ix_tn zx I) zx K (refB_no zx O)).trans (by rw [aj.1]; exact if_neg (fun h => h.elim (fun g => by have := ak; omega) fun g => g zx)))), hb, zx, c⟩ zx
  try rw [ai]
  refine zG ((zC m rfl o).trans (congrArg Value.bool ai)) (op_not (zA m rfl) (zB (G _ _ (wp_cond_true (zA m rfl) (zF fun _ G => zH (zD rfl (zB (G _ _ (wp_ret (zO (zb (zO (zO (zb (zO ( (ret1 rfl H (zA m rfl) ⟨_, rfl, ?_⟩)))))))))))))))))
  have M : colE (D.map DTab.t) l i = 9 := (colE_5 (T := (D.map DTab.t)) (ix_tn zx I) zx K (refB_no zx O)).trans (by rw [tab_no9 ai])
  have q : (colsE (D.map DTab.t) l) = 9 := (colsE_hit zx zx hall (by rw [M]; decide)).trans M
  rw [q]; exact ⟨hb, rfl⟩
 refine zB (F _ _ (wp_cond_false (zA e rfl) (wp_exit (then_exit (then_exit (blk_hit (a _ _ (zF fun _ a => zH (zD rfl (zB (a _ _ (wp_ret (ret1 rfl y (zA e rfl) ⟨_, rfl, ?_⟩)))))))))))))
 have q : (colsE (D.map DTab.t) l) = 0 := colsE_ok zx zx hall
 rw [q]; exact ⟨hb, rfl⟩

end Go.Proofs.YthflnkfghogaoaaGreat
