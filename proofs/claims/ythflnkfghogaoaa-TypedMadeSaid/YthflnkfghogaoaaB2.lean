/- Walks, written by a program: what each function of the translation hands back. -/
import Derived.Test.YthflnkfghogaoaaB1
set_option linter.unusedVariables false
set_option linter.unusedSimpArgs false

namespace Go.Proofs.Ythflnkfghogaoaa
open Go.Gx Go.RowKit
attribute [local irreducible] wpList wpStill Code.wp Calls

theorem args_ret (op : Int) (w : World) : Ret Try.prog 30 #[(.int .i64 op)] w (fun v' w' => v' = .int .i64 (argsN op) ∧ w' = w) := by
 refine enter (N := 20) Try.func30 rfl rfl (by simp) fun a0 hN hd hA => ?_
 have s0 : a0.tmps.getD 0 undef = (.int .i64 op) := hA 0 (by simp)
 clear hA
 refine zF fun K1 hK1 => ?_
 refine zH ?_
 refine zD rfl ?_
 refine zB ?_
 refine hK1 _ _ (zF fun K2 hK2 => ?_)
 refine wp_block ?_
 refine zF fun K3 hK3 => ?_
 refine zF fun K4 hK4 => ?_
 refine zH ?_
 refine zG (zC hN rfl s0) ?_
 refine op_eql (zA hN rfl) rfl (fun c5 => ?_) (fun c5 => ?_)
 ·
  refine zD (zA hN rfl) ?_
  refine zB ?_
  refine hK4 _ _ (wp_cond_true (zA hN rfl) (wp_skip (hK3 _ _ (wp_cond_true (zA hN rfl) (zF fun K5 hK5 => ?_)))))
  refine zH ?_
  refine zD rfl ?_
  refine zB ?_
  refine hK5 _ _ (wp_ret (zb (zO ( ?_))))
  refine ret1 rfl hd (zA hN rfl) ⟨_, rfl, ?_⟩
  exact ⟨congrArg (Value.int .i64) (by unfold argsN; (repeat' split) <;> omega), rfl⟩
 refine zD (zA hN rfl) ?_
 refine zB ?_
 refine hK4 _ _ (wp_cond_false (zA hN rfl) (zH ?_))
 refine zG (zC hN rfl s0) ?_
 refine op_eql (zA hN rfl) rfl (fun c7 => ?_) (fun c7 => ?_)
 ·
  refine zD (zA hN rfl) ?_
  refine zB ?_
  refine hK3 _ _ (wp_cond_true (zA hN rfl) (zF fun K6 hK6 => ?_))
  refine zH ?_
  refine zD rfl ?_
  refine zB ?_
  refine hK6 _ _ (wp_ret (zb (zO ( ?_))))
  refine ret1 rfl hd (zA hN rfl) ⟨_, rfl, ?_⟩
  exact ⟨congrArg (Value.int .i64) (by unfold argsN; (repeat' split) <;> omega), rfl⟩
 refine zD (zA hN rfl) ?_
 refine zB ?_
 refine hK3 _ _ (wp_cond_false (zA hN rfl) (zF fun K7 hK7 => ?_))
 refine zF fun K8 hK8 => ?_
 refine zH ?_
 refine zG (zC hN rfl s0) ?_
 refine op_eql (zA hN rfl) rfl (fun c10 => ?_) (fun c10 => ?_)
 ·
  refine zD (zA hN rfl) ?_
  refine zB ?_
  refine hK8 _ _ (wp_cond_true (zA hN rfl) (wp_skip (hK7 _ _ (wp_cond_true (zA hN rfl) (zF fun K9 hK9 => ?_)))))
  refine zH ?_
  refine zD rfl ?_
  refine zB ?_
  refine hK9 _ _ (wp_ret (zb (zO ( ?_))))
  refine ret1 rfl hd (zA hN rfl) ⟨_, rfl, ?_⟩
  exact ⟨congrArg (Value.int .i64) (by unfold argsN; (repeat' split) <;> omega), rfl⟩
 refine zD (zA hN rfl) ?_
 refine zB ?_
 refine hK8 _ _ (wp_cond_false (zA hN rfl) (zH ?_))
 refine zG (zC hN rfl s0) ?_
 refine op_eql (zA hN rfl) rfl (fun c12 => ?_) (fun c12 => ?_)
 ·
  refine zD (zA hN rfl) ?_
  refine zB ?_
  refine hK7 _ _ (wp_cond_true (zA hN rfl) (zF fun K10 hK10 => ?_))
  refine zH ?_
  refine zD rfl ?_
  refine zB ?_
  refine hK10 _ _ (wp_ret (zb (zO ( ?_))))
  refine ret1 rfl hd (zA hN rfl) ⟨_, rfl, ?_⟩
  exact ⟨congrArg (Value.int .i64) (by unfold argsN; (repeat' split) <;> omega), rfl⟩
 refine zD (zA hN rfl) ?_
 refine zB ?_
 refine hK7 _ _ (wp_cond_false (zA hN rfl) (zF fun K11 hK11 => ?_))
 refine zH ?_
 refine zG (zC hN rfl s0) ?_
 refine op_geq (zA hN rfl) rfl (fun c15 => ?_) (fun c15 => ?_)
 ·
  refine zG (zA hN rfl) ?_
  refine zS (j := 2) (dj := 16) (b := true) rfl rfl rfl (zA hN rfl) ?_
  refine zG (zC hN rfl s0) ?_
  refine zS (j := 2) (dj := 16) (b := true) rfl rfl rfl (zA hN rfl) ?_
  refine op_leq (zA hN rfl) rfl (fun c18 => ?_) (fun c18 => ?_)
  ·
   refine zc (zA hN rfl) (zA hN rfl) ?_
   refine zD (zA hN rfl) ?_
   refine zB ?_
   refine hK11 _ _ (wp_cond_true (zA hN rfl) (zF fun K12 hK12 => ?_))
   refine zH ?_
   refine zD rfl ?_
   refine zB ?_
   refine hK12 _ _ (wp_ret (zb (zO ( ?_))))
   refine ret1 rfl hd (zA hN rfl) ⟨_, rfl, ?_⟩
   exact ⟨congrArg (Value.int .i64) (by unfold argsN; (repeat' split) <;> omega), rfl⟩
  refine zc (zA hN rfl) (zA hN rfl) ?_
  refine zD (zA hN rfl) ?_
  refine zB ?_
  refine hK11 _ _ (wp_cond_false (zA hN rfl) (wp_skip (hK2 _ _ (zF fun K13 hK13 => ?_))))
  refine zH ?_
  refine zD rfl ?_
  refine zB ?_
  refine hK13 _ _ (wp_ret ?_)
  refine ret1 rfl hd (zA hN rfl) ⟨_, rfl, ?_⟩
  exact ⟨congrArg (Value.int .i64) (by unfold argsN; (repeat' split) <;> omega), rfl⟩
 refine zG (zA hN rfl) ?_
 refine zR (j := 2) (dj := 16) (b := true) rfl rfl rfl (zA hN rfl) rfl rfl ?_
 refine zR (j := 2) (dj := 16) (b := true) rfl rfl rfl (zA hN rfl) rfl rfl ?_
 refine zd (zA hN rfl) rfl ?_
 refine zD (zA hN rfl) ?_
 refine zB ?_
 refine hK11 _ _ (wp_cond_false (zA hN rfl) (wp_skip (hK2 _ _ (zF fun K14 hK14 => ?_))))
 refine zH ?_
 refine zD rfl ?_
 refine zB ?_
 refine hK14 _ _ (wp_ret ?_)
 refine ret1 rfl hd (zA hN rfl) ⟨_, rfl, ?_⟩
 exact ⟨congrArg (Value.int .i64) (by unfold argsN; (repeat' split) <;> omega), rfl⟩

theorem column_ret (C : List PItm) (K : List Int) (vc vk : Value) (tb nm : List UInt8) (w : World) (hz0 : C.length ≤ 9223372036854775807) (hz1 : K.length ≤ 9223372036854775807) (hC : RdC w 0 w.heap.size 3 vc C.length (C.flatMap cellsI)) (hK : RdC w 0 w.heap.size 1 vk K.length (K.map (Value.int .i64))) : Ret Try.prog 66 #[vc, vk, (.string (bs tb)), (.string (bs nm))] w (fun v' w' => Below w.heap.size w w' ∧ v' = .tuple #[.int .i64 (colAt C K tb nm).1, .int .i64 (colAt C K tb nm).2]) := by
 have hb := Below.refl w.heap.size w
 refine enter (N := 51) Try.func66 rfl rfl (by simp) fun a0 hN hd hA => ?_
 have s0 : a0.tmps.getD 0 undef = vc := hA 0 (by simp)
 have s1 : a0.tmps.getD 1 undef = vk := hA 1 (by simp)
 have s2 : a0.tmps.getD 2 undef = (.string (bs tb)) := hA 2 (by simp)
 have s3 : a0.tmps.getD 3 undef = (.string (bs nm)) := hA 3 (by simp)
 clear hA
 refine zF fun K15 hK15 => ?_
 refine zH ?_
 refine zD rfl ?_
 refine zD rfl ?_
 refine zB ?_
 refine hK15 _ _ (zF fun K16 hK16 => ?_)
 refine zH ?_
 refine zD rfl ?_
 refine zD rfl ?_
 refine zB ?_
 refine hK16 _ _ (zF fun K17 hK17 => ?_)
 refine zF fun K18 hK18 => ?_
 refine zH ?_
 refine zG (zC hN rfl s0) ?_
 refine op_len_rd Try.underlying22 (zA hN rfl) hC ?_
 refine zG (zC hN rfl s1) ?_
 refine op_len_rd Try.underlying23 (zA hN rfl) hK ?_
 refine op_min (r := ((min C.length K.length : Nat) : Int)) (zA hN rfl) (zA hN rfl) zx ?_
 refine zG rfl ?_
 refine zB ?_
 refine hK18 _ _ (wp_block ?_)
 refine loop_m (fun mz_ az_ w' => ∃ (i : Nat), mz_ = min C.length K.length - i ∧ (az_.tmps.getD 0 undef = vc) ∧ (az_.tmps.getD 1 undef = vk) ∧ (az_.tmps.getD 2 undef = (.string (bs tb))) ∧ (az_.tmps.getD 3 undef = (.string (bs nm))) ∧ (az_.tmps.getD 8 undef = (.int .i64 0)) ∧ (az_.tmps.getD 9 undef = (.int .i64 0)) ∧ (az_.tmps.getD 17 undef = (.int .i64 ((min C.length K.length : Nat) : Int))) ∧ (az_.tmps.getD 10 undef = (.int .i64 ((hits (C.take i) (K.take i) tb nm).getLastD 0))) ∧ (az_.tmps.getD 11 undef = (.int .i64 (((hits (C.take i) (K.take i) tb nm).length : Nat) : Int))) ∧ (az_.tmps.getD 18 undef = (.int .i64 ((i : Nat) : Int))) ∧ (i ≤ min C.length K.length) ∧ w = w') _ hN hd ⟨0, rfl, (zL hN rfl s0), (zL hN rfl s1), (zL hN rfl s2), (zL hN rfl s3), (zU hN rfl), (zU hN rfl), (zU hN rfl), (zU hN rfl), (zU hN rfl), (zU hN rfl), Nat.zero_le _, rfl⟩ ?_
 rintro _ a19 _ hN19 hd19 ⟨i, rfl, s19_0, s19_1, s19_2, s19_3, s19_8, s19_9, s19_17, s19_10, s19_11, s19_18, hi, rfl⟩
 refine zF fun K20 hK20 => ?_
 refine zH ?_
 refine op_lss (zC hN19 rfl s19_18) (zC hN19 rfl s19_17) (fun c19 => ?_) (fun c19 => ?_)
 ·
  refine zB ?_
  refine hK20 _ _ (zF fun K21 hK21 => ?_)
  refine wp_cond_true (zA hN19 rfl) (wp_skip (hK21 _ _ (zF fun K22 hK22 => ?_)))
  refine wp_block ?_
  refine zF fun K23 hK23 => ?_
  refine zH ?_
  refine zG (zC hN19 rfl s19_18) ?_
  refine zD (zA hN19 rfl) ?_
  refine zB ?_
  refine hK23 _ _ (zF fun K24 hK24 => ?_)
  refine zH ?_
  refine zG (zC hN19 rfl s19_0) ?_
  refine zG (zA hN19 rfl) ?_
  refine zh slt22 (zA hN19 rfl) hC (zA hN19 rfl) zx zx ?_
  intro b25 o26 h0b25 h1b25 hc27
  refine zM fld63_2 (zA hN19 rfl) ?_
  refine zN (v := (Value.string (bs (C.getD i default).nm))) one9 (zA hN19 rfl) (hc27 2 ((.string (bs (C.getD i default).nm))) zz ((el_pi (i := i) zx zx) 2 ((.string (bs (C.getD i default).nm))) rfl)) ?_
  refine zG (zC hN19 rfl s19_3) ?_
  refine op_seql (zA hN19 rfl) (zA hN19 rfl) (fun c27 => ?_) (fun c27 => ?_)
  ·
   refine zG (zA hN19 rfl) ?_
   refine zS (j := 7) (dj := 28) (b := true) rfl rfl rfl (zA hN19 rfl) ?_
   refine zG (zC hN19 rfl s19_2) ?_
   refine zS (j := 7) (dj := 28) (b := true) rfl rfl rfl (zA hN19 rfl) ?_
   refine op_seql (zA hN19 rfl) rfl (fun c30 => ?_) (fun c30 => ?_)
   ·
    refine zS (j := 7) (dj := 28) (b := true) rfl rfl rfl (zA hN19 rfl) ?_
    refine zG (zA hN19 rfl) ?_
    refine zR (j := 10) (dj := 31) (b := false) rfl rfl rfl (zA hN19 rfl) rfl rfl ?_
    refine zR (j := 10) (dj := 31) (b := false) rfl rfl rfl (zA hN19 rfl) rfl rfl ?_
    refine zR (j := 10) (dj := 31) (b := false) rfl rfl rfl (zA hN19 rfl) rfl rfl ?_
    refine zR (j := 10) (dj := 31) (b := false) rfl rfl rfl (zA hN19 rfl) rfl rfl ?_
    refine zR (j := 10) (dj := 31) (b := false) rfl rfl rfl (zA hN19 rfl) rfl rfl ?_
    refine zR (j := 10) (dj := 31) (b := false) rfl rfl rfl (zA hN19 rfl) rfl rfl ?_
    refine zR (j := 10) (dj := 31) (b := false) rfl rfl rfl (zA hN19 rfl) rfl rfl ?_
    refine zS (j := 7) (dj := 28) (b := true) rfl rfl rfl (zA hN19 rfl) ?_
    refine zc (zA hN19 rfl) rfl ?_
    refine zc (zA hN19 rfl) (zA hN19 rfl) ?_
    refine zB ?_
    refine hK24 _ _ (wp_cond_true (zA hN19 rfl) (zF fun K28 hK28 => ?_))
    refine zH ?_
    refine zG (zC hN19 rfl s19_1) ?_
    refine zG (zA hN19 rfl) ?_
    refine zh slt23 (zA hN19 rfl) hK (zA hN19 rfl) zx zx ?_
    intro b29 o30 h0b29 h1b29 hc31
    refine zN (v := (Value.int .i64 (K.getD i 0))) one3 (zA hN19 rfl) (by have := hc31 0 (.int .i64 (K.getD i 0)) zz (el_i64 (i := i) zx zx); simpa using this) ?_
    refine zD (zA hN19 rfl) ?_
    refine zB ?_
    refine hK28 _ _ (zH ?_)
    have hle := @hits_le (C.take i) (K.take i) tb nm
    rw [List.length_take] at hle
    refine zG (zC hN19 rfl s19_11) ?_
    refine op_add (zA hN19 rfl) rfl (add64 zx) ?_
    refine zD (zA hN19 rfl) ?_
    refine zB ?_
    refine hK22 _ _ (zH ?_)
    refine op_add (zC hN19 rfl s19_18) rfl (add64 zx) ?_
    refine zG (zA hN19 rfl) ?_
    refine zB ?_
    -- round 19T 27T 30T
    exact zg _ hN19 hd19 ⟨(i + 1), rfl, (zL hN19 rfl s19_0), (zL hN19 rfl s19_1), (zL hN19 rfl s19_2), (zL hN19 rfl s19_3), (zL hN19 rfl s19_8), (zL hN19 rfl s19_9), (zL hN19 rfl s19_17), (zU hN19 rfl).trans (congrArg (Value.int .i64) (by rw [hits_t zx zx (isCol_t c27 (.inl c30))]; simp)), (zU hN19 rfl).trans (congrArg (Value.int .i64) (by rw [hits_t zx zx (isCol_t c27 (.inl c30))]; simp)), (zU hN19 rfl).trans (congrArg (Value.int .i64) zx), zx, rfl⟩ zx
   refine zS (j := 7) (dj := 28) (b := true) rfl rfl rfl (zA hN19 rfl) ?_
   refine zG (zA hN19 rfl) ?_
   refine zS (j := 10) (dj := 31) (b := false) rfl rfl rfl (zA hN19 rfl) ?_
   refine zG (zC hN19 rfl s19_0) ?_
   refine zS (j := 10) (dj := 31) (b := false) rfl rfl rfl (zA hN19 rfl) ?_
   refine zG (zA hN19 rfl) ?_
   refine zS (j := 10) (dj := 31) (b := false) rfl rfl rfl (zA hN19 rfl) ?_
   refine zh slt22 (zA hN19 rfl) hC (zA hN19 rfl) zx zx ?_
   intro b32 o33 h0b32 h1b32 hc34
   refine zS (j := 10) (dj := 31) (b := false) rfl rfl rfl (zA hN19 rfl) ?_
   refine zM fld63_1 (zA hN19 rfl) ?_
   refine zS (j := 10) (dj := 31) (b := false) rfl rfl rfl (zA hN19 rfl) ?_
   refine zN (v := (Value.string (bs (C.getD i default).tb))) one9 (zA hN19 rfl) (hc34 1 ((.string (bs (C.getD i default).tb))) zz ((el_pi (i := i) zx zx) 1 ((.string (bs (C.getD i default).tb))) rfl)) ?_
   refine zS (j := 10) (dj := 31) (b := false) rfl rfl rfl (zA hN19 rfl) ?_
   refine zG (zC hN19 rfl s19_2) ?_
   refine zS (j := 10) (dj := 31) (b := false) rfl rfl rfl (zA hN19 rfl) ?_
   refine op_seql (zA hN19 rfl) (zA hN19 rfl) (fun c38 => ?_) (fun c38 => ?_)
   ·
    refine zS (j := 7) (dj := 28) (b := true) rfl rfl rfl (zA hN19 rfl) ?_
    refine zd (zA hN19 rfl) (zA hN19 rfl) ?_
    refine zc (zA hN19 rfl) (zA hN19 rfl) ?_
    refine zB ?_
    refine hK24 _ _ (wp_cond_true (zA hN19 rfl) (zF fun K35 hK35 => ?_))
    refine zH ?_
    refine zG (zC hN19 rfl s19_1) ?_
    refine zG (zA hN19 rfl) ?_
    refine zh slt23 (zA hN19 rfl) hK (zA hN19 rfl) zx zx ?_
    intro b36 o37 h0b36 h1b36 hc38
    refine zN (v := (Value.int .i64 (K.getD i 0))) one3 (zA hN19 rfl) (by have := hc38 0 (.int .i64 (K.getD i 0)) zz (el_i64 (i := i) zx zx); simpa using this) ?_
    refine zD (zA hN19 rfl) ?_
    refine zB ?_
    refine hK35 _ _ (zH ?_)
    have hle := @hits_le (C.take i) (K.take i) tb nm
    rw [List.length_take] at hle
    refine zG (zC hN19 rfl s19_11) ?_
    refine op_add (zA hN19 rfl) rfl (add64 zx) ?_
    refine zD (zA hN19 rfl) ?_
    refine zB ?_
    refine hK22 _ _ (zH ?_)
    refine op_add (zC hN19 rfl s19_18) rfl (add64 zx) ?_
    refine zG (zA hN19 rfl) ?_
    refine zB ?_
    -- round 19T 27T 30F 38T
    exact zg _ hN19 hd19 ⟨(i + 1), rfl, (zL hN19 rfl s19_0), (zL hN19 rfl s19_1), (zL hN19 rfl s19_2), (zL hN19 rfl s19_3), (zL hN19 rfl s19_8), (zL hN19 rfl s19_9), (zL hN19 rfl s19_17), (zU hN19 rfl).trans (congrArg (Value.int .i64) (by rw [hits_t zx zx (isCol_t c27 (.inr c38))]; simp)), (zU hN19 rfl).trans (congrArg (Value.int .i64) (by rw [hits_t zx zx (isCol_t c27 (.inr c38))]; simp)), (zU hN19 rfl).trans (congrArg (Value.int .i64) zx), zx, rfl⟩ zx
   refine zS (j := 7) (dj := 28) (b := true) rfl rfl rfl (zA hN19 rfl) ?_
   refine zd (zA hN19 rfl) (zA hN19 rfl) ?_
   refine zc (zA hN19 rfl) (zA hN19 rfl) ?_
   refine zB ?_
   refine hK24 _ _ (wp_cond_false (zA hN19 rfl) (wp_skip (hK22 _ _ (zH ?_))))
   refine op_add (zC hN19 rfl s19_18) rfl (add64 zx) ?_
   refine zG (zA hN19 rfl) ?_
   refine zB ?_
   -- round 19T 27T 30F 38F
   exact zg _ hN19 hd19 ⟨(i + 1), rfl, (zL hN19 rfl s19_0), (zL hN19 rfl s19_1), (zL hN19 rfl s19_2), (zL hN19 rfl s19_3), (zL hN19 rfl s19_8), (zL hN19 rfl s19_9), (zL hN19 rfl s19_17), (zL hN19 rfl s19_10).trans (congrArg (Value.int .i64) (by rw [hits_f zx zx (isCol_f2 c30 c38)])), (zL hN19 rfl s19_11).trans (congrArg (Value.int .i64) (by rw [hits_f zx zx (isCol_f2 c30 c38)])), (zU hN19 rfl).trans (congrArg (Value.int .i64) zx), zx, rfl⟩ zx
  refine zG (zA hN19 rfl) ?_
  refine zR (j := 7) (dj := 28) (b := true) rfl rfl rfl (zA hN19 rfl) rfl rfl ?_
  refine zR (j := 7) (dj := 28) (b := true) rfl rfl rfl (zA hN19 rfl) rfl rfl ?_
  refine zR (j := 7) (dj := 28) (b := true) rfl rfl rfl (zA hN19 rfl) rfl rfl ?_
  refine g_undef (j := 10) (dj := 31) (b := false) rfl rfl rfl (zA hN19 rfl) rfl ?_
  refine g_undef (j := 10) (dj := 31) (b := false) rfl rfl rfl (zA hN19 rfl) rfl ?_
  refine g_undef (j := 10) (dj := 31) (b := false) rfl rfl rfl (zA hN19 rfl) rfl ?_
  refine g_undef (j := 10) (dj := 31) (b := false) rfl rfl rfl (zA hN19 rfl) rfl ?_
  refine g_undef (j := 10) (dj := 31) (b := false) rfl rfl rfl (zA hN19 rfl) rfl ?_
  refine g_undef (j := 10) (dj := 31) (b := false) rfl rfl rfl (zA hN19 rfl) rfl ?_
  refine g_undef (j := 10) (dj := 31) (b := false) rfl rfl rfl (zA hN19 rfl) rfl ?_
  refine zR (j := 7) (dj := 28) (b := true) rfl rfl rfl (zA hN19 rfl) rfl rfl ?_
  refine zd (zA hN19 rfl) rfl ?_
  refine zB ?_
  refine hK24 _ _ (wp_cond_false (zA hN19 rfl) (wp_skip (hK22 _ _ (zH ?_))))
  refine op_add (zC hN19 rfl s19_18) rfl (add64 zx) ?_
  refine zG (zA hN19 rfl) ?_
  refine zB ?_
  -- round 19T 27F
  exact zg _ hN19 hd19 ⟨(i + 1), rfl, (zL hN19 rfl s19_0), (zL hN19 rfl s19_1), (zL hN19 rfl s19_2), (zL hN19 rfl s19_3), (zL hN19 rfl s19_8), (zL hN19 rfl s19_9), (zL hN19 rfl s19_17), (zL hN19 rfl s19_10).trans (congrArg (Value.int .i64) (by rw [hits_f zx zx (isCol_f1 c27)])), (zL hN19 rfl s19_11).trans (congrArg (Value.int .i64) (by rw [hits_f zx zx (isCol_f1 c27)])), (zU hN19 rfl).trans (congrArg (Value.int .i64) zx), zx, rfl⟩ zx
 refine zB ?_
 refine hK20 _ _ (zF fun K39 hK39 => ?_)
 refine wp_cond_false (zA hN19 rfl) (wp_exit (then_exit (then_exit (blk_hit ?_))))
 refine hK17 _ _ (zF fun K40 hK40 => ?_)
 refine zF fun K41 hK41 => ?_
 refine zH ?_
 refine zG (zC hN19 rfl s19_11) ?_
 refine op_neq (zA hN19 rfl) rfl (fun c49 => ?_) (fun c49 => ?_)
 ·
  refine zB ?_
  refine hK41 _ _ (wp_cond_true (zA hN19 rfl) (zF fun K42 hK42 => ?_))
  refine zH ?_
  refine zD rfl ?_
  refine zD rfl ?_
  refine zB ?_
  refine hK42 _ _ (wp_ret (zO ( ?_)))
  refine ret2 rfl hd19 (zA hN19 rfl) (zA hN19 rfl) ⟨_, rfl, ?_⟩
  have e9 : colAt C K tb nm = (0, 10) := by rw [hits_all (i := i) zx] at c49; unfold colAt colOf; rw [if_neg zx]
  rw [e9]; exact ⟨hb, rfl⟩
 refine zB ?_
 refine hK41 _ _ (wp_cond_false (zA hN19 rfl) (wp_skip (hK40 _ _ (zF fun K43 hK43 => ?_))))
 refine zH ?_
 refine zG (zC hN19 rfl s19_10) ?_
 refine zD (zA hN19 rfl) ?_
 refine zD rfl ?_
 refine zB ?_
 refine hK43 _ _ (wp_ret ?_)
 refine ret2 rfl hd19 (zA hN19 rfl) (zA hN19 rfl) ⟨_, rfl, ?_⟩
 have e9 : colAt C K tb nm = ((hits (C.take i) (K.take i) tb nm).getLastD 0, 0) := by rw [hits_all (i := i) zx] at c49; unfold colAt colOf; rw [if_pos zx]; rw [hits_all (i := i) zx]
 rw [e9]; exact ⟨hb, rfl⟩

theorem of_ret (C : List PItm) (K : List Int) (vc vk : Value) (e : XE) (l : List Int) (vl : Value) (w : World) (hz0 : C.length ≤ 9223372036854775807) (hz1 : K.length ≤ 9223372036854775807) (hl : (l.length : Int) = argsN e.op) (hC : RdC w 0 w.heap.size 3 vc C.length (C.flatMap cellsI)) (hK : RdC w 0 w.heap.size 1 vk K.length (K.map (Value.int .i64))) (hL : RdC w 0 w.heap.size 1 vl l.length (l.map (Value.int .i64))) : Ret Try.prog 33 #[vc, vk, (.agg #[(.int .i64 e.op), (.int .i64 e.vk), (.int .i64 e.vi), (.string (bs e.vt)), (.string (bs e.tb)), (.string (bs e.nm)), e.av]), vl] w (fun v' w' => Below w.heap.size w w' ∧ v' = .tuple #[.int .i64 (ofX C K e.op e.vk e.tb e.nm l).1, .int .i64 (ofX C K e.op e.vk e.tb e.nm l).2]) := by
 have hz2 : l.length ≤ 2 := by have h9 := hl; unfold argsN at h9; (repeat' split at h9) <;> omega
 have hb := Below.refl w.heap.size w
 refine enter (N := 63) Try.func33 rfl rfl (by simp) fun a0 hN hd hA => ?_
 have s0 : a0.tmps.getD 0 undef = vc := hA 0 (by simp)
 have s1 : a0.tmps.getD 1 undef = vk := hA 1 (by simp)
 have s2 : a0.tmps.getD 2 undef = (.agg #[(.int .i64 e.op), (.int .i64 e.vk), (.int .i64 e.vi), (.string (bs e.vt)), (.string (bs e.tb)), (.string (bs e.nm)), e.av]) := hA 2 (by simp)
 have s3 : a0.tmps.getD 3 undef = vl := hA 3 (by simp)
 clear hA
 refine zF fun K1 hK1 => ?_
 refine zH ?_
 refine op_box (cs := [(.int .i64 e.op), (.int .i64 e.vk), (.int .i64 e.vi), (.string (bs e.vt)), (.string (bs e.tb)), (.string (bs e.nm)), e.av]) (zC hN rfl s2) rfl ?_
 intro w2 b3 lo_b3 hi_b3 hB5 E4
 have := E4.size
 have hC := hC.keep0 E4
 have hK := hK.keep0 E4
 have hL := hL.keep0 E4
 have hb := zP hb E4 hb.size
 refine zD rfl ?_
 refine zD rfl ?_
 refine zB ?_
 refine hK1 _ _ (zF fun K6 hK6 => ?_)
 refine zH ?_
 refine zD rfl ?_
 refine zD rfl ?_
 refine zB ?_
 refine hK6 _ _ (seq_join1 (N := 63) (fun az_ w' => ∃ (mu co : Int), (az_.tmps.getD 3 undef = vl) ∧ (az_.tmps.getD 10 undef = (.int .i64 mu)) ∧ (az_.tmps.getD 11 undef = (.int .i64 co)) ∧ (e.op ≠ 1 ∧ e.op ≠ 2 ∧ ¬ (8 ≤ e.op ∧ e.op ≤ 13 ∧ l.getD 0 0 ≠ 1 ∧ l.getD 0 0 ≠ 2)) ∧ (mu = takesX e.op l) ∧ (co = givesX e.op) ∧ (Below w.heap.size w w') ∧ (w2.heap.size ≤ w'.heap.size) ∧ (RdC w' 0 w.heap.size 3 vc C.length (C.flatMap cellsI)) ∧ (RdC w' 0 w.heap.size 1 vk K.length (K.map (Value.int .i64))) ∧ (RdC w' 0 w.heap.size 1 vl l.length (l.map (Value.int .i64))) ∧ (Bx w' b3 28 [(.int .i64 e.op), (.int .i64 e.vk), (.int .i64 e.vi), (.string (bs e.vt)), (.string (bs e.tb)), (.string (bs e.nm)), e.av])) (fun hJ7 => ?_) ?_)
 ·
  refine zF fun K8 hK8 => ?_
  refine zF fun K9 hK9 => ?_
  refine zH ?_
  refine zM fld28_0 (zA hN rfl) ?_
  refine zN (v := (Value.int .i64 e.op)) one3 (zA hN rfl) (hB5.cell rfl) ?_
  refine zB ?_
  refine hK9 _ _ (wp_block ?_)
  refine zF fun K10 hK10 => ?_
  refine zH ?_
  refine op_eql (zA hN rfl) rfl (fun c17 => ?_) (fun c17 => ?_)
  ·
   refine zD (zA hN rfl) ?_
   refine zB ?_
   refine hK10 _ _ (wp_cond_true (zA hN rfl) (zF fun K11 hK11 => ?_))
   refine zH ?_
   refine zM fld28_1 (zA hN rfl) ?_
   refine zM fld25_0 (zA hN rfl) ?_
   refine zN (v := (Value.int .i64 e.vk)) one3 (zA hN rfl) (hB5.cell rfl) ?_
   refine zD (zA hN rfl) ?_
   refine zD rfl ?_
   refine zB ?_
   refine hK11 _ _ (wp_ret (zb (zO ( ?_))))
   refine ret2 rfl hd (zA hN rfl) (zA hN rfl) ⟨_, rfl, ?_⟩
   have e9 : ofX C K e.op e.vk e.tb e.nm l = (e.vk, 0) := by unfold ofX; rw [if_pos c17]
   rw [e9]; exact ⟨hb, rfl⟩
  refine zD (zA hN rfl) ?_
  refine zB ?_
  refine hK10 _ _ (wp_cond_false (zA hN rfl) (zF fun K12 hK12 => ?_))
  refine zH ?_
  refine op_eql (zA hN rfl) rfl (fun c22 => ?_) (fun c22 => ?_)
  ·
   refine zD (zA hN rfl) ?_
   refine zB ?_
   refine hK12 _ _ (wp_cond_true (zA hN rfl) (zF fun K13 hK13 => ?_))
   refine zH ?_
   refine zG (zC hN rfl s0) ?_
   refine zG (zC hN rfl s1) ?_
   refine zM fld28_2 (zA hN rfl) ?_
   refine zN (v := (Value.string (bs e.tb))) one9 (zA hN rfl) (hB5.cell rfl) ?_
   refine zM fld28_3 (zA hN rfl) ?_
   refine zN (v := (Value.string (bs e.nm))) one9 (zA hN rfl) (hB5.cell rfl) ?_
   refine zj ok66 (column_ret C K _ _ e.tb e.nm _ (by first | assumption | omega | (simp only [List.length_append, List.length_cons, List.length_nil, List.length_drop, List.length_take]; omega) | (dsimp only; omega) | decide | (simp [keyV, be8_len]; done)) (by first | assumption | omega | (simp only [List.length_append, List.length_cons, List.length_nil, List.length_drop, List.length_take]; omega) | (dsimp only; omega) | decide | (simp [keyV, be8_len]; done)) (hC.mono (Nat.zero_le _) zx) (hK.mono (Nat.zero_le _) zx)) ⟨(zA hN rfl), ⟨(zA hN rfl), ⟨(zA hN rfl), ⟨(zA hN rfl), trivial⟩⟩⟩⟩ ?_
   rintro _ w14 ⟨E15, rfl⟩
   have E15 := zQ E15
   have := E15.size
   have hb := zP hb E15 hb.size
   refine zW (zA hN rfl) rfl ?_
   refine zW (zA hN rfl) rfl ?_
   refine zD (zA hN rfl) ?_
   refine zD (zA hN rfl) ?_
   refine zB ?_
   refine hK13 _ _ (wp_ret (zb (zO ( ?_))))
   refine ret2 rfl hd (zA hN rfl) (zA hN rfl) ⟨_, rfl, ?_⟩
   have e9 : ofX C K e.op e.vk e.tb e.nm l = colAt C K e.tb e.nm := by unfold ofX; rw [if_neg c17, if_pos c22]
   rw [e9]; exact ⟨hb, rfl⟩
  refine zD (zA hN rfl) ?_
  refine zB ?_
  refine hK12 _ _ (wp_cond_false (zA hN rfl) (zF fun K16 hK16 => ?_))
  refine zF fun K17 hK17 => ?_
  refine zH ?_
  refine op_eql (zA hN rfl) rfl (fun c33 => ?_) (fun c33 => ?_)
  ·
   refine zD (zA hN rfl) ?_
   refine zB ?_
   refine hK17 _ _ (wp_cond_true (zA hN rfl) (wp_skip (hK16 _ _ (wp_cond_true (zA hN rfl) (zH ?_)))))
   refine zD rfl ?_
   refine zD rfl ?_
   refine zB ?_
   refine hK8 _ _ ?_
   exact hJ7 _ _ _ hN hd ⟨3, 3, (zL hN rfl s3), (zU hN rfl), (zU hN rfl), zx, (by unfold takesX; (repeat' split) <;> first | rfl | omega), (by unfold givesX; (repeat' split) <;> first | rfl | omega), hb, zx, hC, hK, hL, hB5⟩
  refine zD (zA hN rfl) ?_
  refine zB ?_
  refine hK17 _ _ (wp_cond_false (zA hN rfl) (zF fun K18 hK18 => ?_))
  refine zH ?_
  refine op_eql (zA hN rfl) rfl (fun c34 => ?_) (fun c34 => ?_)
  ·
   refine zD (zA hN rfl) ?_
   refine zB ?_
   refine hK18 _ _ (wp_cond_true (zA hN rfl) (wp_skip (hK16 _ _ (wp_cond_true (zA hN rfl) (zH ?_)))))
   refine zD rfl ?_
   refine zD rfl ?_
   refine zB ?_
   refine hK8 _ _ ?_
   exact hJ7 _ _ _ hN hd ⟨3, 3, (zL hN rfl s3), (zU hN rfl), (zU hN rfl), zx, (by unfold takesX; (repeat' split) <;> first | rfl | omega), (by unfold givesX; (repeat' split) <;> first | rfl | omega), hb, zx, hC, hK, hL, hB5⟩
  refine zD (zA hN rfl) ?_
  refine zB ?_
  refine hK18 _ _ (wp_cond_false (zA hN rfl) (zH ?_))
  refine op_eql (zA hN rfl) rfl (fun c35 => ?_) (fun c35 => ?_)
  ·
   refine zD (zA hN rfl) ?_
   refine zB ?_
   refine hK16 _ _ (wp_cond_true (zA hN rfl) (zH ?_))
   refine zD rfl ?_
   refine zD rfl ?_
   refine zB ?_
   refine hK8 _ _ ?_
   exact hJ7 _ _ _ hN hd ⟨3, 3, (zL hN rfl s3), (zU hN rfl), (zU hN rfl), zx, (by unfold takesX; (repeat' split) <;> first | rfl | omega), (by unfold givesX; (repeat' split) <;> first | rfl | omega), hb, zx, hC, hK, hL, hB5⟩
  refine zD (zA hN rfl) ?_
  refine zB ?_
  refine hK16 _ _ (wp_cond_false (zA hN rfl) (zF fun K19 hK19 => ?_))
  refine zF fun K20 hK20 => ?_
  refine zH ?_
  refine op_eql (zA hN rfl) rfl (fun c37 => ?_) (fun c37 => ?_)
  ·
   refine zD (zA hN rfl) ?_
   refine zB ?_
   refine hK20 _ _ (wp_cond_true (zA hN rfl) (wp_skip (hK19 _ _ (wp_cond_true (zA hN rfl) (zF fun K21 hK21 => ?_)))))
   refine zH ?_
   refine zG (zC hN rfl s3) ?_
   have hl0 : 0 < l.length := by rw [argsN_two zx] at hl; omega
   refine zh slt23 (zA hN rfl) hL rfl zx zx ?_
   intro b22 o23 h0b22 h1b22 hc24
   refine zN (v := (Value.int .i64 (l.getD 0 0))) one3 (zA hN rfl) (by have := hc24 0 (.int .i64 (l.getD 0 0)) zz (el_i64 (i := 0) zx zx); simpa using this) ?_
   refine zD (zA hN rfl) ?_
   refine zD rfl ?_
   refine zB ?_
   refine hK21 _ _ (zF fun K25 hK25 => ?_)
   refine zH ?_
   refine zG (zA hN rfl) ?_
   refine op_neq (zA hN rfl) rfl (fun c47 => ?_) (fun c47 => ?_)
   ·
    refine zG (zA hN rfl) ?_
    refine zS (j := 2) (dj := 48) (b := true) rfl rfl rfl (zA hN rfl) ?_
    refine zG (zA hN rfl) ?_
    refine zS (j := 2) (dj := 48) (b := true) rfl rfl rfl (zA hN rfl) ?_
    refine op_neq (zA hN rfl) rfl (fun c50 => ?_) (fun c50 => ?_)
    ·
     refine zc (zA hN rfl) (zA hN rfl) ?_
     refine zB ?_
     refine hK25 _ _ (wp_cond_true (zA hN rfl) (zF fun K26 hK26 => ?_))
     refine zH ?_
     refine zD rfl ?_
     refine zD rfl ?_
     refine zB ?_
     refine hK26 _ _ (wp_ret (zb (zO ( ?_))))
     refine ret2 rfl hd (zA hN rfl) (zA hN rfl) ⟨_, rfl, ?_⟩
     have e9 : ofX C K e.op e.vk e.tb e.nm l = (0, 11) := by exact ofX_bad zx
     rw [e9]; exact ⟨hb, rfl⟩
    refine zc (zA hN rfl) (zA hN rfl) ?_
    refine zB ?_
    refine hK25 _ _ (wp_cond_false (zA hN rfl) (wp_skip (hK8 _ _ ?_)))
    exact hJ7 _ _ _ hN hd ⟨(l.getD 0 0), 3, (zL hN rfl s3), (zU hN rfl), (zU hN rfl), zx, (by unfold takesX; (repeat' split) <;> first | rfl | omega), (by unfold givesX; (repeat' split) <;> first | rfl | omega), hb, zx, hC, hK, hL, hB5⟩
   refine zG (zA hN rfl) ?_
   refine zR (j := 2) (dj := 48) (b := true) rfl rfl rfl (zA hN rfl) rfl rfl ?_
   refine zR (j := 2) (dj := 48) (b := true) rfl rfl rfl (zA hN rfl) rfl rfl ?_
   refine zd (zA hN rfl) rfl ?_
   refine zB ?_
   refine hK25 _ _ (wp_cond_false (zA hN rfl) (wp_skip (hK8 _ _ ?_)))
   exact hJ7 _ _ _ hN hd ⟨(l.getD 0 0), 3, (zL hN rfl s3), (zU hN rfl), (zU hN rfl), zx, (by unfold takesX; (repeat' split) <;> first | rfl | omega), (by unfold givesX; (repeat' split) <;> first | rfl | omega), hb, zx, hC, hK, hL, hB5⟩
  refine zD (zA hN rfl) ?_
  refine zB ?_
  refine hK20 _ _ (wp_cond_false (zA hN rfl) (zF fun K27 hK27 => ?_))
  refine zH ?_
  refine op_eql (zA hN rfl) rfl (fun c38 => ?_) (fun c38 => ?_)
  ·
   refine zD (zA hN rfl) ?_
   refine zB ?_
   refine hK27 _ _ (wp_cond_true (zA hN rfl) (wp_skip (hK19 _ _ (wp_cond_true (zA hN rfl) (zF fun K28 hK28 => ?_)))))
   refine zH ?_
   refine zG (zC hN rfl s3) ?_
   have hl0 : 0 < l.length := by rw [argsN_two zx] at hl; omega
   refine zh slt23 (zA hN rfl) hL rfl zx zx ?_
   intro b29 o30 h0b29 h1b29 hc31
   refine zN (v := (Value.int .i64 (l.getD 0 0))) one3 (zA hN rfl) (by have := hc31 0 (.int .i64 (l.getD 0 0)) zz (el_i64 (i := 0) zx zx); simpa using this) ?_
   refine zD (zA hN rfl) ?_
   refine zD rfl ?_
   refine zB ?_
   refine hK28 _ _ (zF fun K32 hK32 => ?_)
   refine zH ?_
   refine zG (zA hN rfl) ?_
   refine op_neq (zA hN rfl) rfl (fun c47 => ?_) (fun c47 => ?_)
   ·
    refine zG (zA hN rfl) ?_
    refine zS (j := 2) (dj := 48) (b := true) rfl rfl rfl (zA hN rfl) ?_
    refine zG (zA hN rfl) ?_
    refine zS (j := 2) (dj := 48) (b := true) rfl rfl rfl (zA hN rfl) ?_
    refine op_neq (zA hN rfl) rfl (fun c50 => ?_) (fun c50 => ?_)
    ·
     refine zc (zA hN rfl) (zA hN rfl) ?_
     refine zB ?_
     refine hK32 _ _ (wp_cond_true (zA hN rfl) (zF fun K33 hK33 => ?_))
     refine zH ?_
     refine zD rfl ?_
     refine zD rfl ?_
     refine zB ?_
     refine hK33 _ _ (wp_ret (zb (zO ( ?_))))
     refine ret2 rfl hd (zA hN rfl) (zA hN rfl) ⟨_, rfl, ?_⟩
     have e9 : ofX C K e.op e.vk e.tb e.nm l = (0, 11) := by exact ofX_bad zx
     rw [e9]; exact ⟨hb, rfl⟩
    refine zc (zA hN rfl) (zA hN rfl) ?_
    refine zB ?_
    refine hK32 _ _ (wp_cond_false (zA hN rfl) (wp_skip (hK8 _ _ ?_)))
    exact hJ7 _ _ _ hN hd ⟨(l.getD 0 0), 3, (zL hN rfl s3), (zU hN rfl), (zU hN rfl), zx, (by unfold takesX; (repeat' split) <;> first | rfl | omega), (by unfold givesX; (repeat' split) <;> first | rfl | omega), hb, zx, hC, hK, hL, hB5⟩
   refine zG (zA hN rfl) ?_
   refine zR (j := 2) (dj := 48) (b := true) rfl rfl rfl (zA hN rfl) rfl rfl ?_
   refine zR (j := 2) (dj := 48) (b := true) rfl rfl rfl (zA hN rfl) rfl rfl ?_
   refine zd (zA hN rfl) rfl ?_
   refine zB ?_
   refine hK32 _ _ (wp_cond_false (zA hN rfl) (wp_skip (hK8 _ _ ?_)))
   exact hJ7 _ _ _ hN hd ⟨(l.getD 0 0), 3, (zL hN rfl s3), (zU hN rfl), (zU hN rfl), zx, (by unfold takesX; (repeat' split) <;> first | rfl | omega), (by unfold givesX; (repeat' split) <;> first | rfl | omega), hb, zx, hC, hK, hL, hB5⟩
  refine zD (zA hN rfl) ?_
  refine zB ?_
  refine hK27 _ _ (wp_cond_false (zA hN rfl) (zF fun K34 hK34 => ?_))
  refine zH ?_
  refine op_eql (zA hN rfl) rfl (fun c39 => ?_) (fun c39 => ?_)
  ·
   refine zD (zA hN rfl) ?_
   refine zB ?_
   refine hK34 _ _ (wp_cond_true (zA hN rfl) (wp_skip (hK19 _ _ (wp_cond_true (zA hN rfl) (zF fun K35 hK35 => ?_)))))
   refine zH ?_
   refine zG (zC hN rfl s3) ?_
   have hl0 : 0 < l.length := by rw [argsN_two zx] at hl; omega
   refine zh slt23 (zA hN rfl) hL rfl zx zx ?_
   intro b36 o37 h0b36 h1b36 hc38
   refine zN (v := (Value.int .i64 (l.getD 0 0))) one3 (zA hN rfl) (by have := hc38 0 (.int .i64 (l.getD 0 0)) zz (el_i64 (i := 0) zx zx); simpa using this) ?_
   refine zD (zA hN rfl) ?_
   refine zD rfl ?_
   refine zB ?_
   refine hK35 _ _ (zF fun K39 hK39 => ?_)
   refine zH ?_
   refine zG (zA hN rfl) ?_
   refine op_neq (zA hN rfl) rfl (fun c47 => ?_) (fun c47 => ?_)
   ·
    refine zG (zA hN rfl) ?_
    refine zS (j := 2) (dj := 48) (b := true) rfl rfl rfl (zA hN rfl) ?_
    refine zG (zA hN rfl) ?_
    refine zS (j := 2) (dj := 48) (b := true) rfl rfl rfl (zA hN rfl) ?_
    refine op_neq (zA hN rfl) rfl (fun c50 => ?_) (fun c50 => ?_)
    ·
     refine zc (zA hN rfl) (zA hN rfl) ?_
     refine zB ?_
     refine hK39 _ _ (wp_cond_true (zA hN rfl) (zF fun K40 hK40 => ?_))
     refine zH ?_
     refine zD rfl ?_
     refine zD rfl ?_
     refine zB ?_
     refine hK40 _ _ (wp_ret (zb (zO ( ?_))))
     refine ret2 rfl hd (zA hN rfl) (zA hN rfl) ⟨_, rfl, ?_⟩
     have e9 : ofX C K e.op e.vk e.tb e.nm l = (0, 11) := by exact ofX_bad zx
     rw [e9]; exact ⟨hb, rfl⟩
    refine zc (zA hN rfl) (zA hN rfl) ?_
    refine zB ?_
    refine hK39 _ _ (wp_cond_false (zA hN rfl) (wp_skip (hK8 _ _ ?_)))
    exact hJ7 _ _ _ hN hd ⟨(l.getD 0 0), 3, (zL hN rfl s3), (zU hN rfl), (zU hN rfl), zx, (by unfold takesX; (repeat' split) <;> first | rfl | omega), (by unfold givesX; (repeat' split) <;> first | rfl | omega), hb, zx, hC, hK, hL, hB5⟩
   refine zG (zA hN rfl) ?_
   refine zR (j := 2) (dj := 48) (b := true) rfl rfl rfl (zA hN rfl) rfl rfl ?_
   refine zR (j := 2) (dj := 48) (b := true) rfl rfl rfl (zA hN rfl) rfl rfl ?_
   refine zd (zA hN rfl) rfl ?_
   refine zB ?_
   refine hK39 _ _ (wp_cond_false (zA hN rfl) (wp_skip (hK8 _ _ ?_)))
   exact hJ7 _ _ _ hN hd ⟨(l.getD 0 0), 3, (zL hN rfl s3), (zU hN rfl), (zU hN rfl), zx, (by unfold takesX; (repeat' split) <;> first | rfl | omega), (by unfold givesX; (repeat' split) <;> first | rfl | omega), hb, zx, hC, hK, hL, hB5⟩
  refine zD (zA hN rfl) ?_
  refine zB ?_
  refine hK34 _ _ (wp_cond_false (zA hN rfl) (zF fun K41 hK41 => ?_))
  refine zH ?_
  refine op_eql (zA hN rfl) rfl (fun c40 => ?_) (fun c40 => ?_)
  ·
   refine zD (zA hN rfl) ?_
   refine zB ?_
   refine hK41 _ _ (wp_cond_true (zA hN rfl) (wp_skip (hK19 _ _ (wp_cond_true (zA hN rfl) (zF fun K42 hK42 => ?_)))))
   refine zH ?_
   refine zG (zC hN rfl s3) ?_
   have hl0 : 0 < l.length := by rw [argsN_two zx] at hl; omega
   refine zh slt23 (zA hN rfl) hL rfl zx zx ?_
   intro b43 o44 h0b43 h1b43 hc45
   refine zN (v := (Value.int .i64 (l.getD 0 0))) one3 (zA hN rfl) (by have := hc45 0 (.int .i64 (l.getD 0 0)) zz (el_i64 (i := 0) zx zx); simpa using this) ?_
   refine zD (zA hN rfl) ?_
   refine zD rfl ?_
   refine zB ?_
   refine hK42 _ _ (zF fun K46 hK46 => ?_)
   refine zH ?_
   refine zG (zA hN rfl) ?_
   refine op_neq (zA hN rfl) rfl (fun c47 => ?_) (fun c47 => ?_)
   ·
    refine zG (zA hN rfl) ?_
    refine zS (j := 2) (dj := 48) (b := true) rfl rfl rfl (zA hN rfl) ?_
    refine zG (zA hN rfl) ?_
    refine zS (j := 2) (dj := 48) (b := true) rfl rfl rfl (zA hN rfl) ?_
    refine op_neq (zA hN rfl) rfl (fun c50 => ?_) (fun c50 => ?_)
    ·
     refine zc (zA hN rfl) (zA hN rfl) ?_
     refine zB ?_
     refine hK46 _ _ (wp_cond_true (zA hN rfl) (zF fun K47 hK47 => ?_))
     refine zH ?_
     refine zD rfl ?_
     refine zD rfl ?_
     refine zB ?_
     refine hK47 _ _ (wp_ret (zb (zO ( ?_))))
     refine ret2 rfl hd (zA hN rfl) (zA hN rfl) ⟨_, rfl, ?_⟩
     have e9 : ofX C K e.op e.vk e.tb e.nm l = (0, 11) := by exact ofX_bad zx
     rw [e9]; exact ⟨hb, rfl⟩
    refine zc (zA hN rfl) (zA hN rfl) ?_
    refine zB ?_
    refine hK46 _ _ (wp_cond_false (zA hN rfl) (wp_skip (hK8 _ _ ?_)))
    exact hJ7 _ _ _ hN hd ⟨(l.getD 0 0), 3, (zL hN rfl s3), (zU hN rfl), (zU hN rfl), zx, (by unfold takesX; (repeat' split) <;> first | rfl | omega), (by unfold givesX; (repeat' split) <;> first | rfl | omega), hb, zx, hC, hK, hL, hB5⟩
   refine zG (zA hN rfl) ?_
   refine zR (j := 2) (dj := 48) (b := true) rfl rfl rfl (zA hN rfl) rfl rfl ?_
   refine zR (j := 2) (dj := 48) (b := true) rfl rfl rfl (zA hN rfl) rfl rfl ?_
   refine zd (zA hN rfl) rfl ?_
   refine zB ?_
   refine hK46 _ _ (wp_cond_false (zA hN rfl) (wp_skip (hK8 _ _ ?_)))
   exact hJ7 _ _ _ hN hd ⟨(l.getD 0 0), 3, (zL hN rfl s3), (zU hN rfl), (zU hN rfl), zx, (by unfold takesX; (repeat' split) <;> first | rfl | omega), (by unfold givesX; (repeat' split) <;> first | rfl | omega), hb, zx, hC, hK, hL, hB5⟩
  refine zD (zA hN rfl) ?_
  refine zB ?_
  refine hK41 _ _ (wp_cond_false (zA hN rfl) (zF fun K48 hK48 => ?_))
  refine zH ?_
  refine op_eql (zA hN rfl) rfl (fun c41 => ?_) (fun c41 => ?_)
  ·
   refine zD (zA hN rfl) ?_
   refine zB ?_
   refine hK48 _ _ (wp_cond_true (zA hN rfl) (wp_skip (hK19 _ _ (wp_cond_true (zA hN rfl) (zF fun K49 hK49 => ?_)))))
   refine zH ?_
   refine zG (zC hN rfl s3) ?_
   have hl0 : 0 < l.length := by rw [argsN_two zx] at hl; omega
   refine zh slt23 (zA hN rfl) hL rfl zx zx ?_
   intro b50 o51 h0b50 h1b50 hc52
   refine zN (v := (Value.int .i64 (l.getD 0 0))) one3 (zA hN rfl) (by have := hc52 0 (.int .i64 (l.getD 0 0)) zz (el_i64 (i := 0) zx zx); simpa using this) ?_
   refine zD (zA hN rfl) ?_
   refine zD rfl ?_
   refine zB ?_
   refine hK49 _ _ (zF fun K53 hK53 => ?_)
   refine zH ?_
   refine zG (zA hN rfl) ?_
   refine op_neq (zA hN rfl) rfl (fun c47 => ?_) (fun c47 => ?_)
   ·
    refine zG (zA hN rfl) ?_
    refine zS (j := 2) (dj := 48) (b := true) rfl rfl rfl (zA hN rfl) ?_
    refine zG (zA hN rfl) ?_
    refine zS (j := 2) (dj := 48) (b := true) rfl rfl rfl (zA hN rfl) ?_
    refine op_neq (zA hN rfl) rfl (fun c50 => ?_) (fun c50 => ?_)
    ·
     refine zc (zA hN rfl) (zA hN rfl) ?_
     refine zB ?_
     refine hK53 _ _ (wp_cond_true (zA hN rfl) (zF fun K54 hK54 => ?_))
     refine zH ?_
     refine zD rfl ?_
     refine zD rfl ?_
     refine zB ?_
     refine hK54 _ _ (wp_ret (zb (zO ( ?_))))
     refine ret2 rfl hd (zA hN rfl) (zA hN rfl) ⟨_, rfl, ?_⟩
     have e9 : ofX C K e.op e.vk e.tb e.nm l = (0, 11) := by exact ofX_bad zx
     rw [e9]; exact ⟨hb, rfl⟩
    refine zc (zA hN rfl) (zA hN rfl) ?_
    refine zB ?_
    refine hK53 _ _ (wp_cond_false (zA hN rfl) (wp_skip (hK8 _ _ ?_)))
    exact hJ7 _ _ _ hN hd ⟨(l.getD 0 0), 3, (zL hN rfl s3), (zU hN rfl), (zU hN rfl), zx, (by unfold takesX; (repeat' split) <;> first | rfl | omega), (by unfold givesX; (repeat' split) <;> first | rfl | omega), hb, zx, hC, hK, hL, hB5⟩
   refine zG (zA hN rfl) ?_
   refine zR (j := 2) (dj := 48) (b := true) rfl rfl rfl (zA hN rfl) rfl rfl ?_
   refine zR (j := 2) (dj := 48) (b := true) rfl rfl rfl (zA hN rfl) rfl rfl ?_
   refine zd (zA hN rfl) rfl ?_
   refine zB ?_
   refine hK53 _ _ (wp_cond_false (zA hN rfl) (wp_skip (hK8 _ _ ?_)))
   exact hJ7 _ _ _ hN hd ⟨(l.getD 0 0), 3, (zL hN rfl s3), (zU hN rfl), (zU hN rfl), zx, (by unfold takesX; (repeat' split) <;> first | rfl | omega), (by unfold givesX; (repeat' split) <;> first | rfl | omega), hb, zx, hC, hK, hL, hB5⟩
  refine zD (zA hN rfl) ?_
  refine zB ?_
  refine hK48 _ _ (wp_cond_false (zA hN rfl) (zH ?_))
  refine op_eql (zA hN rfl) rfl (fun c42 => ?_) (fun c42 => ?_)
  ·
   refine zD (zA hN rfl) ?_
   refine zB ?_
   refine hK19 _ _ (wp_cond_true (zA hN rfl) (zF fun K55 hK55 => ?_))
   refine zH ?_
   refine zG (zC hN rfl s3) ?_
   have hl0 : 0 < l.length := by rw [argsN_two zx] at hl; omega
   refine zh slt23 (zA hN rfl) hL rfl zx zx ?_
   intro b56 o57 h0b56 h1b56 hc58
   refine zN (v := (Value.int .i64 (l.getD 0 0))) one3 (zA hN rfl) (by have := hc58 0 (.int .i64 (l.getD 0 0)) zz (el_i64 (i := 0) zx zx); simpa using this) ?_
   refine zD (zA hN rfl) ?_
   refine zD rfl ?_
   refine zB ?_
   refine hK55 _ _ (zF fun K59 hK59 => ?_)
   refine zH ?_
   refine zG (zA hN rfl) ?_
   refine op_neq (zA hN rfl) rfl (fun c47 => ?_) (fun c47 => ?_)
   ·
    refine zG (zA hN rfl) ?_
    refine zS (j := 2) (dj := 48) (b := true) rfl rfl rfl (zA hN rfl) ?_
    refine zG (zA hN rfl) ?_
    refine zS (j := 2) (dj := 48) (b := true) rfl rfl rfl (zA hN rfl) ?_
    refine op_neq (zA hN rfl) rfl (fun c50 => ?_) (fun c50 => ?_)
    ·
     refine zc (zA hN rfl) (zA hN rfl) ?_
     refine zB ?_
     refine hK59 _ _ (wp_cond_true (zA hN rfl) (zF fun K60 hK60 => ?_))
     refine zH ?_
     refine zD rfl ?_
     refine zD rfl ?_
     refine zB ?_
     refine hK60 _ _ (wp_ret (zb (zO ( ?_))))
     refine ret2 rfl hd (zA hN rfl) (zA hN rfl) ⟨_, rfl, ?_⟩
     have e9 : ofX C K e.op e.vk e.tb e.nm l = (0, 11) := by exact ofX_bad zx
     rw [e9]; exact ⟨hb, rfl⟩
    refine zc (zA hN rfl) (zA hN rfl) ?_
    refine zB ?_
    refine hK59 _ _ (wp_cond_false (zA hN rfl) (wp_skip (hK8 _ _ ?_)))
    exact hJ7 _ _ _ hN hd ⟨(l.getD 0 0), 3, (zL hN rfl s3), (zU hN rfl), (zU hN rfl), zx, (by unfold takesX; (repeat' split) <;> first | rfl | omega), (by unfold givesX; (repeat' split) <;> first | rfl | omega), hb, zx, hC, hK, hL, hB5⟩
   refine zG (zA hN rfl) ?_
   refine zR (j := 2) (dj := 48) (b := true) rfl rfl rfl (zA hN rfl) rfl rfl ?_
   refine zR (j := 2) (dj := 48) (b := true) rfl rfl rfl (zA hN rfl) rfl rfl ?_
   refine zd (zA hN rfl) rfl ?_
   refine zB ?_
   refine hK59 _ _ (wp_cond_false (zA hN rfl) (wp_skip (hK8 _ _ ?_)))
   exact hJ7 _ _ _ hN hd ⟨(l.getD 0 0), 3, (zL hN rfl s3), (zU hN rfl), (zU hN rfl), zx, (by unfold takesX; (repeat' split) <;> first | rfl | omega), (by unfold givesX; (repeat' split) <;> first | rfl | omega), hb, zx, hC, hK, hL, hB5⟩
  refine zD (zA hN rfl) ?_
  refine zB ?_
  refine hK19 _ _ (wp_cond_false (zA hN rfl) (wp_skip (hK8 _ _ ?_)))
  exact hJ7 _ _ _ hN hd ⟨1, 1, (zL hN rfl s3), (zU hN rfl), (zU hN rfl), zx, (by unfold takesX; (repeat' split) <;> first | rfl | omega), (by unfold givesX; (repeat' split) <;> first | rfl | omega), hb, zx, hC, hK, hL, hB5⟩
 rintro a7 w7 hN7 hd7 ⟨mu, co, s7_3, s7_10, s7_11, hne, hmu, hco, hb, zl_w7, hC, hK, hL, hB5⟩
 have := hb.size
 refine zF fun K61 hK61 => ?_
 refine zF fun K62 hK62 => ?_
 refine zH ?_
 refine zG (zC hN7 rfl s7_3) ?_
 refine op_len_rd Try.underlying23 (zA hN7 rfl) hL ?_
 refine zG rfl ?_
 refine zB ?_
 refine hK62 _ _ (wp_block ?_)
 refine loop_m (fun mz_ az_ w' => ∃ (i : Nat), mz_ = l.length - i ∧ (az_.tmps.getD 10 undef = (.int .i64 mu)) ∧ (az_.tmps.getD 11 undef = (.int .i64 co)) ∧ (az_.tmps.getD 52 undef = vl) ∧ (az_.tmps.getD 53 undef = (.int .i64 ((l.length : Nat) : Int))) ∧ (az_.tmps.getD 54 undef = (.int .i64 ((i : Nat) : Int))) ∧ (i ≤ l.length) ∧ (∀ j, j < i → l.getD j 0 = mu) ∧ w7 = w') _ hN7 hd7 ⟨0, rfl, (zL hN7 rfl s7_10), (zL hN7 rfl s7_11), (zU hN7 rfl), (zU hN7 rfl), (zU hN7 rfl), Nat.zero_le _, (fun _ h => absurd h (Nat.not_lt_zero _)), rfl⟩ ?_
 rintro _ a63 _ hN63 hd63 ⟨i, rfl, s63_10, s63_11, s63_52, s63_53, s63_54, hi, hall, rfl⟩
 refine zF fun K64 hK64 => ?_
 refine zH ?_
 refine op_lss (zC hN63 rfl s63_54) (zC hN63 rfl s63_53) (fun c55 => ?_) (fun c55 => ?_)
 ·
  refine zB ?_
  refine hK64 _ _ (zF fun K65 hK65 => ?_)
  refine wp_cond_true (zA hN63 rfl) (wp_skip (hK65 _ _ (zF fun K66 hK66 => ?_)))
  refine wp_block ?_
  refine zF fun K67 hK67 => ?_
  refine zH ?_
  refine zh slt23 (zC hN63 rfl s63_52) hL (zC hN63 rfl s63_54) zx zx ?_
  intro b68 o69 h0b68 h1b68 hc70
  refine zN (v := (Value.int .i64 (l.getD i 0))) one3 (zA hN63 rfl) (by have := hc70 0 (.int .i64 (l.getD i 0)) zz (el_i64 (i := i) zx zx); simpa using this) ?_
  refine zD (zA hN63 rfl) ?_
  refine zB ?_
  refine hK67 _ _ (zF fun K71 hK71 => ?_)
  refine zH ?_
  refine zG (zA hN63 rfl) ?_
  refine zG (zC hN63 rfl s63_10) ?_
  refine op_neq (zA hN63 rfl) (zA hN63 rfl) (fun c60 => ?_) (fun c60 => ?_)
  ·
   refine zB ?_
   refine hK71 _ _ (wp_cond_true (zA hN63 rfl) (zF fun K72 hK72 => ?_))
   refine zH ?_
   refine zD rfl ?_
   refine zD rfl ?_
   refine zB ?_
   refine hK72 _ _ (wp_ret (zb (zO (zO (zb (zO ( ?_)))))))
   refine ret2 rfl hd63 (zA hN63 rfl) (zA hN63 rfl) ⟨_, rfl, ?_⟩
   have e9 : ofX C K e.op e.vk e.tb e.nm l = (0, 11) := by exact ofX_no (i := i) hne.1 hne.2.1 hne.2.2 zx (hmu ▸ c60)
   rw [e9]; exact ⟨hb, rfl⟩
  refine zB ?_
  refine hK71 _ _ (wp_cond_false (zA hN63 rfl) (wp_skip (hK66 _ _ (zH ?_))))
  refine op_add (zC hN63 rfl s63_54) rfl (add64 zx) ?_
  refine zG (zA hN63 rfl) ?_
  refine zB ?_
  -- round 55T 60F
  exact zg _ hN63 hd63 ⟨(i + 1), rfl, (zL hN63 rfl s63_10), (zL hN63 rfl s63_11), (zL hN63 rfl s63_52), (zL hN63 rfl s63_53), (zU hN63 rfl).trans (congrArg (Value.int .i64) zx), zx, (all_next hall c60), rfl⟩ zx
 refine zB ?_
 refine hK64 _ _ (zF fun K73 hK73 => ?_)
 refine wp_cond_false (zA hN63 rfl) (wp_exit (then_exit (then_exit (blk_hit ?_))))
 refine hK61 _ _ (zF fun K74 hK74 => ?_)
 refine zH ?_
 refine zG (zC hN63 rfl s63_11) ?_
 refine zD (zA hN63 rfl) ?_
 refine zD rfl ?_
 refine zB ?_
 refine hK74 _ _ (wp_ret ?_)
 refine ret2 rfl hd63 (zA hN63 rfl) (zA hN63 rfl) ⟨_, rfl, ?_⟩
 have e9 : ofX C K e.op e.vk e.tb e.nm l = (co, 0) := by rw [hco]; exact ofX_ok hne.1 hne.2.1 hne.2.2 fun j hj => hmu ▸ hall j zx
 rw [e9]; exact ⟨hb, rfl⟩
def KindP (e : XE) : Prop := ∀ ⦃C : List PItm⦄ ⦃K : List Int⦄ ⦃vc vk : Value⦄ ⦃w : World⦄, C.length ≤ 9223372036854775807 → K.length ≤ 9223372036854775807 → RdC w 0 w.heap.size 3 vc C.length (C.flatMap cellsI) → RdC w 0 w.heap.size 1 vk K.length (K.map (Value.int .i64)) → XRd w w.heap.size e →
  Ret Try.prog 14 #[vc, vk, (Value.agg #[(Value.int .i64 e.op), (Value.int .i64 e.vk), (Value.int .i64 e.vi), (Value.string (bs e.vt)), (Value.string (bs e.tb)), (Value.string (bs e.nm)), e.av])] w (fun v' w' => Below w.heap.size w w' ∧ v' = .tuple #[.int .i64 (kindX C K e).1, .int .i64 (kindX C K e).2])

theorem Kind1_in {C : List PItm} {K : List Int} {vc vk lv : Value} {a : XE} {L : List Int} {p3 p4 p8 B : Nat} {w : World} (ih : KindP a) (hz0 : C.length ≤ 9223372036854775807) (hz1 : K.length ≤ 9223372036854775807) (hB : B ≤ w.heap.size) (hC : RdC w 0 B 3 vc C.length (C.flatMap cellsI)) (hK : RdC w 0 B 1 vk K.length (K.map (Value.int .i64))) (h3 : Bx w p3 22 [vc]) (h4 : Bx w p4 23 [vk]) (h1 : B ≤ p8) (h8 : Bx w p8 23 [lv]) (hne : p4 ≠ p8) (O : Own w B 3 1 lv L.length (L.map (Value.int .i64))) (hL : L.length ≤ 1000) (ha : XRd w B a) : Ret Try.prog 32 #[(.agg #[(.int .i64 a.op), (.int .i64 a.vk), (.int .i64 a.vi), (.string (bs a.vt)), (.string (bs a.tb)), (.string (bs a.nm)), a.av]), (ptr p3 0), (ptr p4 0), (ptr p8 0)] w (fun v' w' => Gr w w' (fun k => k = p8 ∨ Bl lv k) ∧ v' = .int .i64 (kindX C K a).2 ∧ ∃ lv', Bx w' p8 23 [lv'] ∧ Own w' B 3 1 lv' (L ++ [(kindX C K a).1]).length ((L ++ [(kindX C K a).1]).map (Value.int .i64)) ∧ (lv'.ownBlock = lv.ownBlock ∨ ∀ k, lv'.ownBlock = some k → w.heap.size ≤ k)) := by
 have hi_p3 := h3.lt
 have hi_p4 := h4.lt
 have hi_p8 := h8.lt
 have hb := Gr.refl w (fun k => k = p8 ∨ Bl lv k)
 refine enter (N := 20) Try.func32 rfl rfl (by simp) fun a0 hN hd hA => ?_
 have s0 : a0.tmps.getD 0 undef = (.agg #[(.int .i64 a.op), (.int .i64 a.vk), (.int .i64 a.vi), (.string (bs a.vt)), (.string (bs a.tb)), (.string (bs a.nm)), a.av]) := hA 0 (by simp)
 have s1 : a0.tmps.getD 1 undef = (ptr p3 0) := hA 1 (by simp)
 have s2 : a0.tmps.getD 2 undef = (ptr p4 0) := hA 2 (by simp)
 have s3 : a0.tmps.getD 3 undef = (ptr p8 0) := hA 3 (by simp)
 clear hA
 refine zF fun K1 hK1 => ?_
 refine zH ?_
 refine op_box (cs := [(.int .i64 a.op), (.int .i64 a.vk), (.int .i64 a.vi), (.string (bs a.vt)), (.string (bs a.tb)), (.string (bs a.nm)), a.av]) (zC hN rfl s0) rfl ?_
 intro w2 b3 lo_b3 hi_b3 hB5 E4
 have := E4.size
 have hC := hC.keep0 E4
 have hK := hK.keep0 E4
 have h3 := h3.keep0 E4
 have h4 := h4.keep0 E4
 have h8 := h8.keep0 E4
 have O := O.keep0 E4
 have ha := ha.keep0 E4
 have hb := hb.step0 E4
 refine zD rfl ?_
 refine zB ?_
 refine hK1 _ _ (zF fun K6 hK6 => ?_)
 refine zH ?_
 refine zN (v := vc) one22 (zC hN rfl s1) (h3.cell rfl) ?_
 refine zN (v := vk) one23 (zC hN rfl s2) (h4.cell rfl) ?_
 refine zY agg28 rfl (zA hN rfl) hB5 ?_
 refine zj ok14 (ih (by first | assumption | omega | (simp only [List.length_append, List.length_cons, List.length_nil, List.length_drop, List.length_take]; omega) | (dsimp only; omega) | decide | (simp [keyV, be8_len]; done)) (by first | assumption | omega | (simp only [List.length_append, List.length_cons, List.length_nil, List.length_drop, List.length_take]; omega) | (dsimp only; omega) | decide | (simp [keyV, be8_len]; done)) (hC.mono (Nat.zero_le _) zx) (hK.mono (Nat.zero_le _) zx) (ha.mono zx)) ⟨(zA hN rfl), ⟨(zA hN rfl), ⟨(zA hN rfl), trivial⟩⟩⟩ ?_
 rintro _ w7 ⟨E8, rfl⟩
 have E8 := zQ E8
 have := E8.size
 have h8 := h8.keep0 E8
 have O := O.keep0 E8
 have hb := hb.step0 E8
 refine zG (zA hN rfl) ?_
 refine zW (zA hN rfl) rfl ?_
 refine zW (zA hN rfl) rfl ?_
 refine zD (zA hN rfl) ?_
 refine zD (zA hN rfl) ?_
 refine zB ?_
 refine hK6 _ _ (zF fun K9 hK9 => ?_)
 refine zH ?_
 refine zN (v := lv) one23 (zC hN rfl s3) (h8.cell rfl) ?_
 refine zG (zA hN rfl) ?_
 refine op_bslice (e := 3) (pv := [(0, (.int .i64 (kindX C K a).1))]) (cs := [(.int .i64 (kindX C K a).1)]) ⟨rfl, (zA hN rfl), trivial⟩ zy ?_
 intro w10 b11 lo_b11 hi_b11 hB13 E12
 have := E12.size
 have h8 := h8.keep0 E12
 have O := O.keep0 E12
 have hb := hb.step0 E12
 have hP19 := O
 refine op_append slt23 (zA hN rfl) hP19 (zA hN rfl) (Src.ofRd Try.underlying23 zz (RdC.ofBx (sz := 1) (n := 1) hB13 rfl zz) (by simp [Value.oneCell', u8v])) (by unfold maxLen; omega) zx (by first | exact Nat.le_trans (by assumption) hb.size | (have := hb.size; omega)) ?_
 intro v14 w15 hO17 E16 hm18
 have := E16.size
 have h8 := h8.keepO hP19 E16 zz
 have hb := hb.stepL E16 (fun k _ h => .inr h)
 have hO17 : Own w15 B 3 1 v14 (L.length + 1) (((L ++ [(kindX C K a).1])).map (Value.int .i64)) := by simpa [u8v, u16v, sv] using hO17
 have h8_old := h8
 refine za (vs := [v14]) (cs' := [v14]) size23 (zC hN rfl s3) (zA hN rfl) hO17.cl rfl (by simp only [List.all_cons, List.all_nil, Bool.true_and, Bool.and_true, hO17.one]; try rfl) h8 (zI rfl) rfl ?_
 intro w22 h8 E23
 have := E23.size
 have hO17 := hO17.keepX h8_old E23 zz
 have hb := hb.stepB E23 (.inl rfl)
 refine zB ?_
 refine hK9 _ _ (zF fun K24 hK24 => ?_)
 refine zH ?_
 refine zG (zA hN rfl) ?_
 refine zD (zA hN rfl) ?_
 refine zB ?_
 refine hK24 _ _ (wp_ret ?_)
 refine ret1 rfl hd (zA hN rfl) ⟨_, rfl, ?_⟩
 exact ⟨hb, rfl, v14, h8, hO17.cast (by simp) (by simp), hm18.imp id fun h k hk => Nat.le_trans zx (h k hk)⟩

theorem Kind1_ret {C : List PItm} {K : List Int} {vc vk : Value} {a : XE} {L : List Int} {p3 p4 p8 B : Nat} {F : Nat → Prop} {w : World} (ih : KindP a) (hz0 : C.length ≤ 9223372036854775807) (hz1 : K.length ≤ 9223372036854775807) (hB : B ≤ w.heap.size) (hC : RdC w 0 B 3 vc C.length (C.flatMap cellsI)) (hK : RdC w 0 B 1 vk K.length (K.map (Value.int .i64))) (h3 : Bx w p3 22 [vc]) (h4 : Bx w p4 23 [vk]) (d4 : ¬ F p4) (hA : AccI w B p8 L F) (hL : L.length ≤ 1000) (ha : XRd w B a) :
    Ret Try.prog 32 #[(.agg #[(.int .i64 a.op), (.int .i64 a.vk), (.int .i64 a.vi), (.string (bs a.vt)), (.string (bs a.tb)), (.string (bs a.nm)), a.av]), ptr p3 0, ptr p4 0, ptr p8 0] w (fun v' w' => Gr w w' F ∧ v' = .int .i64 (kindX C K a).2 ∧ ∃ F', AccI w' B p8 (L ++ [(kindX C K a).1]) F' ∧ NewF w.heap.size F F') := by
  obtain ⟨h1, lv, hx, O, hF⟩ := hA
  refine (Kind1_in ih hz0 hz1 hB hC hK h3 h4 h1 hx (fun e => d4 (e ▸ (hF _).2 (.inl rfl))) O hL ha).mono fun v' w' h => ?_
  obtain ⟨E, hv, lv', hx', O', hm⟩ := h
  refine ⟨E.mono fun k _ hk => (hF k).2 hk, hv, _, ⟨h1, lv', hx', O', fun _ => Iff.rfl⟩, fun k hk => ?_⟩
  rcases hk with hk | hk
  · exact .inl ((hF k).2 (.inl hk))
  · rcases hm with hm | hm
    · exact .inl ((hF k).2 (.inr (hm.symm.trans hk)))
    · exact .inr (hm k hk)

theorem FoldX {E : List XE} {v : Value} {R : XE → Int} {w : World} (hX : XsRd w w.heap.size v E) {g : Nat} {fs cs : List Value} (hokg : callOk Try.prog g = true) (hf : ∀ i, i < E.length → ∀ w1, Below w.heap.size w w1 → Ret Try.prog g (fs ++ [(Value.agg #[(Value.int .i64 (E.getD i default).op), (Value.int .i64 (E.getD i default).vk), (Value.int .i64 (E.getD i default).vi), (Value.string (bs (E.getD i default).vt)), (Value.string (bs (E.getD i default).tb)), (Value.string (bs (E.getD i default).nm)), (E.getD i default).av])] ++ cs).toArray w1 (fun v' w' => Below w1.heap.size w1 w' ∧ v' = .int .i64 (R (E.getD i default)))) : Ret Try.prog 31 #[v, (Value.func (.func g) fs.toArray cs.toArray)] w (fun v' w' => Below w.heap.size w w' ∧ v' = .int .i64 (firstE (E.map R))) := by
 have hl := hX.1
 have hlm := rd_len hl
 have hb := Below.refl w.heap.size w
 refine enter (N := 21) Try.func31 rfl rfl (by simp) fun a0 hN hd hA => ?_
 have s0 : a0.tmps.getD 0 undef = v := hA 0 (by simp)
 have s1 : a0.tmps.getD 1 undef = (.func (.func g) fs.toArray cs.toArray) := hA 1 (by simp)
 clear hA
 refine zF fun K1 hK1 => ?_
 refine zH ?_
 refine zD rfl ?_
 refine zB ?_
 refine hK1 _ _ (zF fun K2 hK2 => ?_)
 refine zF fun K3 hK3 => ?_
 refine zH ?_
 refine zG (zC hN rfl s0) ?_
 refine op_len_rd Try.underlying26 (zA hN rfl) hl ?_
 refine zG rfl ?_
 refine zB ?_
 refine hK3 _ _ (wp_block ?_)
 refine loop_m (fun mz_ az_ w' => ∃ (i : Nat), mz_ = E.length - i ∧ (az_.tmps.getD 1 undef = (.func (.func g) fs.toArray cs.toArray)) ∧ (az_.tmps.getD 8 undef = v) ∧ (az_.tmps.getD 9 undef = (.int .i64 ((E.length : Nat) : Int))) ∧ (az_.tmps.getD 10 undef = (.int .i64 ((i : Nat) : Int))) ∧ (i ≤ E.length) ∧ (∀ j, j < i → R (E.getD j default) = 0) ∧ (Below w.heap.size w w') ∧ (w.heap.size ≤ w'.heap.size) ∧ (RdC w' 0 w.heap.size 7 v E.length (E.flatMap cellsX)) ∧ (XsRd w' w.heap.size v E)) _ hN hd ⟨0, rfl, (zL hN rfl s1), (zU hN rfl), (zU hN rfl), (zU hN rfl), (Nat.zero_le _), (fun _ h => absurd h (Nat.not_lt_zero _)), hb, (Nat.le_refl _), hl, hX⟩ ?_
 rintro _ a4 w4 hN4 hd4 ⟨i, rfl, s4_1, s4_8, s4_9, s4_10, hi, hall, hb, zl_w4, hl, hX⟩
 have := hb.size
 refine zF fun K5 hK5 => ?_
 refine zH ?_
 refine op_lss (zC hN4 rfl s4_10) (zC hN4 rfl s4_9) (fun c11 => ?_) (fun c11 => ?_)
 ·
  refine zB ?_
  refine hK5 _ _ (zF fun K6 hK6 => ?_)
  refine wp_cond_true (zA hN4 rfl) (wp_skip (hK6 _ _ (zF fun K7 hK7 => ?_)))
  refine wp_block ?_
  refine zF fun K8 hK8 => ?_
  refine zH ?_
  refine zh slt26 (zC hN4 rfl s4_8) hl (zC hN4 rfl s4_10) zx zx ?_
  intro b9 o10 h0b9 h1b9 hc11
  refine zX (cs := [(.int .i64 (E.getD i default).op), (.int .i64 (E.getD i default).vk), (.int .i64 (E.getD i default).vi), (.string (bs (E.getD i default).vt)), (.string (bs (E.getD i default).tb)), (.string (bs (E.getD i default).nm)), (E.getD i default).av]) agg28 rfl (zA hN4 rfl) (fun j u hu => hc11 j u (by have := (List.getElem?_eq_some_iff.1 hu).1; simpa using this) ((el_xe (i := i) zx zx) j u hu)) ?_
  refine op_alloc (cs := [(.int .i64 0), (.int .i64 0), (.int .i64 0), (.string (bs [])), (.string (bs [])), (.string (bs [])), (.slice none 0 0)]) zero28 rfl ?_
  intro w12 b13 lo_b13 hi_b13 hB15 E14
  have := E14.size
  have hl := hl.keep0 E14
  have hX := hX.keep0 E14
  have hb := zP hb E14 hb.size
  refine zZ size28 (zA hN4 rfl) (zA hN4 rfl) rfl (by simp only [List.all_cons, List.all_nil, Bool.true_and, Bool.and_true, (hX.2 (E.getD i default) (getD_mem zx)).list.1.one]; try rfl) hB15 rfl ?_
  intro w18 hB15 E19
  have := E19.size
  have hl := hl.keep E19 sR
  have hX := hX.keep E19 sR
  have hb := below_step1 hb E19 hb.size zx
  refine zB ?_
  refine hK8 _ _ (zF fun K20 hK20 => ?_)
  refine zH ?_
  refine zG (zC hN4 rfl s4_1) ?_
  refine zY agg28 rfl (zA hN4 rfl) hB15 ?_
  refine op_fnv (fs := fs) (vs := [(.agg #[(.int .i64 (E.getD i default).op), (.int .i64 (E.getD i default).vk), (.int .i64 (E.getD i default).vi), (.string (bs (E.getD i default).vt)), (.string (bs (E.getD i default).tb)), (.string (bs (E.getD i default).nm)), (E.getD i default).av])]) (cs := cs) (zA hN4 rfl) hokg ⟨(zA hN4 rfl), trivial⟩ (hf i zx _ hb) ?_
  rintro _ w21 ⟨E22, rfl⟩
  have E22 := zQ E22
  have := E22.size
  have hl := hl.keep0 E22
  have hX := hX.keep0 E22
  have hb := zP hb E22 hb.size
  refine zD (zA hN4 rfl) ?_
  refine zB ?_
  refine hK20 _ _ (zF fun K23 hK23 => ?_)
  refine zH ?_
  refine zG (zA hN4 rfl) ?_
  refine op_neq (zA hN4 rfl) rfl (fun c18 => ?_) (fun c18 => ?_)
  ·
   refine zB ?_
   refine hK23 _ _ (wp_cond_true (zA hN4 rfl) (zF fun K24 hK24 => ?_))
   refine zH ?_
   refine zG (zA hN4 rfl) ?_
   refine zD (zA hN4 rfl) ?_
   refine zB ?_
   refine hK24 _ _ (wp_ret (zb (zO (zO (zb (zO ( ?_)))))))
   refine ret1 rfl hd4 (zA hN4 rfl) ⟨_, rfl, ?_⟩
   exact ⟨hb, congrArg (Value.int .i64) (firstE_hit zx hall c18).symm⟩
  refine zB ?_
  refine hK23 _ _ (wp_cond_false (zA hN4 rfl) (wp_skip (hK7 _ _ (zH ?_))))
  refine op_add (zC hN4 rfl s4_10) rfl (add64 zx) ?_
  refine zG (zA hN4 rfl) ?_
  refine zB ?_
  -- round 11T 18F
  exact zg _ hN4 hd4 ⟨(i + 1), rfl, (zL hN4 rfl s4_1), (zL hN4 rfl s4_8), (zL hN4 rfl s4_9), (zU hN4 rfl).trans (congrArg (Value.int .i64) zx), zx, (all_next hall c18), hb, zx, hl, hX⟩ zx
 refine zB ?_
 refine hK5 _ _ (zF fun K25 hK25 => ?_)
 refine wp_cond_false (zA hN4 rfl) (wp_exit (then_exit (then_exit (blk_hit ?_))))
 refine hK2 _ _ (zF fun K26 hK26 => ?_)
 refine zH ?_
 refine zD rfl ?_
 refine zB ?_
 refine hK26 _ _ (wp_ret ?_)
 refine ret1 rfl hd4 (zA hN4 rfl) ⟨_, rfl, ?_⟩
 exact ⟨hb, congrArg (Value.int .i64) (firstE_none zx hall).symm⟩

theorem FoldI {E : List PItm} {v : Value} {R : PItm → Int} {w : World} (hl : RdC w 0 w.heap.size 3 v E.length (E.flatMap cellsI)) {g : Nat} {fs cs : List Value} (hokg : callOk Try.prog g = true) (hf : ∀ i, i < E.length → ∀ w1, Below w.heap.size w w1 → Ret Try.prog g (fs ++ [(Value.agg #[(Value.int .i64 (E.getD i default).agg), (Value.string (bs (E.getD i default).tb)), (Value.string (bs (E.getD i default).nm))])] ++ cs).toArray w1 (fun v' w' => Below w1.heap.size w1 w' ∧ v' = .int .i64 (R (E.getD i default)))) : Ret Try.prog 72 #[v, (Value.func (.func g) fs.toArray cs.toArray)] w (fun v' w' => Below w.heap.size w w' ∧ v' = .int .i64 (firstE (E.map R))) := by
 have hlm := rd_len hl
 have hb := Below.refl w.heap.size w
 refine enter (N := 21) Try.func72 rfl rfl (by simp) fun a0 hN hd hA => ?_
 have s0 : a0.tmps.getD 0 undef = v := hA 0 (by simp)
 have s1 : a0.tmps.getD 1 undef = (.func (.func g) fs.toArray cs.toArray) := hA 1 (by simp)
 clear hA
 refine zF fun K27 hK27 => ?_
 refine zH ?_
 refine zD rfl ?_
 refine zB ?_
 refine hK27 _ _ (zF fun K28 hK28 => ?_)
 refine zF fun K29 hK29 => ?_
 refine zH ?_
 refine zG (zC hN rfl s0) ?_
 refine op_len_rd Try.underlying22 (zA hN rfl) hl ?_
 refine zG rfl ?_
 refine zB ?_
 refine hK29 _ _ (wp_block ?_)
 refine loop_m (fun mz_ az_ w' => ∃ (i : Nat), mz_ = E.length - i ∧ (az_.tmps.getD 1 undef = (.func (.func g) fs.toArray cs.toArray)) ∧ (az_.tmps.getD 8 undef = v) ∧ (az_.tmps.getD 9 undef = (.int .i64 ((E.length : Nat) : Int))) ∧ (az_.tmps.getD 10 undef = (.int .i64 ((i : Nat) : Int))) ∧ (i ≤ E.length) ∧ (∀ j, j < i → R (E.getD j default) = 0) ∧ (Below w.heap.size w w') ∧ (w.heap.size ≤ w'.heap.size) ∧ (RdC w' 0 w.heap.size 3 v E.length (E.flatMap cellsI))) _ hN hd ⟨0, rfl, (zL hN rfl s1), (zU hN rfl), (zU hN rfl), (zU hN rfl), (Nat.zero_le _), (fun _ h => absurd h (Nat.not_lt_zero _)), hb, (Nat.le_refl _), hl⟩ ?_
 rintro _ a30 w30 hN30 hd30 ⟨i, rfl, s30_1, s30_8, s30_9, s30_10, hi, hall, hb, zl_w30, hl⟩
 have := hb.size
 refine zF fun K31 hK31 => ?_
 refine zH ?_
 refine op_lss (zC hN30 rfl s30_10) (zC hN30 rfl s30_9) (fun c11 => ?_) (fun c11 => ?_)
 ·
  refine zB ?_
  refine hK31 _ _ (zF fun K32 hK32 => ?_)
  refine wp_cond_true (zA hN30 rfl) (wp_skip (hK32 _ _ (zF fun K33 hK33 => ?_)))
  refine wp_block ?_
  refine zF fun K34 hK34 => ?_
  refine zH ?_
  refine zh slt22 (zC hN30 rfl s30_8) hl (zC hN30 rfl s30_10) zx zx ?_
  intro b35 o36 h0b35 h1b35 hc37
  refine zX (cs := [(.int .i64 (E.getD i default).agg), (.string (bs (E.getD i default).tb)), (.string (bs (E.getD i default).nm))]) agg63 rfl (zA hN30 rfl) (fun j u hu => hc37 j u (by have := (List.getElem?_eq_some_iff.1 hu).1; simpa using this) ((el_pi (i := i) zx zx) j u hu)) ?_
  refine op_alloc (cs := [(.int .i64 0), (.string (bs [])), (.string (bs []))]) zero63 rfl ?_
  intro w38 b39 lo_b39 hi_b39 hB41 E40
  have := E40.size
  have hl := hl.keep0 E40
  have hb := zP hb E40 hb.size
  refine zZ size63 (zA hN30 rfl) (zA hN30 rfl) rfl rfl hB41 rfl ?_
  intro w44 hB41 E45
  have := E45.size
  have hl := hl.keep E45 sR
  have hb := below_step1 hb E45 hb.size zx
  refine zB ?_
  refine hK34 _ _ (zF fun K46 hK46 => ?_)
  refine zH ?_
  refine zG (zC hN30 rfl s30_1) ?_
  refine zY agg63 rfl (zA hN30 rfl) hB41 ?_
  refine op_fnv (fs := fs) (vs := [(.agg #[(.int .i64 (E.getD i default).agg), (.string (bs (E.getD i default).tb)), (.string (bs (E.getD i default).nm))])]) (cs := cs) (zA hN30 rfl) hokg ⟨(zA hN30 rfl), trivial⟩ (hf i zx _ hb) ?_
  rintro _ w47 ⟨E48, rfl⟩
  have E48 := zQ E48
  have := E48.size
  have hl := hl.keep0 E48
  have hb := zP hb E48 hb.size
  refine zD (zA hN30 rfl) ?_
  refine zB ?_
  refine hK46 _ _ (zF fun K49 hK49 => ?_)
  refine zH ?_
  refine zG (zA hN30 rfl) ?_
  refine op_neq (zA hN30 rfl) rfl (fun c18 => ?_) (fun c18 => ?_)
  ·
   refine zB ?_
   refine hK49 _ _ (wp_cond_true (zA hN30 rfl) (zF fun K50 hK50 => ?_))
   refine zH ?_
   refine zG (zA hN30 rfl) ?_
   refine zD (zA hN30 rfl) ?_
   refine zB ?_
   refine hK50 _ _ (wp_ret (zb (zO (zO (zb (zO ( ?_)))))))
   refine ret1 rfl hd30 (zA hN30 rfl) ⟨_, rfl, ?_⟩
   exact ⟨hb, congrArg (Value.int .i64) (firstE_hit zx hall c18).symm⟩
  refine zB ?_
  refine hK49 _ _ (wp_cond_false (zA hN30 rfl) (wp_skip (hK33 _ _ (zH ?_))))
  refine op_add (zC hN30 rfl s30_10) rfl (add64 zx) ?_
  refine zG (zA hN30 rfl) ?_
  refine zB ?_
  -- round 11T 18F
  exact zg _ hN30 hd30 ⟨(i + 1), rfl, (zL hN30 rfl s30_1), (zL hN30 rfl s30_8), (zL hN30 rfl s30_9), (zU hN30 rfl).trans (congrArg (Value.int .i64) zx), zx, (all_next hall c18), hb, zx, hl⟩ zx
 refine zB ?_
 refine hK31 _ _ (zF fun K51 hK51 => ?_)
 refine wp_cond_false (zA hN30 rfl) (wp_exit (then_exit (then_exit (blk_hit ?_))))
 refine hK28 _ _ (zF fun K52 hK52 => ?_)
 refine zH ?_
 refine zD rfl ?_
 refine zB ?_
 refine hK52 _ _ (wp_ret ?_)
 refine ret1 rfl hd30 (zA hN30 rfl) ⟨_, rfl, ?_⟩
 exact ⟨hb, congrArg (Value.int .i64) (firstE_none zx hall).symm⟩

theorem FoldKind {C : List PItm} {K : List Int} {vc vk v : Value} {E : List XE} {p3 p4 p8 B : Nat} {F : Nat → Prop} {w : World} (ih : ∀ a ∈ E, KindP a) (hz0 : C.length ≤ 9223372036854775807) (hz1 : K.length ≤ 9223372036854775807) (hB : B ≤ w.heap.size) (hC : RdC w 0 B 3 vc C.length (C.flatMap cellsI)) (hK : RdC w 0 B 1 vk K.length (K.map (Value.int .i64))) (h3 : Bx w p3 22 [vc]) (h4 : Bx w p4 23 [vk]) (d3 : ¬ F p3) (d4 : ¬ F p4) (hA : AccI w B p8 [] F) (hE : E.length ≤ 2) (hX : XsRd w B v E) : Ret Try.prog 31 #[v, (.func (.func 32) #[] #[(ptr p3 0), (ptr p4 0), (ptr p8 0)])] w (fun v' w' => Gr w w' F ∧ v' = .int .i64 (firstE (E.map fun a => (kindX C K a).2)) ∧ ∃ L F', AccI w' B p8 L F' ∧ NewF w.heap.size F F' ∧ (firstE (E.map fun a => (kindX C K a).2) = 0 → L = E.map fun a => (kindX C K a).1)) := by
 have hR := hX.1
 have hb := Gr.refl w F
 refine enter (N := 21) Try.func31 rfl rfl (by simp) fun a0 hN hd hA => ?_
 have s0 : a0.tmps.getD 0 undef = v := hA 0 (by simp)
 have s1 : a0.tmps.getD 1 undef = (.func (.func 32) #[] #[(ptr p3 0), (ptr p4 0), (ptr p8 0)]) := hA 1 (by simp)
 clear hA
 refine zF fun K53 hK53 => ?_
 refine zH ?_
 refine zD rfl ?_
 refine zB ?_
 refine hK53 _ _ (zF fun K54 hK54 => ?_)
 refine zF fun K55 hK55 => ?_
 refine zH ?_
 refine zG (zC hN rfl s0) ?_
 refine op_len_rd Try.underlying26 (zA hN rfl) hR ?_
 refine zG rfl ?_
 refine zB ?_
 refine hK55 _ _ (wp_block ?_)
 refine loop_m (fun mz_ az_ w' => ∃ (i : Nat) (FL : Nat → Prop), mz_ = E.length - i ∧ (az_.tmps.getD 1 undef = (.func (.func 32) #[] #[(ptr p3 0), (ptr p4 0), (ptr p8 0)])) ∧ (az_.tmps.getD 8 undef = v) ∧ (az_.tmps.getD 9 undef = (.int .i64 ((E.length : Nat) : Int))) ∧ (az_.tmps.getD 10 undef = (.int .i64 ((i : Nat) : Int))) ∧ (i ≤ E.length) ∧ (∀ j, j < i → (kindX C K (E.getD j default)).2 = 0) ∧ (NewF w.heap.size F FL) ∧ (¬ FL p3) ∧ (¬ FL p4) ∧ (Gr w w' F) ∧ (w.heap.size ≤ w'.heap.size) ∧ (RdC w' 0 B 3 vc C.length (C.flatMap cellsI)) ∧ (RdC w' 0 B 1 vk K.length (K.map (Value.int .i64))) ∧ (Bx w' p3 22 [vc]) ∧ (Bx w' p4 23 [vk]) ∧ (RdC w' 0 B 7 v E.length (E.flatMap cellsX)) ∧ (XsRd w' B v E) ∧ (AccI w' B p8 ((E.take i).map (fun a => (kindX C K a).1)) FL)) _ hN hd ⟨0, F, rfl, (zL hN rfl s1), (zU hN rfl), (zU hN rfl), (zU hN rfl), (Nat.zero_le _), (fun _ h => absurd h (Nat.not_lt_zero _)), NewF.refl _ _, d3, d4, hb, (Nat.le_refl _), hC, hK, h3, h4, hR, hX, hA⟩ ?_
 rintro _ a56 w56 hN56 hd56 ⟨i, FL, rfl, s56_1, s56_8, s56_9, s56_10, hi, hall, hN0, djp3, djp4, hb, zl_w56, hC, hK, h3, h4, hR, hX, hA⟩
 have := hb.size
 refine zF fun K57 hK57 => ?_
 refine zH ?_
 refine op_lss (zC hN56 rfl s56_10) (zC hN56 rfl s56_9) (fun c11 => ?_) (fun c11 => ?_)
 ·
  refine zB ?_
  refine hK57 _ _ (zF fun K58 hK58 => ?_)
  refine wp_cond_true (zA hN56 rfl) (wp_skip (hK58 _ _ (zF fun K59 hK59 => ?_)))
  refine wp_block ?_
  refine zF fun K60 hK60 => ?_
  refine zH ?_
  refine zh slt26 (zC hN56 rfl s56_8) hR (zC hN56 rfl s56_10) zx zx ?_
  intro b61 o62 h0b61 h1b61 hc63
  refine zX (cs := [(.int .i64 (E.getD i default).op), (.int .i64 (E.getD i default).vk), (.int .i64 (E.getD i default).vi), (.string (bs (E.getD i default).vt)), (.string (bs (E.getD i default).tb)), (.string (bs (E.getD i default).nm)), (E.getD i default).av]) agg28 rfl (zA hN56 rfl) (fun j u hu => hc63 j u (by have := (List.getElem?_eq_some_iff.1 hu).1; simpa using this) ((el_xe (i := i) zx zx) j u hu)) ?_
  refine op_alloc (cs := [(.int .i64 0), (.int .i64 0), (.int .i64 0), (.string (bs [])), (.string (bs [])), (.string (bs [])), (.slice none 0 0)]) zero28 rfl ?_
  intro w64 b65 lo_b65 hi_b65 hB67 E66
  have dj68 : ¬ FL b65 := fun hf => by have := (hA.lt _ hf).2; omega
  have := E66.size
  have hC := hC.keep0 E66
  have hK := hK.keep0 E66
  have h3 := h3.keep0 E66
  have h4 := h4.keep0 E66
  have hR := hR.keep0 E66
  have hX := hX.keep0 E66
  have hA := hA.keepG (zi E66 NoB) (fun _ _ h => h)
  have hb := hb.step0 E66
  have hB67_old := hB67
  refine zZ size28 (zA hN56 rfl) (zA hN56 rfl) rfl (by simp only [List.all_cons, List.all_nil, Bool.true_and, Bool.and_true, (hX.2 (E.getD i default) (getD_mem zx)).list.1.one]; try rfl) hB67 rfl ?_
  intro w71 hB67 E72
  have := E72.size
  have hC := hC.keep E72 sR
  have hK := hK.keep E72 sR
  have h3 := h3.keep E72 (sN h3 hB67_old)
  have h4 := h4.keep E72 (sN h4 hB67_old)
  have hR := hR.keep E72 sR
  have hX := hX.keep E72 sR
  have hA := hA.keepG (Gr.of E72) (Dj.one dj68)
  have hb := hb.step1 E72 zx
  refine zB ?_
  refine hK60 _ _ (zF fun K73 hK73 => ?_)
  refine zH ?_
  refine zG (zC hN56 rfl s56_1) ?_
  refine zY agg28 rfl (zA hN56 rfl) hB67 ?_
  refine op_fnv (fs := []) (vs := [(.agg #[(.int .i64 (E.getD i default).op), (.int .i64 (E.getD i default).vk), (.int .i64 (E.getD i default).vi), (.string (bs (E.getD i default).vt)), (.string (bs (E.getD i default).tb)), (.string (bs (E.getD i default).nm)), (E.getD i default).av])]) (cs := [(ptr p3 0), (ptr p4 0), (ptr p8 0)]) (zA hN56 rfl) ok32 ⟨(zA hN56 rfl), trivial⟩ (Kind1_ret (ih _ (getD_mem zx)) (by first | assumption | omega | (simp only [List.length_append, List.length_cons, List.length_nil, List.length_drop, List.length_take]; omega) | (dsimp only; omega) | decide | (simp [keyV, be8_len]; done)) (by first | assumption | omega | (simp only [List.length_append, List.length_cons, List.length_nil, List.length_drop, List.length_take]; omega) | (dsimp only; omega) | decide | (simp [keyV, be8_len]; done)) zx hC hK h3 h4 djp4 hA (by simp only [List.length_map, List.length_take]; omega) (hX.2 _ (getD_mem zx))) ?_
  rintro _ w75 ⟨E76, rfl, F74, hA74, hN74⟩
  have bd77 := h3.lt
  have bd78 := h4.lt
  have bd79 := hB67.lt
  have hA_old := hA
  have := E76.size
  have hC := hC.keepG E76 (fun k hk => .inr (by have := hA_old.lt k hk; omega))
  have hK := hK.keepG E76 (fun k hk => .inr (by have := hA_old.lt k hk; omega))
  have h3 := h3.keepG E76 djp3
  have h4 := h4.keepG E76 djp4
  have hR := hR.keepG E76 (fun k hk => .inr (by have := hA_old.lt k hk; omega))
  have hX := hX.keepG E76 (fun k hk => .inr (by have := hA_old.lt k hk; omega))
  have hb := hb.stepF E76 (fun k hk h => (hN0 k h).elim id fun q => absurd q zx)
  have dj80 : ¬ F74 p3 := ne_stepF hN74 bd77 djp3
  have dj81 : ¬ F74 p4 := ne_stepF hN74 bd78 djp4
  refine zD (zA hN56 rfl) ?_
  refine zB ?_
  refine hK73 _ _ (zF fun K83 hK83 => ?_)
  refine zH ?_
  refine zG (zA hN56 rfl) ?_
  refine op_neq (zA hN56 rfl) rfl (fun c18 => ?_) (fun c18 => ?_)
  ·
   refine zB ?_
   refine hK83 _ _ (wp_cond_true (zA hN56 rfl) (zF fun K84 hK84 => ?_))
   refine zH ?_
   refine zG (zA hN56 rfl) ?_
   refine zD (zA hN56 rfl) ?_
   refine zB ?_
   refine hK84 _ _ (wp_ret (zb (zO (zO (zb (zO ( ?_)))))))
   refine ret1 rfl hd56 (zA hN56 rfl) ⟨_, rfl, ?_⟩
   have e9 := firstE_hit (f := fun a => (kindX C K a).2) zx hall c18
   exact ⟨hb, congrArg (Value.int .i64) e9.symm, _, _, hA74, hN0.trans hN74 zx, fun h9 => absurd (e9.symm.trans h9) c18⟩
  refine zB ?_
  refine hK83 _ _ (wp_cond_false (zA hN56 rfl) (wp_skip (hK59 _ _ (zH ?_))))
  refine op_add (zC hN56 rfl s56_10) rfl (add64 zx) ?_
  refine zG (zA hN56 rfl) ?_
  refine zB ?_
  -- round 11T 18F
  exact zg _ hN56 hd56 ⟨(i + 1), F74, rfl, (zL hN56 rfl s56_1), (zL hN56 rfl s56_8), (zL hN56 rfl s56_9), (zU hN56 rfl).trans (congrArg (Value.int .i64) zx), zx, (all_next hall c18), (hN0.trans hN74 zx), dj80, dj81, hb, zx, hC, hK, h3, h4, hR, hX, (by rw [take_map_snoc _ zx]; exact hA74)⟩ zx
 refine zB ?_
 refine hK57 _ _ (zF fun K85 hK85 => ?_)
 refine wp_cond_false (zA hN56 rfl) (wp_exit (then_exit (then_exit (blk_hit ?_))))
 refine hK54 _ _ (zF fun K86 hK86 => ?_)
 refine zH ?_
 refine zD rfl ?_
 refine zB ?_
 refine hK86 _ _ (wp_ret ?_)
 refine ret1 rfl hd56 (zA hN56 rfl) ⟨_, rfl, ?_⟩
 have e9 := firstE_none (f := fun a => (kindX C K a).2) (i := i) zx hall
 exact ⟨hb, congrArg (Value.int .i64) e9.symm, _, _, hA, hN0, fun h9 => by rw [List.take_of_length_le zx]⟩

theorem Kind_in (C : List PItm) (K : List Int) (vc vk : Value) (e : XE) (w : World) (ih : ∀ a ∈ e.args, KindP a) (hz0 : C.length ≤ 9223372036854775807) (hz1 : K.length ≤ 9223372036854775807) (hC : RdC w 0 w.heap.size 3 vc C.length (C.flatMap cellsI)) (hK : RdC w 0 w.heap.size 1 vk K.length (K.map (Value.int .i64))) (he : XRd w w.heap.size e) : Ret Try.prog 14 #[vc, vk, (.agg #[(.int .i64 e.op), (.int .i64 e.vk), (.int .i64 e.vi), (.string (bs e.vt)), (.string (bs e.tb)), (.string (bs e.nm)), e.av])] w (fun v' w' => Below w.heap.size w w' ∧ v' = .tuple #[.int .i64 (kindX C K e).1, .int .i64 (kindX C K e).2]) := by
 have hX := he.list
 have hR := hX.1
 have hlm := rd_len hR
 have hb := Below.refl w.heap.size w
 refine enter (N := 30) Try.func14 rfl rfl (by simp) fun a0 hN hd hA => ?_
 have s0 : a0.tmps.getD 0 undef = vc := hA 0 (by simp)
 have s1 : a0.tmps.getD 1 undef = vk := hA 1 (by simp)
 have s2 : a0.tmps.getD 2 undef = (.agg #[(.int .i64 e.op), (.int .i64 e.vk), (.int .i64 e.vi), (.string (bs e.vt)), (.string (bs e.tb)), (.string (bs e.nm)), e.av]) := hA 2 (by simp)
 clear hA
 refine zF fun K1 hK1 => ?_
 refine zH ?_
 refine op_box (cs := [vc]) (zC hN rfl s0) (RdC.cells hC) ?_
 intro w2 b3 lo_b3 hi_b3 hB5 E4
 have := E4.size
 have hC := hC.keep0 E4
 have hK := hK.keep0 E4
 have hR := hR.keep0 E4
 have hX := hX.keep0 E4
 have hb := zP hb E4 hb.size
 refine op_box (cs := [vk]) (zC hN rfl s1) (RdC.cells hK) ?_
 intro w6 b7 lo_b7 hi_b7 hB9 E8
 have := E8.size
 have hC := hC.keep0 E8
 have hK := hK.keep0 E8
 have hR := hR.keep0 E8
 have hX := hX.keep0 E8
 have hB5 := hB5.keep0 E8
 have hb := zP hb E8 hb.size
 refine op_box (cs := [(.int .i64 e.op), (.int .i64 e.vk), (.int .i64 e.vi), (.string (bs e.vt)), (.string (bs e.tb)), (.string (bs e.nm)), e.av]) (zC hN rfl s2) rfl ?_
 intro w10 b11 lo_b11 hi_b11 hB13 E12
 have := E12.size
 have hC := hC.keep0 E12
 have hK := hK.keep0 E12
 have hR := hR.keep0 E12
 have hX := hX.keep0 E12
 obtain ⟨hB5, hB9⟩ := kb2 E12 hB5 hB9
 have hb := zP hb E12 hb.size
 refine zD rfl ?_
 refine zD rfl ?_
 refine zB ?_
 refine hK1 _ _ (zF fun K14 hK14 => ?_)
 refine zF fun K15 hK15 => ?_
 refine reg_still mixed zy ?_
 intro w17 E16
 have := E16.size
 have hC := hC.keep0 E16
 have hK := hK.keep0 E16
 have hR := hR.keep0 E16
 have hX := hX.keep0 E16
 obtain ⟨hB5, hB9, hB13⟩ := kb3 E16 hB5 hB9 hB13
 have hb := zP hb E16 hb.size
 refine st_step rfl (fun _ h9 => zM fld28_4 (zA hN rfl) h9) ?_
 refine st_step rfl (fun _ h9 => zN (v := e.av) one26 (zA hN rfl) (hB13.cell rfl) h9) ?_
 refine st_step rfl (fun _ h9 => op_len_rd Try.underlying26 (zA hN rfl) hR h9) ?_
 refine st_step rfl (fun _ h9 => zM fld28_0 (zA hN rfl) h9) ?_
 refine st_step rfl (fun _ h9 => zN (v := (Value.int .i64 e.op)) one3 (zA hN rfl) (hB13.cell rfl) h9) ?_
 refine st_fn (vs := [(.int .i64 e.op)]) ok30 (⟨(zA hN rfl), trivial⟩) (args_ret e.op _) ?_
 refine st_step rfl (fun _ h9 => op_cmp (b := (decide (((e.args.length : Nat) : Int) ≠ (argsN e.op)))) (zA hN rfl) (zA hN rfl) (b_neq rfl) h9) ?_
 refine st_nil ?_
 refine hK15 _ _ (wp_cond_split (zA hN rfl) (fun c15 => ?_) (fun c15 => ?_))
 ·
  have c15 := of_decide_eq_true c15
  refine zF fun K18 hK18 => ?_
  refine zH ?_
  refine zD rfl ?_
  refine zD rfl ?_
  refine zB ?_
  refine hK18 _ _ (wp_ret (zO ( ?_)))
  refine ret2 rfl hd (zA hN rfl) (zA hN rfl) ⟨_, rfl, ?_⟩
  have e9 : kindX C K e = (0, 1) := by rw [kindX_eq, if_pos c15]
  rw [e9]; exact ⟨hb, rfl⟩
 have c15 := of_decide_eq_false c15
 refine wp_skip (hK14 _ _ (zF fun K19 hK19 => ?_))
 refine zH ?_
 refine op_alloc (cs := [(.slice none 0 0)]) zero23 rfl ?_
 intro w20 b21 lo_b21 hi_b21 hB23 E22
 have := E22.size
 have hC := hC.keep0 E22
 have hK := hK.keep0 E22
 have hX := hX.keep0 E22
 obtain ⟨hB5, hB9, hB13⟩ := kb3 E22 hB5 hB9 hB13
 have hb := zP hb E22 hb.size
 refine zB ?_
 refine hK19 _ _ (zF fun K24 hK24 => ?_)
 refine zH ?_
 refine zM fld28_4 (zA hN rfl) ?_
 refine zN (v := e.av) one26 (zA hN rfl) (hB13.cell rfl) ?_
 refine op_mkfn (cv := [(ptr b3 0), (ptr b7 0), (ptr b21 0)]) ⟨(zA hN rfl), ⟨(zA hN rfl), ⟨(zA hN rfl), trivial⟩⟩⟩ ?_
 have hA25 : AccI w20 w.heap.size b21 [] (fun k => k = b21 ∨ Bl (.slice none 0 0) k) := ⟨by omega, _, hB23, Own.nil _ _ _ _, fun _ => Iff.rfl⟩
 have d325 : ¬ (fun k => k = b21 ∨ Bl (.slice none 0 0) k) b3 := fun h => h.elim (fun h => by omega) (fun h => (by cases h))
 have d425 : ¬ (fun k => k = b21 ∨ Bl (.slice none 0 0) k) b7 := fun h => h.elim (fun h => by omega) (fun h => (by cases h))
 refine zj ok31 (FoldKind (B := w.heap.size) (p3 := b3) (p4 := b7) (p8 := b21) ih (by first | assumption | omega | (simp only [List.length_append, List.length_cons, List.length_nil, List.length_drop, List.length_take]; omega) | (dsimp only; omega) | decide | (simp [keyV, be8_len]; done)) (by first | assumption | omega | (simp only [List.length_append, List.length_cons, List.length_nil, List.length_drop, List.length_take]; omega) | (dsimp only; omega) | decide | (simp [keyV, be8_len]; done)) zx hC hK hB5 hB9 d325 d425 hA25 (by have h9 := c15; unfold argsN at h9; (repeat' split at h9) <;> omega) hX) ⟨(zA hN rfl), ⟨(zA hN rfl), trivial⟩⟩ ?_
 rintro _ w26 ⟨E27, rfl, L25, F25, hB25, hN25, hE25⟩
 have d28 : ¬ (fun k => k = b21 ∨ Bl (.slice none 0 0) k) b11 := fun h => h.elim (fun h => by omega) (fun h => (by cases h))
 have bd29 := hB5.lt
 have bd30 := hB9.lt
 have bd31 := hB13.lt
 have hA25_old := hA25
 have := E27.size
 have hC := hC.keepG E27 (fun k hk => .inr (by have := hA25_old.lt k hk; omega))
 have hK := hK.keepG E27 (fun k hk => .inr (by have := hA25_old.lt k hk; omega))
 have hB5 := hB5.keepG E27 d325
 have hB9 := hB9.keepG E27 d425
 have hB13 := hB13.keepG E27 d28
 have hb := below_stepG hb E27 hb.size (fun k hk => (hA25_old.lt k hk).1)
 refine zD (zA hN rfl) ?_
 refine zB ?_
 refine hK24 _ _ (zF fun K35 hK35 => ?_)
 refine zF fun K36 hK36 => ?_
 refine zH ?_
 refine zG (zA hN rfl) ?_
 refine op_neq (zA hN rfl) rfl (fun c21 => ?_) (fun c21 => ?_)
 ·
  refine zB ?_
  refine hK36 _ _ (wp_cond_true (zA hN rfl) (zF fun K37 hK37 => ?_))
  refine zH ?_
  refine zG (zA hN rfl) ?_
  refine zD rfl ?_
  refine zD (zA hN rfl) ?_
  refine zB ?_
  refine hK37 _ _ (wp_ret (zO ( ?_)))
  refine ret2 rfl hd (zA hN rfl) (zA hN rfl) ⟨_, rfl, ?_⟩
  have e9 : kindX C K e = (0, firstE (e.args.map fun a => (kindX C K a).2)) := by rw [kindX_eq, if_neg c15, if_pos c21]
  rw [e9]; exact ⟨hb, rfl⟩
 refine zB ?_
 refine hK36 _ _ (wp_cond_false (zA hN rfl) (wp_skip (hK35 _ _ (zF fun K38 hK38 => ?_))))
 refine zH ?_
 have hL8 := hE25 c21
 subst hL8
 obtain ⟨hB8, lv, hx8, hO8, hF8⟩ := hB25
 refine zN (v := vc) one22 (zA hN rfl) (hB5.cell rfl) ?_
 refine zN (v := vk) one23 (zA hN rfl) (hB9.cell rfl) ?_
 refine zY agg28 rfl (zA hN rfl) hB13 ?_
 refine zN (v := lv) one23 (zA hN rfl) (hx8.cell rfl) ?_
 refine zj ok33 (of_ret C K _ _ e (e.args.map fun a => (kindX C K a).1) _ _ (by first | assumption | omega | (simp only [List.length_append, List.length_cons, List.length_nil, List.length_drop, List.length_take]; omega) | (dsimp only; omega) | decide | (simp [keyV, be8_len]; done)) (by first | assumption | omega | (simp only [List.length_append, List.length_cons, List.length_nil, List.length_drop, List.length_take]; omega) | (dsimp only; omega) | decide | (simp [keyV, be8_len]; done)) (by rw [List.length_map]; omega) (hC.mono (Nat.zero_le _) zx) (hK.mono (Nat.zero_le _) zx) (hO8.rdw.mono (Nat.zero_le _) zx)) ⟨(zA hN rfl), ⟨(zA hN rfl), ⟨(zA hN rfl), ⟨(zA hN rfl), trivial⟩⟩⟩⟩ ?_
 rintro _ w39 ⟨E40, rfl⟩
 have E40 := zQ E40
 have := E40.size
 have hb := zP hb E40 hb.size
 refine zW (zA hN rfl) rfl ?_
 refine zW (zA hN rfl) rfl ?_
 refine zD (zA hN rfl) ?_
 refine zD (zA hN rfl) ?_
 refine zB ?_
 refine hK38 _ _ (wp_ret ?_)
 refine ret2 rfl hd (zA hN rfl) (zA hN rfl) ⟨_, rfl, ?_⟩
 have e9 : kindX C K e = ofX C K e.op e.vk e.tb e.nm (e.args.map fun a => (kindX C K a).1) := by rw [kindX_eq, if_neg c15, if_neg (fun h => h c21)]
 rw [e9]; exact ⟨hb, rfl⟩

theorem Kind_all : ∀ e, KindP e := XE.ind fun e ih C K vc vk w h1 h2 hC hK he => Kind_in C K vc vk e w ih h1 h2 hC hK he

theorem at_ret (C : List PItm) (n : Nat) (vc : Value) (e : XE) (w : World) (hz0 : C.length ≤ 9223372036854775807) (hz1 : n ≤ 9223372036854775807) (hC : RdC w 0 w.heap.size 3 vc C.length (C.flatMap cellsI)) (hav : e.av.oneCell' = true) : Ret Try.prog 34 #[vc, (.int .i64 ((n : Nat) : Int)), (.agg #[(.int .i64 e.op), (.int .i64 e.vk), (.int .i64 e.vi), (.string (bs e.vt)), (.string (bs e.tb)), (.string (bs e.nm)), e.av])] w (fun v' w' => Below w.heap.size w w' ∧ v' = .tuple #[.int .i64 (atX C n e.tb e.nm).1, .int .i64 (atX C n e.tb e.nm).2]) := by
 have hb := Below.refl w.heap.size w
 refine enter (N := 47) Try.func34 rfl rfl (by simp) fun a0 hN hd hA => ?_
 have s0 : a0.tmps.getD 0 undef = vc := hA 0 (by simp)
 have s1 : a0.tmps.getD 1 undef = (.int .i64 ((n : Nat) : Int)) := hA 1 (by simp)
 have s2 : a0.tmps.getD 2 undef = (.agg #[(.int .i64 e.op), (.int .i64 e.vk), (.int .i64 e.vi), (.string (bs e.vt)), (.string (bs e.tb)), (.string (bs e.nm)), e.av]) := hA 2 (by simp)
 clear hA
 refine zF fun K1 hK1 => ?_
 refine zH ?_
 refine op_box (cs := [(.int .i64 e.op), (.int .i64 e.vk), (.int .i64 e.vi), (.string (bs e.vt)), (.string (bs e.tb)), (.string (bs e.nm)), e.av]) (zC hN rfl s2) rfl ?_
 intro w2 b3 lo_b3 hi_b3 hB5 E4
 have := E4.size
 have hC := hC.keep0 E4
 have hb := zP hb E4 hb.size
 refine zD rfl ?_
 refine zD rfl ?_
 refine zB ?_
 refine hK1 _ _ (zF fun K6 hK6 => ?_)
 refine zH ?_
 refine zD rfl ?_
 refine zB ?_
 refine hK6 _ _ (zF fun K7 hK7 => ?_)
 refine zF fun K8 hK8 => ?_
 refine zH ?_
 refine zD rfl ?_
 refine zB ?_
 refine hK8 _ _ (wp_block ?_)
 refine loop_m (fun mz_ az_ w' => ∃ (i : Nat) (k : Int), mz_ = min C.length n - i ∧ (az_.tmps.getD 0 undef = vc) ∧ (az_.tmps.getD 1 undef = (.int .i64 ((n : Nat) : Int))) ∧ (az_.tmps.getD 5 undef = (ptr b3 0)) ∧ (az_.tmps.getD 9 undef = (.int .i64 ((i : Nat) : Int))) ∧ (az_.tmps.getD 8 undef = (.int .i64 k)) ∧ (i ≤ min C.length n) ∧ (FoundX C e.tb e.nm i k) ∧ (Below w.heap.size w w') ∧ (w2.heap.size ≤ w'.heap.size) ∧ (RdC w' 0 w.heap.size 3 vc C.length (C.flatMap cellsI)) ∧ (Bx w' b3 28 [(.int .i64 e.op), (.int .i64 e.vk), (.int .i64 e.vi), (.string (bs e.vt)), (.string (bs e.tb)), (.string (bs e.nm)), e.av])) _ hN hd ⟨0, (-1), rfl, (zL hN rfl s0), (zL hN rfl s1), (zU hN rfl), (zU hN rfl), (zU hN rfl), Nat.zero_le _, (.inl ⟨rfl, rfl⟩), hb, (Nat.le_refl _), hC, hB5⟩ ?_
 rintro _ a9 w9 hN9 hd9 ⟨i, k, rfl, s9_0, s9_1, s9_5, s9_9, s9_8, hi, hF, hb, zl_w9, hC, hB5⟩
 have := hb.size
 refine zF fun K10 hK10 => ?_
 refine zF fun K11 hK11 => ?_
 refine zH ?_
 refine zG (zC hN9 rfl s9_9) ?_
 refine zG (zC hN9 rfl s9_0) ?_
 refine op_len_rd Try.underlying22 (zA hN9 rfl) hC ?_
 refine zG (zC hN9 rfl s9_1) ?_
 refine op_min (r := ((min C.length n : Nat) : Int)) (zA hN9 rfl) (zA hN9 rfl) zx ?_
 refine op_lss (zA hN9 rfl) (zA hN9 rfl) (fun c15 => ?_) (fun c15 => ?_)
 ·
  refine zB ?_
  refine hK11 _ _ (wp_cond_true (zA hN9 rfl) (wp_skip (hK10 _ _ (zF fun K12 hK12 => ?_))))
  refine wp_block ?_
  refine zF fun K13 hK13 => ?_
  refine reg_still mixed zy ?_
  intro w15 E14
  have := E14.size
  have hC := hC.keep0 E14
  have hB5 := hB5.keep0 E14
  have hb := zP hb E14 hb.size
  refine st_step rfl (fun _ h9 => zG (zC hN9 rfl s9_0) h9) ?_
  refine st_step rfl (fun _ h9 => zG (zC hN9 rfl s9_9) h9) ?_
  refine st_index_rd slt22 (zA hN9 rfl) hC (zA hN9 rfl) zx zx ?_
  intro b16 o17 h0b16 h1b16 hc18
  refine st_step rfl (fun _ h9 => zM fld63_2 (zA hN9 rfl) h9) ?_
  refine st_step rfl (fun _ h9 => zN (v := (Value.string (bs (C.getD i default).nm))) one9 (zA hN9 rfl) (hc18 2 ((.string (bs (C.getD i default).nm))) zz ((el_pi (i := i) zx zx) 2 ((.string (bs (C.getD i default).nm))) rfl)) h9) ?_
  refine st_step rfl (fun _ h9 => zM fld28_3 (zC hN9 rfl s9_5) h9) ?_
  refine st_step rfl (fun _ h9 => zN (v := (Value.string (bs e.nm))) one9 (zA hN9 rfl) (hB5.cell rfl) h9) ?_
  by_cases g25 : (C.getD i default).nm = e.nm
  ·
   refine st_step rfl (fun _ h9 => op_seqlb (b := true) (zA hN9 rfl) (zA hN9 rfl) (decide_eq_true g25) h9) ?_
   refine st_step rfl (fun _ h9 => zG (zA hN9 rfl) h9) ?_
   refine st_g_true (j := 8) (dj := 26) (b := true) rfl rfl rfl (zA hN9 rfl) ?_
   refine st_step rfl (fun _ h9 => zM fld28_2 (zC hN9 rfl s9_5) h9) ?_
   refine st_g_true (j := 8) (dj := 26) (b := true) rfl rfl rfl (zA hN9 rfl) ?_
   refine st_step rfl (fun _ h9 => zN (v := (Value.string (bs e.tb))) one9 (zA hN9 rfl) (hB5.cell rfl) h9) ?_
   refine st_g_true (j := 8) (dj := 26) (b := true) rfl rfl rfl (zA hN9 rfl) ?_
   by_cases g29 : e.tb = []
   ·
    refine st_step rfl (fun _ h9 => op_seqlb (b := true) (zA hN9 rfl) rfl (decide_eq_true g29) h9) ?_
    refine st_g_true (j := 8) (dj := 26) (b := true) rfl rfl rfl (zA hN9 rfl) ?_
    refine st_step rfl (fun _ h9 => zG (zA hN9 rfl) h9) ?_
    refine st_g_false (j := 12) (dj := 30) (b := false) rfl rfl rfl (zA hN9 rfl) rfl rfl ?_
    refine st_g_false (j := 12) (dj := 30) (b := false) rfl rfl rfl (zA hN9 rfl) rfl rfl ?_
    refine st_g_false (j := 12) (dj := 30) (b := false) rfl rfl rfl (zA hN9 rfl) rfl rfl ?_
    refine st_g_false (j := 12) (dj := 30) (b := false) rfl rfl rfl (zA hN9 rfl) rfl rfl ?_
    refine st_g_false (j := 12) (dj := 30) (b := false) rfl rfl rfl (zA hN9 rfl) rfl rfl ?_
    refine st_g_false (j := 12) (dj := 30) (b := false) rfl rfl rfl (zA hN9 rfl) rfl rfl ?_
    refine st_g_false (j := 12) (dj := 30) (b := false) rfl rfl rfl (zA hN9 rfl) rfl rfl ?_
    refine st_g_false (j := 12) (dj := 30) (b := false) rfl rfl rfl (zA hN9 rfl) rfl rfl ?_
    refine st_g_true (j := 8) (dj := 26) (b := true) rfl rfl rfl (zA hN9 rfl) ?_
    refine st_step rfl (fun _ h9 => zc (zA hN9 rfl) rfl h9) ?_
    refine st_step rfl (fun _ h9 => zc (zA hN9 rfl) (zA hN9 rfl) h9) ?_
    refine st_nil ?_
    refine hK13 _ _ (wp_cond_true (zA hN9 rfl) (zF fun K19 hK19 => ?_))
    refine zF fun K20 hK20 => ?_
    refine zH ?_
    refine zG (zC hN9 rfl s9_8) ?_
    refine op_geq (zA hN9 rfl) rfl (fun c42 => ?_) (fun c42 => ?_)
    ·
     refine zB ?_
     refine hK20 _ _ (wp_cond_true (zA hN9 rfl) (zF fun K21 hK21 => ?_))
     refine zH ?_
     refine zD rfl ?_
     refine zD rfl ?_
     refine zB ?_
     refine hK21 _ _ (wp_ret (zO (zb (zO (zO (zb (zO ( ?_))))))))
     refine ret2 rfl hd9 (zA hN9 rfl) (zA hN9 rfl) ⟨_, rfl, ?_⟩
     have e9 := atX_two (n := n) (show i + 1 ≤ min C.length n by omega) (hF.two c42 (isCol_t g25 (.inl g29)))
     rw [e9]; exact ⟨hb, rfl⟩
    refine zB ?_
    refine hK20 _ _ (wp_cond_false (zA hN9 rfl) (wp_skip (hK19 _ _ (zH ?_))))
    refine zG (zC hN9 rfl s9_9) ?_
    refine zD (zA hN9 rfl) ?_
    refine zB ?_
    refine hK12 _ _ (zH ?_)
    refine zG (zC hN9 rfl s9_9) ?_
    refine op_add (zA hN9 rfl) rfl (add64 zx) ?_
    refine zD (zA hN9 rfl) ?_
    refine zB ?_
    -- round 15T 25T 29T 42F
    exact zg _ hN9 hd9 ⟨(i + 1), _, rfl, (zL hN9 rfl s9_0), (zL hN9 rfl s9_1), (zL hN9 rfl s9_5), (zU hN9 rfl).trans (congrArg (Value.int .i64) zx), (zU hN9 rfl), zx, (hF.hit zx (isCol_t g25 (.inl g29))), hb, zx, hC, hB5⟩ zx
   refine st_step rfl (fun _ h9 => op_seqlb (b := false) (zA hN9 rfl) rfl (decide_eq_false g29) h9) ?_
   refine st_g_true (j := 8) (dj := 26) (b := true) rfl rfl rfl (zA hN9 rfl) ?_
   refine st_step rfl (fun _ h9 => zG (zA hN9 rfl) h9) ?_
   refine st_g_true (j := 12) (dj := 30) (b := false) rfl rfl rfl (zA hN9 rfl) ?_
   refine st_step rfl (fun _ h9 => zM fld28_2 (zC hN9 rfl s9_5) h9) ?_
   refine st_g_true (j := 12) (dj := 30) (b := false) rfl rfl rfl (zA hN9 rfl) ?_
   refine st_step rfl (fun _ h9 => zN (v := (Value.string (bs e.tb))) one9 (zA hN9 rfl) (hB5.cell rfl) h9) ?_
   refine st_g_true (j := 12) (dj := 30) (b := false) rfl rfl rfl (zA hN9 rfl) ?_
   refine st_step rfl (fun _ h9 => zG (zC hN9 rfl s9_0) h9) ?_
   refine st_g_true (j := 12) (dj := 30) (b := false) rfl rfl rfl (zA hN9 rfl) ?_
   refine st_step rfl (fun _ h9 => zG (zC hN9 rfl s9_9) h9) ?_
   refine st_g_true (j := 12) (dj := 30) (b := false) rfl rfl rfl (zA hN9 rfl) ?_
   refine st_index_rd slt22 (zA hN9 rfl) hC (zA hN9 rfl) zx zx ?_
   intro b22 o23 h0b22 h1b22 hc24
   refine st_g_true (j := 12) (dj := 30) (b := false) rfl rfl rfl (zA hN9 rfl) ?_
   refine st_step rfl (fun _ h9 => zM fld63_1 (zA hN9 rfl) h9) ?_
   refine st_g_true (j := 12) (dj := 30) (b := false) rfl rfl rfl (zA hN9 rfl) ?_
   refine st_step rfl (fun _ h9 => zN (v := (Value.string (bs (C.getD i default).tb))) one9 (zA hN9 rfl) (hc24 1 ((.string (bs (C.getD i default).tb))) zz ((el_pi (i := i) zx zx) 1 ((.string (bs (C.getD i default).tb))) rfl)) h9) ?_
   refine st_g_true (j := 12) (dj := 30) (b := false) rfl rfl rfl (zA hN9 rfl) ?_
   refine st_step rfl (fun _ h9 => op_seqlb (b := (decide (e.tb = (C.getD i default).tb))) (zA hN9 rfl) (zA hN9 rfl) rfl h9) ?_
   refine st_g_true (j := 8) (dj := 26) (b := true) rfl rfl rfl (zA hN9 rfl) ?_
   refine st_step rfl (fun _ h9 => zd (zA hN9 rfl) (zA hN9 rfl) h9) ?_
   refine st_step rfl (fun _ h9 => zc (zA hN9 rfl) (zA hN9 rfl) h9) ?_
   refine st_nil ?_
   refine hK13 _ _ (wp_cond_split (zA hN9 rfl) (fun c40 => ?_) (fun c40 => ?_))
   ·
    have c40 := of_decide_eq_true c40
    refine zF fun K25 hK25 => ?_
    refine zF fun K26 hK26 => ?_
    refine zH ?_
    refine zG (zC hN9 rfl s9_8) ?_
    refine op_geq (zA hN9 rfl) rfl (fun c42 => ?_) (fun c42 => ?_)
    ·
     refine zB ?_
     refine hK26 _ _ (wp_cond_true (zA hN9 rfl) (zF fun K27 hK27 => ?_))
     refine zH ?_
     refine zD rfl ?_
     refine zD rfl ?_
     refine zB ?_
     refine hK27 _ _ (wp_ret (zO (zb (zO (zO (zb (zO ( ?_))))))))
     refine ret2 rfl hd9 (zA hN9 rfl) (zA hN9 rfl) ⟨_, rfl, ?_⟩
     have e9 := atX_two (n := n) (show i + 1 ≤ min C.length n by omega) (hF.two c42 (isCol_t g25 (.inr c40.symm)))
     rw [e9]; exact ⟨hb, rfl⟩
    refine zB ?_
    refine hK26 _ _ (wp_cond_false (zA hN9 rfl) (wp_skip (hK25 _ _ (zH ?_))))
    refine zG (zC hN9 rfl s9_9) ?_
    refine zD (zA hN9 rfl) ?_
    refine zB ?_
    refine hK12 _ _ (zH ?_)
    refine zG (zC hN9 rfl s9_9) ?_
    refine op_add (zA hN9 rfl) rfl (add64 zx) ?_
    refine zD (zA hN9 rfl) ?_
    refine zB ?_
    -- round 15T 25T 29F 40T 42F
    exact zg _ hN9 hd9 ⟨(i + 1), _, rfl, (zL hN9 rfl s9_0), (zL hN9 rfl s9_1), (zL hN9 rfl s9_5), (zU hN9 rfl).trans (congrArg (Value.int .i64) zx), (zU hN9 rfl), zx, (hF.hit zx (isCol_t g25 (.inr c40.symm))), hb, zx, hC, hB5⟩ zx
   have c40 := of_decide_eq_false c40
   refine wp_skip (hK12 _ _ (zH ?_))
   refine zG (zC hN9 rfl s9_9) ?_
   refine op_add (zA hN9 rfl) rfl (add64 zx) ?_
   refine zD (zA hN9 rfl) ?_
   refine zB ?_
   -- round 15T 25T 29F 40F
   exact zg _ hN9 hd9 ⟨(i + 1), _, rfl, (zL hN9 rfl s9_0), (zL hN9 rfl s9_1), (zL hN9 rfl s9_5), (zU hN9 rfl).trans (congrArg (Value.int .i64) zx), (zL hN9 rfl s9_8), zx, (hF.none (isCol_f2 g29 (fun h => c40 h.symm))), hb, zx, hC, hB5⟩ zx
  refine st_step rfl (fun _ h9 => op_seqlb (b := false) (zA hN9 rfl) (zA hN9 rfl) (decide_eq_false g25) h9) ?_
  refine st_step rfl (fun _ h9 => zG (zA hN9 rfl) h9) ?_
  refine st_g_false (j := 8) (dj := 26) (b := true) rfl rfl rfl (zA hN9 rfl) rfl rfl ?_
  refine st_g_false (j := 8) (dj := 26) (b := true) rfl rfl rfl (zA hN9 rfl) rfl rfl ?_
  refine st_g_false (j := 8) (dj := 26) (b := true) rfl rfl rfl (zA hN9 rfl) rfl rfl ?_
  refine st_g_false (j := 8) (dj := 26) (b := true) rfl rfl rfl (zA hN9 rfl) rfl rfl ?_
  refine st_g_undef (j := 12) (dj := 30) (b := false) rfl rfl rfl (zA hN9 rfl) rfl ?_
  refine st_g_undef (j := 12) (dj := 30) (b := false) rfl rfl rfl (zA hN9 rfl) rfl ?_
  refine st_g_undef (j := 12) (dj := 30) (b := false) rfl rfl rfl (zA hN9 rfl) rfl ?_
  refine st_g_undef (j := 12) (dj := 30) (b := false) rfl rfl rfl (zA hN9 rfl) rfl ?_
  refine st_g_undef (j := 12) (dj := 30) (b := false) rfl rfl rfl (zA hN9 rfl) rfl ?_
  refine st_g_undef (j := 12) (dj := 30) (b := false) rfl rfl rfl (zA hN9 rfl) rfl ?_
  refine st_g_undef (j := 12) (dj := 30) (b := false) rfl rfl rfl (zA hN9 rfl) rfl ?_
  refine st_g_undef (j := 12) (dj := 30) (b := false) rfl rfl rfl (zA hN9 rfl) rfl ?_
  refine st_g_false (j := 8) (dj := 26) (b := true) rfl rfl rfl (zA hN9 rfl) rfl rfl ?_
  refine st_step rfl (fun _ h9 => zd (zA hN9 rfl) rfl h9) ?_
  refine st_nil ?_
  refine hK13 _ _ (wp_cond_false (zA hN9 rfl) (wp_skip (hK12 _ _ (zH ?_))))
  refine zG (zC hN9 rfl s9_9) ?_
  refine op_add (zA hN9 rfl) rfl (add64 zx) ?_
  refine zD (zA hN9 rfl) ?_
  refine zB ?_
  -- round 15T 25F
  exact zg _ hN9 hd9 ⟨(i + 1), _, rfl, (zL hN9 rfl s9_0), (zL hN9 rfl s9_1), (zL hN9 rfl s9_5), (zU hN9 rfl).trans (congrArg (Value.int .i64) zx), (zL hN9 rfl s9_8), zx, (hF.none (isCol_f1 g25)), hb, zx, hC, hB5⟩ zx
 refine zB ?_
 refine hK11 _ _ (wp_cond_false (zA hN9 rfl) (wp_exit (then_exit (then_exit (blk_hit ?_)))))
 refine hK7 _ _ (zF fun K28 hK28 => ?_)
 refine zF fun K29 hK29 => ?_
 refine zH ?_
 refine zG (zC hN9 rfl s9_8) ?_
 refine op_lss (zA hN9 rfl) rfl (fun c45 => ?_) (fun c45 => ?_)
 ·
  refine zB ?_
  refine hK29 _ _ (wp_cond_true (zA hN9 rfl) (zF fun K30 hK30 => ?_))
  refine zH ?_
  refine zD rfl ?_
  refine zD rfl ?_
  refine zB ?_
  refine hK30 _ _ (wp_ret (zO ( ?_)))
  refine ret2 rfl hd9 (zA hN9 rfl) (zA hN9 rfl) ⟨_, rfl, ?_⟩
  have e9 := hF.end (n := n) zx
  rw [if_pos zx] at e9
  rw [e9]; exact ⟨hb, rfl⟩
 refine zB ?_
 refine hK29 _ _ (wp_cond_false (zA hN9 rfl) (wp_skip (hK28 _ _ (zF fun K31 hK31 => ?_))))
 refine zH ?_
 refine zG (zC hN9 rfl s9_8) ?_
 refine zD (zA hN9 rfl) ?_
 refine zD rfl ?_
 refine zB ?_
 refine hK31 _ _ (wp_ret ?_)
 refine ret2 rfl hd9 (zA hN9 rfl) (zA hN9 rfl) ⟨_, rfl, ?_⟩
 have e9 := hF.end (n := n) zx
 rw [if_neg zx] at e9
 rw [e9]; exact ⟨hb, rfl⟩
def KindQ (e : XE) : Prop := ∀ ⦃C : List PItm⦄ ⦃K : List Int⦄ ⦃vc vk : Value⦄ ⦃w : World⦄, C.length ≤ 9223372036854775807 → K.length ≤ 9223372036854775807 → RdC w 0 w.heap.size 3 vc C.length (C.flatMap cellsI) → RdC w 0 w.heap.size 1 vk K.length (K.map (Value.int .i64)) → XRd w w.heap.size e →
  Ret Try.prog 15 #[vc, vk, (Value.agg #[(Value.int .i64 e.op), (Value.int .i64 e.vk), (Value.int .i64 e.vi), (Value.string (bs e.vt)), (Value.string (bs e.tb)), (Value.string (bs e.nm)), e.av])] w (fun v' w' => Below w.heap.size w w' ∧ v' = .tuple #[.int .i64 (kindX C K e).1, .int .i64 (kindX C K e).2])

theorem KindQ_in (C : List PItm) (K : List Int) (vc vk : Value) (e : XE) (w : World) (ih : ∀ a ∈ e.args, KindQ a) (hz0 : C.length ≤ 9223372036854775807) (hz1 : K.length ≤ 9223372036854775807) (hC : RdC w 0 w.heap.size 3 vc C.length (C.flatMap cellsI)) (hK : RdC w 0 w.heap.size 1 vk K.length (K.map (Value.int .i64))) (he : XRd w w.heap.size e) : Ret Try.prog 15 #[vc, vk, (.agg #[(.int .i64 e.op), (.int .i64 e.vk), (.int .i64 e.vi), (.string (bs e.vt)), (.string (bs e.tb)), (.string (bs e.nm)), e.av])] w (fun v' w' => Below w.heap.size w w' ∧ v' = .tuple #[.int .i64 (kindX C K e).1, .int .i64 (kindX C K e).2]) := by
 have hX := he.list
 have hR := hX.1
 have hlm := rd_len hR
 have hb := Below.refl w.heap.size w
 refine enter (N := 135) Try.func15 rfl rfl (by simp) fun a0 hN hd hA => ?_
 have s0 : a0.tmps.getD 0 undef = vc := hA 0 (by simp)
 have s1 : a0.tmps.getD 1 undef = vk := hA 1 (by simp)
 have s2 : a0.tmps.getD 2 undef = (.agg #[(.int .i64 e.op), (.int .i64 e.vk), (.int .i64 e.vi), (.string (bs e.vt)), (.string (bs e.tb)), (.string (bs e.nm)), e.av]) := hA 2 (by simp)
 clear hA
 refine zF fun K1 hK1 => ?_
 refine zH ?_
 refine op_box (cs := [(.int .i64 e.op), (.int .i64 e.vk), (.int .i64 e.vi), (.string (bs e.vt)), (.string (bs e.tb)), (.string (bs e.nm)), e.av]) (zC hN rfl s2) rfl ?_
 intro w2 b3 lo_b3 hi_b3 hB5 E4
 have := E4.size
 have hC := hC.keep0 E4
 have hK := hK.keep0 E4
 have hR := hR.keep0 E4
 have hX := hX.keep0 E4
 have he := he.keep0 E4
 have hb := zP hb E4 hb.size
 refine zD rfl ?_
 refine zD rfl ?_
 refine zB ?_
 refine hK1 _ _ (seq_join2 (N := 135) (fun az_ w' => ∃ (an : Int), (az_.tmps.getD 0 undef = vc) ∧ (az_.tmps.getD 1 undef = vk) ∧ (az_.tmps.getD 5 undef = (ptr b3 0)) ∧ (az_.tmps.getD 6 undef = (.int .i64 0)) ∧ (az_.tmps.getD 7 undef = (.int .i64 0)) ∧ (az_.tmps.getD 8 undef = (.int .i64 an)) ∧ (1 ≤ e.op ∧ e.op ≤ 15 → an = argsN e.op) ∧ (Below w.heap.size w w') ∧ (w2.heap.size ≤ w'.heap.size) ∧ (RdC w' 0 w.heap.size 3 vc C.length (C.flatMap cellsI)) ∧ (RdC w' 0 w.heap.size 1 vk K.length (K.map (Value.int .i64))) ∧ (RdC w' 0 w.heap.size 7 e.av e.args.length (e.args.flatMap cellsX)) ∧ (XsRd w' w.heap.size e.av e.args) ∧ (XRd w' w.heap.size e) ∧ (Bx w' b3 28 [(.int .i64 e.op), (.int .i64 e.vk), (.int .i64 e.vi), (.string (bs e.vt)), (.string (bs e.tb)), (.string (bs e.nm)), e.av])) (fun hJ6 => ?_) ?_)
 ·
  refine zF fun K7 hK7 => ?_
  refine zH ?_
  refine zD rfl ?_
  refine zB ?_
  refine hK7 _ _ (zF fun K8 hK8 => ?_)
  refine wp_block ?_
  refine zF fun K9 hK9 => ?_
  refine zH ?_
  refine zM fld28_0 (zA hN rfl) ?_
  refine zN (v := (Value.int .i64 e.op)) one3 (zA hN rfl) (hB5.cell rfl) ?_
  refine op_eql (zA hN rfl) rfl (fun c21 => ?_) (fun c21 => ?_)
  ·
   refine zG (zA hN rfl) ?_
   refine zR (j := 3) (dj := 22) (b := false) rfl rfl rfl (zA hN rfl) rfl rfl ?_
   refine zR (j := 3) (dj := 22) (b := false) rfl rfl rfl (zA hN rfl) rfl rfl ?_
   refine zR (j := 3) (dj := 22) (b := false) rfl rfl rfl (zA hN rfl) rfl rfl ?_
   refine zc (zA hN rfl) rfl ?_
   refine zD (zA hN rfl) ?_
   refine zB ?_
   refine hK9 _ _ (wp_cond_true (zA hN rfl) (zH ?_))
   refine zD rfl ?_
   refine zB ?_
   refine hK8 _ _ ?_
   exact hJ6 _ _ _ hN hd ⟨0, (zL hN rfl s0), (zL hN rfl s1), (zU hN rfl), (zU hN rfl), (zU hN rfl), (zU hN rfl), (fun h9 => by unfold argsN; (repeat' split) <;> omega), hb, zx, hC, hK, hR, hX, he, hB5⟩
  refine zG (zA hN rfl) ?_
  refine zS (j := 3) (dj := 22) (b := false) rfl rfl rfl (zA hN rfl) ?_
  refine zM fld28_0 (zA hN rfl) ?_
  refine zS (j := 3) (dj := 22) (b := false) rfl rfl rfl (zA hN rfl) ?_
  refine zN (v := (Value.int .i64 e.op)) one3 (zA hN rfl) (hB5.cell rfl) ?_
  refine zS (j := 3) (dj := 22) (b := false) rfl rfl rfl (zA hN rfl) ?_
  refine op_eql (zA hN rfl) rfl (fun c25 => ?_) (fun c25 => ?_)
  ·
   refine zd (zA hN rfl) (zA hN rfl) ?_
   refine zD (zA hN rfl) ?_
   refine zB ?_
   refine hK9 _ _ (wp_cond_true (zA hN rfl) (zH ?_))
   refine zD rfl ?_
   refine zB ?_
   refine hK8 _ _ ?_
   exact hJ6 _ _ _ hN hd ⟨0, (zL hN rfl s0), (zL hN rfl s1), (zU hN rfl), (zU hN rfl), (zU hN rfl), (zU hN rfl), (fun h9 => by unfold argsN; (repeat' split) <;> omega), hb, zx, hC, hK, hR, hX, he, hB5⟩
  refine zd (zA hN rfl) (zA hN rfl) ?_
  refine zD (zA hN rfl) ?_
  refine zB ?_
  refine hK9 _ _ (wp_cond_false (zA hN rfl) (zF fun K10 hK10 => ?_))
  refine zH ?_
  refine zM fld28_0 (zA hN rfl) ?_
  refine zN (v := (Value.int .i64 e.op)) one3 (zA hN rfl) (hB5.cell rfl) ?_
  refine op_eql (zA hN rfl) rfl (fun c30 => ?_) (fun c30 => ?_)
  ·
   refine zG (zA hN rfl) ?_
   refine zR (j := 3) (dj := 31) (b := false) rfl rfl rfl (zA hN rfl) rfl rfl ?_
   refine zR (j := 3) (dj := 31) (b := false) rfl rfl rfl (zA hN rfl) rfl rfl ?_
   refine zR (j := 3) (dj := 31) (b := false) rfl rfl rfl (zA hN rfl) rfl rfl ?_
   refine zc (zA hN rfl) rfl ?_
   refine zD (zA hN rfl) ?_
   refine zB ?_
   refine hK10 _ _ (wp_cond_true (zA hN rfl) (zH ?_))
   refine zD rfl ?_
   refine zB ?_
   refine hK8 _ _ ?_
   exact hJ6 _ _ _ hN hd ⟨1, (zL hN rfl s0), (zL hN rfl s1), (zU hN rfl), (zU hN rfl), (zU hN rfl), (zU hN rfl), (fun h9 => by unfold argsN; (repeat' split) <;> omega), hb, zx, hC, hK, hR, hX, he, hB5⟩
  refine zG (zA hN rfl) ?_
  refine zS (j := 3) (dj := 31) (b := false) rfl rfl rfl (zA hN rfl) ?_
  refine zM fld28_0 (zA hN rfl) ?_
  refine zS (j := 3) (dj := 31) (b := false) rfl rfl rfl (zA hN rfl) ?_
  refine zN (v := (Value.int .i64 e.op)) one3 (zA hN rfl) (hB5.cell rfl) ?_
  refine zS (j := 3) (dj := 31) (b := false) rfl rfl rfl (zA hN rfl) ?_
  refine op_eql (zA hN rfl) rfl (fun c34 => ?_) (fun c34 => ?_)
  ·
   refine zd (zA hN rfl) (zA hN rfl) ?_
   refine zD (zA hN rfl) ?_
   refine zB ?_
   refine hK10 _ _ (wp_cond_true (zA hN rfl) (zH ?_))
   refine zD rfl ?_
   refine zB ?_
   refine hK8 _ _ ?_
   exact hJ6 _ _ _ hN hd ⟨1, (zL hN rfl s0), (zL hN rfl s1), (zU hN rfl), (zU hN rfl), (zU hN rfl), (zU hN rfl), (fun h9 => by unfold argsN; (repeat' split) <;> omega), hb, zx, hC, hK, hR, hX, he, hB5⟩
  refine zd (zA hN rfl) (zA hN rfl) ?_
  refine zD (zA hN rfl) ?_
  refine zB ?_
  refine hK10 _ _ (wp_cond_false (zA hN rfl) (wp_skip (hK8 _ _ ?_)))
  exact hJ6 _ _ _ hN hd ⟨2, (zL hN rfl s0), (zL hN rfl s1), (zU hN rfl), (zU hN rfl), (zU hN rfl), (zU hN rfl), (fun h9 => by unfold argsN; (repeat' split) <;> omega), hb, zx, hC, hK, hR, hX, he, hB5⟩
 rintro a6 w6 hN6 hd6 ⟨an, s6_0, s6_1, s6_5, s6_6, s6_7, s6_8, han, hb, zl_w6, hC, hK, hR, hX, he, hB5⟩
 have := hb.size
 refine zF fun K11 hK11 => ?_
 refine zF fun K12 hK12 => ?_
 refine zH ?_
 refine zM fld28_0 (zC hN6 rfl s6_5) ?_
 refine zN (v := (Value.int .i64 e.op)) one3 (zA hN6 rfl) (hB5.cell rfl) ?_
 refine op_lss (zA hN6 rfl) rfl (fun c38 => ?_) (fun c38 => ?_)
 ·
  refine zG (zA hN6 rfl) ?_
  refine zR (j := 3) (dj := 39) (b := false) rfl rfl rfl (zA hN6 rfl) rfl rfl ?_
  refine zR (j := 3) (dj := 39) (b := false) rfl rfl rfl (zA hN6 rfl) rfl rfl ?_
  refine zR (j := 3) (dj := 39) (b := false) rfl rfl rfl (zA hN6 rfl) rfl rfl ?_
  refine zc (zA hN6 rfl) rfl ?_
  refine zG (zA hN6 rfl) ?_
  refine zR (j := 8) (dj := 44) (b := false) rfl rfl rfl (zA hN6 rfl) rfl rfl ?_
  refine zR (j := 8) (dj := 44) (b := false) rfl rfl rfl (zA hN6 rfl) rfl rfl ?_
  refine zR (j := 8) (dj := 44) (b := false) rfl rfl rfl (zA hN6 rfl) rfl rfl ?_
  refine zR (j := 8) (dj := 44) (b := false) rfl rfl rfl (zA hN6 rfl) rfl rfl ?_
  refine zR (j := 8) (dj := 44) (b := false) rfl rfl rfl (zA hN6 rfl) rfl rfl ?_
  refine zc (zA hN6 rfl) rfl ?_
  refine zB ?_
  refine hK12 _ _ (wp_cond_true (zA hN6 rfl) (zF fun K13 hK13 => ?_))
  refine zH ?_
  refine zD rfl ?_
  refine zD rfl ?_
  refine zB ?_
  refine hK13 _ _ (wp_ret (zO ( ?_)))
  refine ret2 rfl hd6 (zA hN6 rfl) (zA hN6 rfl) ⟨_, rfl, ?_⟩
  have e9 : kindX C K e = (0, 1) := by rw [kindX_eq, if_pos (by have h9 := han; unfold argsN; (repeat' split) <;> omega)]
  rw [e9]; exact ⟨hb, rfl⟩
 refine zG (zA hN6 rfl) ?_
 refine zS (j := 3) (dj := 39) (b := false) rfl rfl rfl (zA hN6 rfl) ?_
 refine zM fld28_0 (zC hN6 rfl s6_5) ?_
 refine zS (j := 3) (dj := 39) (b := false) rfl rfl rfl (zA hN6 rfl) ?_
 refine zN (v := (Value.int .i64 e.op)) one3 (zA hN6 rfl) (hB5.cell rfl) ?_
 refine zS (j := 3) (dj := 39) (b := false) rfl rfl rfl (zA hN6 rfl) ?_
 refine op_gtr (zA hN6 rfl) rfl (fun c42 => ?_) (fun c42 => ?_)
 ·
  refine zd (zA hN6 rfl) (zA hN6 rfl) ?_
  refine zG (zA hN6 rfl) ?_
  refine zR (j := 8) (dj := 44) (b := false) rfl rfl rfl (zA hN6 rfl) rfl rfl ?_
  refine zR (j := 8) (dj := 44) (b := false) rfl rfl rfl (zA hN6 rfl) rfl rfl ?_
  refine zR (j := 8) (dj := 44) (b := false) rfl rfl rfl (zA hN6 rfl) rfl rfl ?_
  refine zR (j := 8) (dj := 44) (b := false) rfl rfl rfl (zA hN6 rfl) rfl rfl ?_
  refine zR (j := 8) (dj := 44) (b := false) rfl rfl rfl (zA hN6 rfl) rfl rfl ?_
  refine zc (zA hN6 rfl) rfl ?_
  refine zB ?_
  refine hK12 _ _ (wp_cond_true (zA hN6 rfl) (zF fun K14 hK14 => ?_))
  refine zH ?_
  refine zD rfl ?_
  refine zD rfl ?_
  refine zB ?_
  refine hK14 _ _ (wp_ret (zO ( ?_)))
  refine ret2 rfl hd6 (zA hN6 rfl) (zA hN6 rfl) ⟨_, rfl, ?_⟩
  have e9 : kindX C K e = (0, 1) := by rw [kindX_eq, if_pos (by have h9 := han; unfold argsN; (repeat' split) <;> omega)]
  rw [e9]; exact ⟨hb, rfl⟩
 refine zd (zA hN6 rfl) (zA hN6 rfl) ?_
 refine zG (zA hN6 rfl) ?_
 refine zS (j := 8) (dj := 44) (b := false) rfl rfl rfl (zA hN6 rfl) ?_
 refine zM fld28_4 (zC hN6 rfl s6_5) ?_
 refine zS (j := 8) (dj := 44) (b := false) rfl rfl rfl (zA hN6 rfl) ?_
 refine zN (v := e.av) one26 (zA hN6 rfl) (hB5.cell rfl) ?_
 refine zS (j := 8) (dj := 44) (b := false) rfl rfl rfl (zA hN6 rfl) ?_
 refine op_len_rd Try.underlying26 (zA hN6 rfl) hR ?_
 refine zS (j := 8) (dj := 44) (b := false) rfl rfl rfl (zA hN6 rfl) ?_
 refine zG (zC hN6 rfl s6_8) ?_
 refine zS (j := 8) (dj := 44) (b := false) rfl rfl rfl (zA hN6 rfl) ?_
 refine op_neq (zA hN6 rfl) (zA hN6 rfl) (fun c49 => ?_) (fun c49 => ?_)
 ·
  refine zd (zA hN6 rfl) (zA hN6 rfl) ?_
  refine zB ?_
  refine hK12 _ _ (wp_cond_true (zA hN6 rfl) (zF fun K15 hK15 => ?_))
  refine zH ?_
  refine zD rfl ?_
  refine zD rfl ?_
  refine zB ?_
  refine hK15 _ _ (wp_ret (zO ( ?_)))
  refine ret2 rfl hd6 (zA hN6 rfl) (zA hN6 rfl) ⟨_, rfl, ?_⟩
  have e9 : kindX C K e = (0, 1) := by rw [kindX_eq, if_pos (by have h9 := han; omega)]
  rw [e9]; exact ⟨hb, rfl⟩
 refine zd (zA hN6 rfl) (zA hN6 rfl) ?_
 refine zB ?_
 refine hK12 _ _ (wp_cond_false (zA hN6 rfl) (wp_skip (hK11 _ _ (zF fun K16 hK16 => ?_))))
 refine zF fun K17 hK17 => ?_
 refine zH ?_
 refine zM fld28_0 (zC hN6 rfl s6_5) ?_
 refine zN (v := (Value.int .i64 e.op)) one3 (zA hN6 rfl) (hB5.cell rfl) ?_
 refine op_eql (zA hN6 rfl) rfl (fun c53 => ?_) (fun c53 => ?_)
 ·
  refine zB ?_
  refine hK17 _ _ (wp_cond_true (zA hN6 rfl) (zF fun K18 hK18 => ?_))
  refine zH ?_
  refine zM fld28_1 (zC hN6 rfl s6_5) ?_
  refine zM fld25_0 (zA hN6 rfl) ?_
  refine zN (v := (Value.int .i64 e.vk)) one3 (zA hN6 rfl) (hB5.cell rfl) ?_
  refine zD (zA hN6 rfl) ?_
  refine zD rfl ?_
  refine zB ?_
  refine hK18 _ _ (wp_ret (zO ( ?_)))
  refine ret2 rfl hd6 (zA hN6 rfl) (zA hN6 rfl) ⟨_, rfl, ?_⟩
  have hn9 : ¬ (e.args.length : Int) ≠ argsN e.op := by have h9 := han; omega
  have h0 : e.args = [] := List.length_eq_zero_iff.1 (by have h9 := han; unfold argsN at h9; (repeat' split at h9) <;> omega)
  have e9 : kindX C K e = (e.vk, 0) := by rw [kindX_eq, if_neg hn9, if_neg (by rw [h0]; simp [firstE])]; unfold ofX; rw [if_pos c53]
  rw [e9]; exact ⟨hb, rfl⟩
 refine zB ?_
 refine hK17 _ _ (wp_cond_false (zA hN6 rfl) (wp_skip (hK16 _ _ (zF fun K19 hK19 => ?_))))
 refine zF fun K20 hK20 => ?_
 refine zH ?_
 refine zM fld28_0 (zC hN6 rfl s6_5) ?_
 refine zN (v := (Value.int .i64 e.op)) one3 (zA hN6 rfl) (hB5.cell rfl) ?_
 refine op_eql (zA hN6 rfl) rfl (fun c59 => ?_) (fun c59 => ?_)
 ·
  refine zB ?_
  refine hK20 _ _ (wp_cond_true (zA hN6 rfl) (zF fun K21 hK21 => ?_))
  refine zH ?_
  refine zG (zC hN6 rfl s6_0) ?_
  refine zG (zC hN6 rfl s6_1) ?_
  refine op_len_rd Try.underlying23 (zA hN6 rfl) hK ?_
  refine zY agg28 rfl (zC hN6 rfl s6_5) hB5 ?_
  refine zj ok34 (at_ret C (K.length) _ e _ (by first | assumption | omega | (simp only [List.length_append, List.length_cons, List.length_nil, List.length_drop, List.length_take]; omega) | (dsimp only; omega) | decide | (simp [keyV, be8_len]; done)) (by first | assumption | omega | (simp only [List.length_append, List.length_cons, List.length_nil, List.length_drop, List.length_take]; omega) | (dsimp only; omega) | decide | (simp [keyV, be8_len]; done)) (hC.mono (Nat.zero_le _) zx) (he.list.1.one)) ⟨(zA hN6 rfl), ⟨(zA hN6 rfl), ⟨(zA hN6 rfl), trivial⟩⟩⟩ ?_
  rintro _ w22 ⟨E23, rfl⟩
  have E23 := zQ E23
  have := E23.size
  have hK := hK.keep0 E23
  have hb := zP hb E23 hb.size
  refine zG (zA hN6 rfl) ?_
  refine zW (zA hN6 rfl) rfl ?_
  refine zW (zA hN6 rfl) rfl ?_
  refine zD (zA hN6 rfl) ?_
  refine zD (zA hN6 rfl) ?_
  refine zB ?_
  refine hK21 _ _ (zF fun K24 hK24 => ?_)
  refine zF fun K25 hK25 => ?_
  refine zH ?_
  refine zG (zA hN6 rfl) ?_
  have h10 := atX_err (C := C) (n := K.length) (tb := e.tb) (nm := e.nm)
  refine op_neq (zA hN6 rfl) rfl (fun c69 => ?_) (fun c69 => ?_)
  ·
   refine zB ?_
   refine hK25 _ _ (wp_cond_true (zA hN6 rfl) (zF fun K26 hK26 => ?_))
   refine zH ?_
   refine zG (zA hN6 rfl) ?_
   refine zD rfl ?_
   refine zD (zA hN6 rfl) ?_
   refine zB ?_
   refine hK26 _ _ (wp_ret (zO (zO ( ?_))))
   refine ret2 rfl hd6 (zA hN6 rfl) (zA hN6 rfl) ⟨_, rfl, ?_⟩
   have hn9 : ¬ (e.args.length : Int) ≠ argsN e.op := by have h9 := han; omega
   have h0 : e.args = [] := List.length_eq_zero_iff.1 (by have h9 := han; unfold argsN at h9; (repeat' split at h9) <;> omega)
   have e9 : kindX C K e = (0, (atX C K.length e.tb e.nm).2) := by rw [kindX_eq, if_neg hn9, if_neg (by rw [h0]; simp [firstE])]; unfold ofX; rw [if_neg c53, if_pos c59, colAt_at, if_pos c69]; rw [show (atX C K.length e.tb e.nm).2 = 10 by omega]
   rw [e9]; exact ⟨hb, rfl⟩
  refine zB ?_
  refine hK25 _ _ (wp_cond_false (zA hN6 rfl) (wp_skip (hK24 _ _ (zF fun K27 hK27 => ?_))))
  refine zH ?_
  refine zG (zC hN6 rfl s6_1) ?_
  refine zG (zA hN6 rfl) ?_
  obtain ⟨k9, hk9, hk1, hk2, hk3⟩ := atX_ok (C := C) (n := K.length) (tb := e.tb) (nm := e.nm) zx
  refine zh slt23 (zA hN6 rfl) hK (zA hN6 rfl) zx zx ?_
  intro b28 o29 h0b28 h1b28 hc30
  refine zN (v := (Value.int .i64 (K.getD (atX C (K.length) e.tb e.nm).1.toNat 0))) one3 (zA hN6 rfl) (by have := hc30 0 (.int .i64 (K.getD (atX C (K.length) e.tb e.nm).1.toNat 0)) zz (el_i64 (i := (atX C (K.length) e.tb e.nm).1.toNat) zx zx); simpa using this) ?_
  refine zD (zA hN6 rfl) ?_
  refine zD rfl ?_
  refine zB ?_
  refine hK27 _ _ (wp_ret (zO ( ?_)))
  refine ret2 rfl hd6 (zA hN6 rfl) (zA hN6 rfl) ⟨_, rfl, ?_⟩
  have hn9 : ¬ (e.args.length : Int) ≠ argsN e.op := by have h9 := han; omega
  have h0 : e.args = [] := List.length_eq_zero_iff.1 (by have h9 := han; unfold argsN at h9; (repeat' split at h9) <;> omega)
  have e9 : kindX C K e = (K.getD (atX C K.length e.tb e.nm).1.toNat 0, 0) := by rw [kindX_eq, if_neg hn9, if_neg (by rw [h0]; simp [firstE])]; unfold ofX; rw [if_neg c53, if_pos c59, colAt_at, if_neg (fun h => h c69)]
  rw [e9]; exact ⟨hb, by rw [hk9]; rfl⟩
 refine zB ?_
 refine hK20 _ _ (wp_cond_false (zA hN6 rfl) (wp_skip (hK19 _ _ (zF fun K31 hK31 => ?_))))
 refine zH ?_
 refine zD rfl ?_
 refine zB ?_
 refine hK31 _ _ (zF fun K32 hK32 => ?_)
 refine zF fun K33 hK33 => ?_
 refine zH ?_
 refine zD rfl ?_
 refine zB ?_
 refine hK33 _ _ (wp_block ?_)
 refine loop_m (fun mz_ az_ w' => ∃ (i : Nat) (lv : Value), mz_ = e.args.length - i ∧ (az_.tmps.getD 0 undef = vc) ∧ (az_.tmps.getD 1 undef = vk) ∧ (az_.tmps.getD 5 undef = (ptr b3 0)) ∧ (az_.tmps.getD 12 undef = (.int .i64 ((i : Nat) : Int))) ∧ (az_.tmps.getD 11 undef = lv) ∧ (i ≤ e.args.length) ∧ (∀ j, j < i → (kindX C K (e.args.getD j default)).2 = 0) ∧ (Below w.heap.size w w') ∧ (w6.heap.size ≤ w'.heap.size) ∧ (RdC w' 0 w.heap.size 3 vc C.length (C.flatMap cellsI)) ∧ (RdC w' 0 w.heap.size 1 vk K.length (K.map (Value.int .i64))) ∧ (RdC w' 0 w.heap.size 7 e.av e.args.length (e.args.flatMap cellsX)) ∧ (XsRd w' w.heap.size e.av e.args) ∧ (XRd w' w.heap.size e) ∧ (Bx w' b3 28 [(.int .i64 e.op), (.int .i64 e.vk), (.int .i64 e.vi), (.string (bs e.vt)), (.string (bs e.tb)), (.string (bs e.nm)), e.av]) ∧ (Own w' w.heap.size 3 1 lv i (((e.args.take i).map (fun a => (kindX C K a).1)).map (Value.int .i64)))) _ hN6 hd6 ⟨0, (.slice none 0 0), rfl, (zL hN6 rfl s6_0), (zL hN6 rfl s6_1), (zL hN6 rfl s6_5), (zU hN6 rfl), (zU hN6 rfl), (Nat.zero_le _), (fun _ h => absurd h (Nat.not_lt_zero _)), hb, (Nat.le_refl _), hC, hK, hR, hX, he, hB5, (Own.nil _ _ _ _)⟩ ?_
 rintro _ a34 w34 hN34 hd34 ⟨i, lv, rfl, s34_0, s34_1, s34_5, s34_12, s34_11, hi, hall, hb, zl_w34, hC, hK, hR, hX, he, hB5, hO35⟩
 have := hb.size
 refine zF fun K36 hK36 => ?_
 refine zF fun K37 hK37 => ?_
 refine zH ?_
 refine zG (zC hN34 rfl s34_12) ?_
 refine zM fld28_4 (zC hN34 rfl s34_5) ?_
 refine zN (v := e.av) one26 (zA hN34 rfl) (hB5.cell rfl) ?_
 refine op_len_rd Try.underlying26 (zA hN34 rfl) hR ?_
 refine op_lss (zA hN34 rfl) (zA hN34 rfl) (fun c79 => ?_) (fun c79 => ?_)
 ·
  refine zB ?_
  refine hK37 _ _ (wp_cond_true (zA hN34 rfl) (wp_skip (hK36 _ _ (zF fun K38 hK38 => ?_))))
  refine wp_block ?_
  refine zF fun K39 hK39 => ?_
  refine zH ?_
  refine zG (zC hN34 rfl s34_0) ?_
  refine zG (zC hN34 rfl s34_1) ?_
  refine zM fld28_4 (zC hN34 rfl s34_5) ?_
  refine zN (v := e.av) one26 (zA hN34 rfl) (hB5.cell rfl) ?_
  refine zG (zC hN34 rfl s34_12) ?_
  refine zh slt26 (zA hN34 rfl) hR (zA hN34 rfl) zx zx ?_
  intro b40 o41 h0b40 h1b40 hc42
  refine zX (cs := [(.int .i64 (e.args.getD i default).op), (.int .i64 (e.args.getD i default).vk), (.int .i64 (e.args.getD i default).vi), (.string (bs (e.args.getD i default).vt)), (.string (bs (e.args.getD i default).tb)), (.string (bs (e.args.getD i default).nm)), (e.args.getD i default).av]) agg28 rfl (zA hN34 rfl) (fun j u hu => hc42 j u (by have := (List.getElem?_eq_some_iff.1 hu).1; simpa using this) ((el_xe (i := i) zx zx) j u hu)) ?_
  refine ze (vs := [vc, vk, (.agg #[(.int .i64 (e.args.getD i default).op), (.int .i64 (e.args.getD i default).vk), (.int .i64 (e.args.getD i default).vi), (.string (bs (e.args.getD i default).vt)), (.string (bs (e.args.getD i default).tb)), (.string (bs (e.args.getD i default).nm)), (e.args.getD i default).av])]) ok15 ⟨(zA hN34 rfl), ⟨(zA hN34 rfl), ⟨(zA hN34 rfl), trivial⟩⟩⟩ ((ih _ (getD_mem zx)) (by first | assumption | omega | (simp only [List.length_append, List.length_cons, List.length_nil, List.length_drop, List.length_take]; omega) | (dsimp only; omega) | decide | (simp [keyV, be8_len]; done)) (by first | assumption | omega | (simp only [List.length_append, List.length_cons, List.length_nil, List.length_drop, List.length_take]; omega) | (dsimp only; omega) | decide | (simp [keyV, be8_len]; done)) (hC.mono (Nat.zero_le _) zx) (hK.mono (Nat.zero_le _) zx) ((hX.2 (e.args.getD i default) (getD_mem zx)).mono zx)) ?_
  rintro _ w43 ⟨E44, rfl⟩
  have E44 := zQ E44
  have := E44.size
  have hC := hC.keep0 E44
  have hK := hK.keep0 E44
  have hR := hR.keep0 E44
  have hX := hX.keep0 E44
  have he := he.keep0 E44
  have hB5 := hB5.keep0 E44
  have hO35 := hO35.keep0 E44
  have hb := zP hb E44 hb.size
  refine zG (zA hN34 rfl) ?_
  refine zW (zA hN34 rfl) rfl ?_
  refine zW (zA hN34 rfl) rfl ?_
  refine zD (zA hN34 rfl) ?_
  refine zD (zA hN34 rfl) ?_
  refine zB ?_
  refine hK39 _ _ (zF fun K45 hK45 => ?_)
  refine zF fun K46 hK46 => ?_
  refine zH ?_
  refine zG (zA hN34 rfl) ?_
  refine op_neq (zA hN34 rfl) rfl (fun c94 => ?_) (fun c94 => ?_)
  ·
   refine zB ?_
   refine hK46 _ _ (wp_cond_true (zA hN34 rfl) (zF fun K47 hK47 => ?_))
   refine zH ?_
   refine zG (zA hN34 rfl) ?_
   refine zD rfl ?_
   refine zD (zA hN34 rfl) ?_
   refine zB ?_
   refine hK47 _ _ (wp_ret (zO (zb (zO (zO (zb (zO ( ?_))))))))
   refine ret2 rfl hd34 (zA hN34 rfl) (zA hN34 rfl) ⟨_, rfl, ?_⟩
   have hn9 : ¬ (e.args.length : Int) ≠ argsN e.op := by have h9 := han; omega
   have h10 := firstE_hit (f := fun a => (kindX C K a).2) (i := i) zx hall c94
   have e9 : kindX C K e = (0, (kindX C K (e.args.getD i default)).2) := by rw [kindX_eq, if_neg hn9, if_pos (by rw [h10]; exact c94), h10]
   rw [e9]; exact ⟨hb, rfl⟩
  refine zB ?_
  refine hK46 _ _ (wp_cond_false (zA hN34 rfl) (wp_skip (hK45 _ _ (zH ?_))))
  refine zG (zC hN34 rfl s34_11) ?_
  refine zG (zA hN34 rfl) ?_
  refine op_bslice (e := 3) (pv := [(0, (.int .i64 (kindX C K (e.args.getD i default)).1))]) (cs := [(.int .i64 (kindX C K (e.args.getD i default)).1)]) ⟨rfl, (zA hN34 rfl), trivial⟩ zy ?_
  intro w48 b49 lo_b49 hi_b49 hB51 E50
  have := E50.size
  have hC := hC.keep0 E50
  have hK := hK.keep0 E50
  have hR := hR.keep0 E50
  have hX := hX.keep0 E50
  have he := he.keep0 E50
  have hB5 := hB5.keep0 E50
  have hO35 := hO35.keep0 E50
  have hb := zP hb E50 hb.size
  have hal : e.args.length ≤ 9223372036854775807 := hlm
  have hn9 : e.args.length ≤ 2 := by have h9 := han; unfold argsN at h9; (repeat' split at h9) <;> omega
  have hP57 := hO35
  refine op_append slt23 (zA hN34 rfl) hP57 (zA hN34 rfl) (Src.ofRd Try.underlying23 zz (RdC.ofBx (sz := 1) (n := 1) hB51 rfl zz) (by simp [Value.oneCell', u8v])) (by unfold maxLen; omega) zx hb.size ?_
  intro v52 w53 hO55 E54 hm56
  have := E54.size
  have hC := hC.keepO hP57 E54 zx
  have hK := hK.keepO hP57 E54 zx
  have hR := hR.keepO hP57 E54 zx
  have hX := hX.keepO hP57 E54 zx
  have he := he.keepO hP57 E54 zx
  have hB5 := hB5.keepO hP57 E54 zz
  have hb := below_stepO hb hP57 E54 hb.size zx
  have hO55 : Own w53 w.heap.size 3 1 v52 (i + 1) (((((e.args.take i).map (fun a => (kindX C K a).1)) ++ [(kindX C K (e.args.getD i default)).1])).map (Value.int .i64)) := by simpa [u8v, u16v, sv] using hO55
  refine zD (zA hN34 rfl) ?_
  refine zB ?_
  refine hK38 _ _ (zH ?_)
  refine zG (zC hN34 rfl s34_12) ?_
  refine op_add (zA hN34 rfl) rfl (add64 zx) ?_
  refine zD (zA hN34 rfl) ?_
  refine zB ?_
  -- round 38F 42F 49F 53F 59F 79T 94F
  exact zg _ hN34 hd34 ⟨(i + 1), v52, rfl, (zL hN34 rfl s34_0), (zL hN34 rfl s34_1), (zL hN34 rfl s34_5), (zU hN34 rfl).trans (congrArg (Value.int .i64) zx), (zU hN34 rfl), zx, (all_next hall c94), hb, zx, hC, hK, hR, hX, he, hB5, (hO55.cast rfl (by rw [take_map_snoc _ zx]))⟩ zx
 refine zB ?_
 refine hK37 _ _ (wp_cond_false (zA hN34 rfl) (wp_exit (then_exit (then_exit (blk_hit ?_)))))
 refine hK32 _ _ ?_
 refine seq_join2 (N := 135) (fun az_ w' => ∃ (mu co : Int), (az_.tmps.getD 11 undef = lv) ∧ (az_.tmps.getD 15 undef = (.int .i64 mu)) ∧ (az_.tmps.getD 16 undef = (.int .i64 co)) ∧ (e.op ≠ 1 ∧ e.op ≠ 2 ∧ ¬ (8 ≤ e.op ∧ e.op ≤ 13 ∧ (e.args.map (fun a => (kindX C K a).1)).getD 0 0 ≠ 1 ∧ (e.args.map (fun a => (kindX C K a).1)).getD 0 0 ≠ 2)) ∧ (mu = takesX e.op (e.args.map (fun a => (kindX C K a).1))) ∧ (co = givesX e.op) ∧ (firstE (e.args.map fun a => (kindX C K a).2) = 0) ∧ ((e.args.map (fun a => (kindX C K a).1)).length = e.args.length) ∧ (Below w.heap.size w w') ∧ (w34.heap.size ≤ w'.heap.size) ∧ (RdC w' 0 w.heap.size 3 vc C.length (C.flatMap cellsI)) ∧ (RdC w' 0 w.heap.size 1 vk K.length (K.map (Value.int .i64))) ∧ (RdC w' 0 w.heap.size 7 e.av e.args.length (e.args.flatMap cellsX)) ∧ (XsRd w' w.heap.size e.av e.args) ∧ (XRd w' w.heap.size e) ∧ (Bx w' b3 28 [(.int .i64 e.op), (.int .i64 e.vk), (.int .i64 e.vi), (.string (bs e.vt)), (.string (bs e.tb)), (.string (bs e.nm)), e.av]) ∧ (Own w' w.heap.size 3 1 lv e.args.length ((e.args.map (fun a => (kindX C K a).1)).map (Value.int .i64)))) (fun hJ58 => ?_) ?_
 ·
  refine zF fun K60 hK60 => ?_
  refine zH ?_
  obtain rfl : i = e.args.length := by omega
  rw [List.take_length] at hO35
  have hz9 : firstE (e.args.map fun a => (kindX C K a).2) = 0 := firstE_none (f := fun a => (kindX C K a).2) (Nat.le_refl _) hall
  have hll : (e.args.map (fun a => (kindX C K a).1)).length = e.args.length := List.length_map _
  refine zD rfl ?_
  refine zD rfl ?_
  refine zB ?_
  refine hK60 _ _ (zF fun K61 hK61 => ?_)
  refine wp_block ?_
  refine zF fun K62 hK62 => ?_
  refine zH ?_
  refine zM fld28_0 (zC hN34 rfl s34_5) ?_
  refine zN (v := (Value.int .i64 e.op)) one3 (zA hN34 rfl) (hB5.cell rfl) ?_
  refine op_eql (zA hN34 rfl) rfl (fun c103 => ?_) (fun c103 => ?_)
  ·
   refine zG (zA hN34 rfl) ?_
   refine zR (j := 3) (dj := 104) (b := false) rfl rfl rfl (zA hN34 rfl) rfl rfl ?_
   refine zR (j := 3) (dj := 104) (b := false) rfl rfl rfl (zA hN34 rfl) rfl rfl ?_
   refine zR (j := 3) (dj := 104) (b := false) rfl rfl rfl (zA hN34 rfl) rfl rfl ?_
   refine zc (zA hN34 rfl) rfl ?_
   refine zD (zA hN34 rfl) ?_
   refine zB ?_
   refine hK62 _ _ (wp_cond_true (zA hN34 rfl) (zH ?_))
   skip
   refine zD rfl ?_
   refine zD rfl ?_
   refine zB ?_
   refine hK61 _ _ ?_
   exact hJ58 _ _ _ hN34 hd34 ⟨3, 3, (zL hN34 rfl s34_11), (zU hN34 rfl), (zU hN34 rfl), zx, (by unfold takesX; (repeat' split) <;> first | rfl | omega), (by unfold givesX; (repeat' split) <;> first | rfl | omega), hz9, hll, hb, zx, hC, hK, hR, hX, he, hB5, hO35⟩
  refine zG (zA hN34 rfl) ?_
  refine zS (j := 3) (dj := 104) (b := false) rfl rfl rfl (zA hN34 rfl) ?_
  refine zM fld28_0 (zC hN34 rfl s34_5) ?_
  refine zS (j := 3) (dj := 104) (b := false) rfl rfl rfl (zA hN34 rfl) ?_
  refine zN (v := (Value.int .i64 e.op)) one3 (zA hN34 rfl) (hB5.cell rfl) ?_
  refine zS (j := 3) (dj := 104) (b := false) rfl rfl rfl (zA hN34 rfl) ?_
  refine op_geq (zA hN34 rfl) rfl (fun c107 => ?_) (fun c107 => ?_)
  ·
   refine zd (zA hN34 rfl) (zA hN34 rfl) ?_
   refine zD (zA hN34 rfl) ?_
   refine zB ?_
   refine hK62 _ _ (wp_cond_true (zA hN34 rfl) (zH ?_))
   skip
   refine zD rfl ?_
   refine zD rfl ?_
   refine zB ?_
   refine hK61 _ _ ?_
   exact hJ58 _ _ _ hN34 hd34 ⟨3, 3, (zL hN34 rfl s34_11), (zU hN34 rfl), (zU hN34 rfl), zx, (by unfold takesX; (repeat' split) <;> first | rfl | omega), (by unfold givesX; (repeat' split) <;> first | rfl | omega), hz9, hll, hb, zx, hC, hK, hR, hX, he, hB5, hO35⟩
  refine zd (zA hN34 rfl) (zA hN34 rfl) ?_
  refine zD (zA hN34 rfl) ?_
  refine zB ?_
  refine hK62 _ _ (wp_cond_false (zA hN34 rfl) (zF fun K63 hK63 => ?_))
  refine zH ?_
  refine zM fld28_0 (zC hN34 rfl s34_5) ?_
  refine zN (v := (Value.int .i64 e.op)) one3 (zA hN34 rfl) (hB5.cell rfl) ?_
  refine op_geq (zA hN34 rfl) rfl (fun c112 => ?_) (fun c112 => ?_)
  ·
   refine zD (zA hN34 rfl) ?_
   refine zB ?_
   refine hK63 _ _ (wp_cond_true (zA hN34 rfl) (zF fun K64 hK64 => ?_))
   refine zH ?_
   refine zG (zC hN34 rfl s34_11) ?_
   have hl0 : 0 < e.args.length := by have h9 := han zx; rw [argsN_two zx] at h9; omega
   refine zh slt23 (zA hN34 rfl) hO35.rdw rfl zx zx ?_
   intro b65 o66 h0b65 h1b65 hc67
   refine zN (v := (Value.int .i64 ((e.args.map (fun a => (kindX C K a).1)).getD 0 0))) one3 (zA hN34 rfl) (by have := hc67 0 (.int .i64 ((e.args.map (fun a => (kindX C K a).1)).getD 0 0)) zz (el_i64 (i := 0) zx zx); simpa using this) ?_
   skip
   refine zD (zA hN34 rfl) ?_
   refine zD rfl ?_
   refine zB ?_
   refine hK64 _ _ (zF fun K68 hK68 => ?_)
   refine zH ?_
   refine zG (zA hN34 rfl) ?_
   refine op_neq (zA hN34 rfl) rfl (fun c117 => ?_) (fun c117 => ?_)
   ·
    refine zG (zA hN34 rfl) ?_
    refine zS (j := 2) (dj := 118) (b := true) rfl rfl rfl (zA hN34 rfl) ?_
    refine zG (zA hN34 rfl) ?_
    refine zS (j := 2) (dj := 118) (b := true) rfl rfl rfl (zA hN34 rfl) ?_
    refine op_neq (zA hN34 rfl) rfl (fun c120 => ?_) (fun c120 => ?_)
    ·
     refine zc (zA hN34 rfl) (zA hN34 rfl) ?_
     refine zB ?_
     refine hK68 _ _ (wp_cond_true (zA hN34 rfl) (zF fun K69 hK69 => ?_))
     refine zH ?_
     refine zD rfl ?_
     refine zD rfl ?_
     refine zB ?_
     refine hK69 _ _ (wp_ret (zb (zO ( ?_))))
     refine ret2 rfl hd34 (zA hN34 rfl) (zA hN34 rfl) ⟨_, rfl, ?_⟩
     have hn9 : ¬ (e.args.length : Int) ≠ argsN e.op := by have h9 := han; omega
     have e9 : kindX C K e = (0, 11) := by rw [kindX_eq, if_neg hn9, if_neg (fun h => h hz9)]; exact ofX_bad zx
     rw [e9]; exact ⟨hb, rfl⟩
    refine zc (zA hN34 rfl) (zA hN34 rfl) ?_
    refine zB ?_
    refine hK68 _ _ (wp_cond_false (zA hN34 rfl) (wp_skip (hK61 _ _ ?_)))
    exact hJ58 _ _ _ hN34 hd34 ⟨((e.args.map (fun a => (kindX C K a).1)).getD 0 0), 3, (zL hN34 rfl s34_11), (zU hN34 rfl), (zU hN34 rfl), zx, (by unfold takesX; (repeat' split) <;> first | rfl | omega), (by unfold givesX; (repeat' split) <;> first | rfl | omega), hz9, hll, hb, zx, hC, hK, hR, hX, he, hB5, hO35⟩
   refine zG (zA hN34 rfl) ?_
   refine zR (j := 2) (dj := 118) (b := true) rfl rfl rfl (zA hN34 rfl) rfl rfl ?_
   refine zR (j := 2) (dj := 118) (b := true) rfl rfl rfl (zA hN34 rfl) rfl rfl ?_
   refine zd (zA hN34 rfl) rfl ?_
   refine zB ?_
   refine hK68 _ _ (wp_cond_false (zA hN34 rfl) (wp_skip (hK61 _ _ ?_)))
   exact hJ58 _ _ _ hN34 hd34 ⟨((e.args.map (fun a => (kindX C K a).1)).getD 0 0), 3, (zL hN34 rfl s34_11), (zU hN34 rfl), (zU hN34 rfl), zx, (by unfold takesX; (repeat' split) <;> first | rfl | omega), (by unfold givesX; (repeat' split) <;> first | rfl | omega), hz9, hll, hb, zx, hC, hK, hR, hX, he, hB5, hO35⟩
  refine zD (zA hN34 rfl) ?_
  refine zB ?_
  refine hK63 _ _ (wp_cond_false (zA hN34 rfl) (wp_skip (hK61 _ _ ?_)))
  exact hJ58 _ _ _ hN34 hd34 ⟨1, 1, (zL hN34 rfl s34_11), (zU hN34 rfl), (zU hN34 rfl), zx, (by unfold takesX; (repeat' split) <;> first | rfl | omega), (by unfold givesX; (repeat' split) <;> first | rfl | omega), hz9, hll, hb, zx, hC, hK, hR, hX, he, hB5, hO35⟩
 rintro a58 w58 hN58 hd58 ⟨mu, co, s58_11, s58_15, s58_16, hne, hmu, hco, hz9, hll, hb, zl_w58, hC, hK, hR, hX, he, hB5, hO59⟩
 have := hb.size
 refine zF fun K70 hK70 => ?_
 refine zF fun K71 hK71 => ?_
 refine zH ?_
 refine zD rfl ?_
 refine zB ?_
 refine hK71 _ _ (wp_block ?_)
 refine loop_m (fun mz_ az_ w' => ∃ (j : Nat), mz_ = e.args.length - j ∧ (az_.tmps.getD 11 undef = lv) ∧ (az_.tmps.getD 15 undef = (.int .i64 mu)) ∧ (az_.tmps.getD 16 undef = (.int .i64 co)) ∧ (az_.tmps.getD 17 undef = (.int .i64 ((j : Nat) : Int))) ∧ (j ≤ e.args.length) ∧ (∀ q, q < j → (e.args.map (fun a => (kindX C K a).1)).getD q 0 = mu) ∧ (Below w.heap.size w w') ∧ (w58.heap.size ≤ w'.heap.size) ∧ (RdC w' 0 w.heap.size 3 vc C.length (C.flatMap cellsI)) ∧ (RdC w' 0 w.heap.size 1 vk K.length (K.map (Value.int .i64))) ∧ (RdC w' 0 w.heap.size 7 e.av e.args.length (e.args.flatMap cellsX)) ∧ (XsRd w' w.heap.size e.av e.args) ∧ (XRd w' w.heap.size e) ∧ (Bx w' b3 28 [(.int .i64 e.op), (.int .i64 e.vk), (.int .i64 e.vi), (.string (bs e.vt)), (.string (bs e.tb)), (.string (bs e.nm)), e.av]) ∧ (Own w' w.heap.size 3 1 lv e.args.length ((e.args.map (fun a => (kindX C K a).1)).map (Value.int .i64)))) _ hN58 hd58 ⟨0, rfl, (zL hN58 rfl s58_11), (zL hN58 rfl s58_15), (zL hN58 rfl s58_16), (zU hN58 rfl), Nat.zero_le _, (fun _ h => absurd h (Nat.not_lt_zero _)), hb, (Nat.le_refl _), hC, hK, hR, hX, he, hB5, hO59⟩ ?_
 rintro _ a72 w72 hN72 hd72 ⟨j, rfl, s72_11, s72_15, s72_16, s72_17, hj, hall2, hb, zl_w72, hC, hK, hR, hX, he, hB5, hO59⟩
 have := hb.size
 refine zF fun K73 hK73 => ?_
 refine zF fun K74 hK74 => ?_
 refine zH ?_
 refine zG (zC hN72 rfl s72_17) ?_
 refine zG (zC hN72 rfl s72_11) ?_
 refine op_len_rd Try.underlying23 (zA hN72 rfl) hO59.rdw ?_
 refine op_lss (zA hN72 rfl) (zA hN72 rfl) (fun c125 => ?_) (fun c125 => ?_)
 ·
  refine zB ?_
  refine hK74 _ _ (wp_cond_true (zA hN72 rfl) (wp_skip (hK73 _ _ (zF fun K75 hK75 => ?_))))
  refine wp_block ?_
  refine zF fun K76 hK76 => ?_
  refine zH ?_
  refine zG (zC hN72 rfl s72_11) ?_
  refine zG (zC hN72 rfl s72_17) ?_
  refine zh slt23 (zA hN72 rfl) hO59.rdw (zA hN72 rfl) zx zx ?_
  intro b77 o78 h0b77 h1b77 hc79
  refine zN (v := (Value.int .i64 ((e.args.map (fun a => (kindX C K a).1)).getD j 0))) one3 (zA hN72 rfl) (by have := hc79 0 (.int .i64 ((e.args.map (fun a => (kindX C K a).1)).getD j 0)) zz (el_i64 (i := j) zx zx); simpa using this) ?_
  refine zG (zC hN72 rfl s72_15) ?_
  refine op_neq (zA hN72 rfl) (zA hN72 rfl) (fun c133 => ?_) (fun c133 => ?_)
  ·
   refine zB ?_
   refine hK76 _ _ (wp_cond_true (zA hN72 rfl) (zF fun K80 hK80 => ?_))
   refine zH ?_
   refine zD rfl ?_
   refine zD rfl ?_
   refine zB ?_
   refine hK80 _ _ (wp_ret (zb (zO (zO (zb (zO ( ?_)))))))
   refine ret2 rfl hd72 (zA hN72 rfl) (zA hN72 rfl) ⟨_, rfl, ?_⟩
   have hn9 : ¬ (e.args.length : Int) ≠ argsN e.op := by have h9 := han; omega
   have e9 : kindX C K e = (0, 11) := by rw [kindX_eq, if_neg hn9, if_neg (fun h => h hz9)]; exact ofX_no (i := j) hne.1 hne.2.1 hne.2.2 zx (hmu ▸ c133)
   rw [e9]; exact ⟨hb, rfl⟩
  refine zB ?_
  refine hK76 _ _ (wp_cond_false (zA hN72 rfl) (wp_skip (hK75 _ _ (zH ?_))))
  refine zG (zC hN72 rfl s72_17) ?_
  refine op_add (zA hN72 rfl) rfl (add64 zx) ?_
  refine zD (zA hN72 rfl) ?_
  refine zB ?_
  -- round 38F 42F 49F 53F 59F 79F 125T 133F
  exact zg _ hN72 hd72 ⟨(j + 1), rfl, (zL hN72 rfl s72_11), (zL hN72 rfl s72_15), (zL hN72 rfl s72_16), (zU hN72 rfl).trans (congrArg (Value.int .i64) zx), zx, (all_next hall2 c133), hb, zx, hC, hK, hR, hX, he, hB5, hO59⟩ zx
 refine zB ?_
 refine hK74 _ _ (wp_cond_false (zA hN72 rfl) (wp_exit (then_exit (then_exit (blk_hit ?_)))))
 refine hK70 _ _ (zF fun K81 hK81 => ?_)
 refine zH ?_
 refine zG (zC hN72 rfl s72_16) ?_
 refine zD (zA hN72 rfl) ?_
 refine zD rfl ?_
 refine zB ?_
 refine hK81 _ _ (wp_ret ?_)
 refine ret2 rfl hd72 (zA hN72 rfl) (zA hN72 rfl) ⟨_, rfl, ?_⟩
 have hn9 : ¬ (e.args.length : Int) ≠ argsN e.op := by have h9 := han; omega
 have e9 : kindX C K e = (co, 0) := by rw [kindX_eq, if_neg hn9, if_neg (fun h => h hz9)]; exact hco ▸ ofX_ok hne.1 hne.2.1 hne.2.2 fun q hq => hmu ▸ hall2 q zx
 rw [e9]; exact ⟨hb, rfl⟩

theorem KindQ_all : ∀ e, KindQ e := XE.ind fun e ih C K vc vk w h1 h2 hC hK he => KindQ_in C K vc vk e w ih h1 h2 hC hK he
end Go.Proofs.Ythflnkfghogaoaa

namespace Go.Gx
structure PCol where
  nm : List UInt8
  kind : Int
  ref : List UInt8
instance : Inhabited PCol := ⟨⟨[], 0, []⟩⟩
def cellsC (c : PCol) : List Value := [.string (bs c.nm), .int .i64 c.kind, .string (bs c.ref)]
theorem el_pc {l : List PCol} {e : Int} {i : Nat} (he : e = (i : Int)) (h : i < l.length) : ∀ j u, (cellsC (l.getD i default))[j]? = some u → (l.flatMap cellsC)[e.toNat * 3 + j]? = some u :=
  el_flat (f := cellsC) (d := default) (by decide) (fun _ _ => rfl) he h
structure StF where
  kind : Int
  tb : List UInt8
  nm : List UInt8
  cv : Value
  cols : List PCol
  gv : Value
  tags : List UInt16
  vv : Value
  vals : List XE
  iv : Value
  items : List PItm
  join : List UInt8
  ov : Value
  on : List XE
  wv : Value
  wh : List XE
  rv : Value
  ord : List XE
  desc : Bool
inductive XS where
  | mk (f : StF) (nv : Value) (inner : List XS)
namespace XS
def f : XS → StF | mk f _ _ => f
def nv : XS → Value | mk _ v _ => v
def inner : XS → List XS | mk _ _ l => l
end XS
def Nil0 : Value := .slice none 0 0
def StF0 : StF := ⟨0, [], [], Nil0, [], Nil0, [], Nil0, [], Nil0, [], [], Nil0, [], Nil0, [], Nil0, [], false⟩
instance : Inhabited XS := ⟨.mk StF0 Nil0 []⟩
def cellsS (s : XS) : List Value := [.int .i64 s.f.kind, .string (bs s.f.tb), .string (bs s.f.nm), s.f.cv, s.f.gv, s.f.vv, s.f.iv, .string (bs s.f.join), s.f.ov, s.f.wv, s.f.rv, .bool s.f.desc, s.nv]
theorem el_xs {l : List XS} {e : Int} {i : Nat} (he : e = (i : Int)) (h : i < l.length) : ∀ j u, (cellsS (l.getD i default))[j]? = some u → (l.flatMap cellsS)[e.toNat * 13 + j]? = some u :=
  el_flat (f := cellsS) (d := default) (by decide) (fun _ _ => rfl) he h
def FRd (w : World) (B : Nat) (f : StF) : Prop :=
  RdC w 0 B 3 f.cv f.cols.length (f.cols.flatMap cellsC) ∧ RdC w 0 B 1 f.gv f.tags.length (f.tags.map u16v) ∧ XsRd w B f.vv f.vals ∧ RdC w 0 B 3 f.iv f.items.length (f.items.flatMap cellsI) ∧ XsRd w B f.ov f.on ∧ XsRd w B f.wv f.wh ∧ XsRd w B f.rv f.ord
inductive SRd (w : World) (B : Nat) : XS → Prop
  | mk {s : XS} (hf : FRd w B s.f) (h : RdC w 0 B 13 s.nv s.inner.length (s.inner.flatMap cellsS)) (hs : ∀ a ∈ s.inner, SRd w B a) : SRd w B s
section
variable {w w' : World} {B B' : Nat} {f : StF} {s : XS} {row : Option Nat} {F : Nat → Prop}
theorem FRd.keep (h : FRd w B f) (E : w.grownBy w' row) (hne : ∀ k, row = some k → k < 0 ∨ B ≤ k) : FRd w' B f :=
  ⟨h.1.keep E hne, h.2.1.keep E hne, h.2.2.1.keep E hne, h.2.2.2.1.keep E hne, h.2.2.2.2.1.keep E hne, h.2.2.2.2.2.1.keep E hne, h.2.2.2.2.2.2.keep E hne⟩
theorem FRd.keepG (h : FRd w B f) (E : Gr w w' F) (hn : ∀ k, F k → k < 0 ∨ B ≤ k) : FRd w' B f :=
  ⟨h.1.keepG E hn, h.2.1.keepG E hn, h.2.2.1.keepG E hn, h.2.2.2.1.keepG E hn, h.2.2.2.2.1.keepG E hn, h.2.2.2.2.2.1.keepG E hn, h.2.2.2.2.2.2.keepG E hn⟩
theorem FRd.mono (h : FRd w B f) (hB : B ≤ B') : FRd w B' f :=
  ⟨h.1.mono (Nat.le_refl _) hB, h.2.1.mono (Nat.le_refl _) hB, h.2.2.1.mono hB, h.2.2.2.1.mono (Nat.le_refl _) hB, h.2.2.2.2.1.mono hB, h.2.2.2.2.2.1.mono hB, h.2.2.2.2.2.2.mono hB⟩
theorem SRd.keep (h : SRd w B s) (E : w.grownBy w' row) (hne : ∀ k, row = some k → k < 0 ∨ B ≤ k) : SRd w' B s := by
  induction h with | mk hf h _ ih => exact .mk (hf.keep E hne) (h.keep E hne) ih
theorem SRd.keepG (h : SRd w B s) (E : Gr w w' F) (hn : ∀ k, F k → k < 0 ∨ B ≤ k) : SRd w' B s := by
  induction h with | mk hf h _ ih => exact .mk (hf.keepG E hn) (h.keepG E hn) ih
theorem SRd.mono (h : SRd w B s) (hB : B ≤ B') : SRd w B' s := by
  induction h with | mk hf h _ ih => exact .mk (hf.mono hB) (h.mono (Nat.le_refl _) hB) ih
theorem SRd.ff (h : SRd w B s) : FRd w B s.f := by cases h with | mk hf _ _ => exact hf
theorem SRd.rd (h : SRd w B s) : RdC w 0 B 13 s.nv s.inner.length (s.inner.flatMap cellsS) := by cases h with | mk _ h _ => exact h
theorem SRd.all (h : SRd w B s) : ∀ a ∈ s.inner, SRd w B a := by cases h with | mk _ _ h => exact h
end
theorem XS.ind {P : XS → Prop} (h : ∀ s, (∀ a ∈ s.inner, P a) → P s) : ∀ s, P s := by
  intro s
  refine XS.rec (motive_1 := P) (motive_2 := fun l => ∀ a ∈ l, P a) (fun f nv inner ih => h _ ih) (fun a ha => (by cases ha)) (fun e l h1 h2 a ha => ?_) s
  rcases List.mem_cons.1 ha with rfl | ha
  · exact h1
  · exact h2 a ha
/-! which statements may be done -/
structure PTab where
  nm : List UInt8
  cols : List PCol
  idx : List (List UInt8)
instance : Inhabited PTab := ⟨⟨[], [], []⟩⟩
def tabAt (T : List PTab) (nm : List UInt8) : Option PTab := T.find? fun t => decide (t.nm = nm)
def colsOf (tb : List UInt8) (l : List PCol) : List PItm := l.map fun c => ⟨0, tb, c.nm⟩
def kindsOf (l : List PCol) : List Int := l.map PCol.kind
def colIx (l : List PCol) (nm : List UInt8) : Int := match l.findIdx? fun c => decide (c.nm = nm) with | some i => i | none => -1
def colsOk (l : List XE) : Bool := l.all fun e => decide (e.op = 2) && decide (e.args.length = 0)
def listsOk (f : StF) (n : Nat) : Bool :=
  if f.kind = 6 then decide (f.wh.length ≤ 1) && decide (f.ord.length ≤ 1) && decide (f.on.length = if f.join = [] then 0 else 2) && colsOk f.on && colsOk f.ord
  else if f.kind = 7 then decide (f.wh.length ≤ 1) && decide (f.vals.length = 1)
  else if f.kind = 8 then decide (f.wh.length ≤ 1)
  else if f.kind = 3 ∨ f.kind = 4 then decide (n = 1)
  else decide (1 ≤ f.kind) && decide (f.kind ≤ 13)
def insE (t : PTab) (f : StF) : Int :=
  if f.vals.length ≠ t.cols.length then 7 else firstE ((List.range f.vals.length).map fun i => mustX [] [] (f.vals.getD i default) (t.cols.getD i default).kind)
def itemE (C : List PItm) (K : List Int) (x : PItm) : Int :=
  if x.agg < 0 ∨ 4 < x.agg ∨ (x.agg = 1 ∧ x.nm ≠ []) then 1 else if x.agg = 1 then 0 else if (colAt C K x.tb x.nm).2 ≠ 0 then (colAt C K x.tb x.nm).2 else if x.agg = 2 ∧ (colAt C K x.tb x.nm).1 = 2 then 11 else 0
def aggsN (l : List PItm) : Nat := l.countP fun x => decide (x.agg ≠ 0)
def selE (f : StF) (C : List PItm) (K : List Int) : Int :=
  if firstE (f.items.map (itemE C K)) ≠ 0 then firstE (f.items.map (itemE C K))
  else if 0 < aggsN f.items ∧ (aggsN f.items < f.items.length ∨ 0 < f.ord.length) then 11
  else if whereX C K f.wh ≠ 0 then whereX C K f.wh
  else firstE (f.ord.map fun e => (colAt C K e.tb e.nm).2)
def onE (C : List PItm) (K : List Int) (l : List XE) : Int := if (kindX C K (l.getD 0 default)).2 ≠ 0 then (kindX C K (l.getD 0 default)).2 else mustX C K (l.getD 1 default) (kindX C K (l.getD 0 default)).1
def selsE (T : List PTab) (f : StF) : Int :=
  match tabAt T f.tb with
  | none => 9
  | some t => if f.join = [] then selE f (colsOf f.tb t.cols) (kindsOf t.cols) else
    match tabAt T f.join with
    | none => 9
    | some u => if f.join = f.tb then 12 else if onE (colsOf f.tb t.cols ++ colsOf f.join u.cols) (kindsOf t.cols ++ kindsOf u.cols) f.on ≠ 0 then onE (colsOf f.tb t.cols ++ colsOf f.join u.cols) (kindsOf t.cols ++ kindsOf u.cols) f.on
      else selE f (colsOf f.tb t.cols ++ colsOf f.join u.cols) (kindsOf t.cols ++ kindsOf u.cols)
def updE (t : PTab) (f : StF) : Int :=
  if colIx t.cols f.nm < 0 then 10 else if colIx t.cols f.nm = 0 ∨ (t.cols.getD (colIx t.cols f.nm).toNat default).ref ≠ [] then 24
  else if mustX (colsOf f.tb t.cols) (kindsOf t.cols) (f.vals.getD 0 default) (t.cols.getD (colIx t.cols f.nm).toNat default).kind ≠ 0 then mustX (colsOf f.tb t.cols) (kindsOf t.cols) (f.vals.getD 0 default) (t.cols.getD (colIx t.cols f.nm).toNat default).kind
  else whereX (colsOf f.tb t.cols) (kindsOf t.cols) f.wh
def flatE (T : List PTab) (D : List (List UInt8)) (f : StF) : Int :=
  if f.kind = 5 then (match tabAt T f.tb with | none => 9 | some t => insE t f)
  else if f.kind = 6 then selsE T f
  else if f.kind = 7 then (match tabAt T f.tb with | none => 9 | some t => updE t f)
  else if f.kind = 8 then (match tabAt T f.tb with | none => 9 | some t => whereX (colsOf f.tb t.cols) (kindsOf t.cols) f.wh)
  else if f.kind = 13 then (if f.nm ∈ D then 0 else 22)
  else 0
mutual
def checkE (T : List PTab) (D : List (List UInt8)) : XS → Int
  | .mk f _ inner => if listsOk f inner.length = false then 1 else if f.kind = 3 ∨ f.kind = 4 then checkH T D inner else flatE T D f
def checkH (T : List PTab) (D : List (List UInt8)) : List XS → Int
  | [] => 1
  | s :: _ => checkE T D s
end
theorem checkE_eq (T : List PTab) (D : List (List UInt8)) (s : XS) : checkE T D s = if listsOk s.f s.inner.length = false then 1 else if s.f.kind = 3 ∨ s.f.kind = 4 then checkE T D (s.inner.getD 0 default) else flatE T D s.f := by
  cases s with
  | mk f nv inner =>
    show checkE T D (.mk f nv inner) = if listsOk f inner.length = false then 1 else if f.kind = 3 ∨ f.kind = 4 then checkE T D (inner.getD 0 default) else flatE T D f
    rw [checkE]
    by_cases h : listsOk f inner.length = false
    · rw [if_pos h, if_pos h]
    · rw [if_neg h, if_neg h]
      by_cases hk : f.kind = 3 ∨ f.kind = 4
      · rw [if_pos hk, if_pos hk]
        cases inner with
        | nil =>
          exfalso; apply h; unfold listsOk
          rw [if_neg (by omega), if_neg (by omega), if_neg (by omega), if_pos hk]; rfl
        | cons s l => simp only [checkH, List.getD_cons_zero]
      · rw [if_neg hk, if_neg hk]
end Go.Gx

namespace Go.Gx
structure DTab where
  t : PTab
  cv : Value
  iv : Value
instance : Inhabited DTab := ⟨⟨⟨[], [], []⟩, .slice none 0 0, .slice none 0 0⟩⟩
def cellsT (d : DTab) : List Value := [.string (bs d.t.nm), d.cv, d.iv]
theorem el_dt {l : List DTab} {e : Int} {i : Nat} (he : e = (i : Int)) (h : i < l.length) : ∀ j u, (cellsT (l.getD i default))[j]? = some u → (l.flatMap cellsT)[e.toNat * 3 + j]? = some u :=
  el_flat (f := cellsT) (d := default) (by decide) (fun _ _ => rfl) he h
def TRd (w : World) (B : Nat) (d : DTab) : Prop := RdC w 0 B 3 d.cv d.t.cols.length (d.t.cols.flatMap cellsC) ∧ RdC w 0 B 1 d.iv d.t.idx.length (d.t.idx.map sv)
def TsRd (w : World) (B : Nat) (v : Value) (D : List DTab) : Prop := RdC w 0 B 3 v D.length (D.flatMap cellsT) ∧ ∀ d ∈ D, TRd w B d
section
variable {w w' : World} {B B' base b t e sz n : Nat} {D : List DTab} {v : Value} {row : Option Nat} {F G : Nat → Prop} {cs : List Value}
theorem TsRd.keep (h : TsRd w B v D) (E : w.grownBy w' row) (hne : ∀ k, row = some k → k < 0 ∨ B ≤ k) : TsRd w' B v D := ⟨h.1.keep E hne, fun a ha => ⟨(h.2 a ha).1.keep E hne, (h.2 a ha).2.keep E hne⟩⟩
theorem TsRd.keep0 (h : TsRd w B v D) (E : w.grownBy w' none) : TsRd w' B v D := h.keep E (by simp)
theorem TsRd.keepG (h : TsRd w B v D) (E : Gr w w' F) (hn : ∀ k, F k → k < 0 ∨ B ≤ k) : TsRd w' B v D := ⟨h.1.keepG E hn, fun a ha => ⟨(h.2 a ha).1.keepG E hn, (h.2 a ha).2.keepG E hn⟩⟩
theorem TsRd.keepO {u : Value} {ws : List Value} (h : TsRd w B v D) (O : Own w base e sz u n ws) (E : w.grownBy w' u.ownBlock) (hne : B ≤ base) : TsRd w' B v D :=
  h.keep E fun k hk => .inr (Nat.le_trans hne (O.lt k hk).1)
theorem TsRd.mono (h : TsRd w B v D) (hB : B ≤ B') : TsRd w B' v D := ⟨h.1.mono (Nat.le_refl _) hB, fun a ha => ⟨(h.2 a ha).1.mono (Nat.le_refl _) hB, (h.2 a ha).2.mono (Nat.le_refl _) hB⟩⟩
def TabsR (w : World) (base : Nat) (D : List DTab) (F : Nat → Prop) : Prop :=
  (∀ d ∈ D, Own w base 68 3 d.cv d.t.cols.length (d.t.cols.flatMap cellsC) ∧ Own w base 9 1 d.iv d.t.idx.length (d.t.idx.map sv)) ∧ ∀ x, F x ↔ ∃ d ∈ D, Bl d.cv x ∨ Bl d.iv x
theorem TabsR.lt (h : TabsR w base D F) : ∀ x, F x → base ≤ x ∧ x < w.heap.size := fun x hx => by
  obtain ⟨d, hd, hx⟩ := (h.2 x).1 hx
  rcases hx with hx | hx
  · exact (h.1 d hd).1.lt x hx
  · exact (h.1 d hd).2.lt x hx
theorem TabsR.keepG (h : TabsR w base D F) (E : Gr w w' G) (hd : Dj F G) : TabsR w' base D F :=
  ⟨fun d hm => ⟨(h.1 d hm).1.keepG E fun x hx => hd x ((h.2 x).2 ⟨d, hm, .inl hx⟩), (h.1 d hm).2.keepG E fun x hx => hd x ((h.2 x).2 ⟨d, hm, .inr hx⟩)⟩, h.2⟩
theorem TabsR.kz (h : TabsR w base D F) (E : w.grownBy w' none) : TabsR w' base D F := h.keepG (Gr.of0 E NoB) (fun _ _ h => h)
theorem TabsR.nil (w : World) (base : Nat) : TabsR w base [] NoB := ⟨fun _ h => (by cases h), fun x => ⟨fun h => h.elim, fun ⟨_, h, _⟩ => (by cases h)⟩⟩
theorem TabsR.mono {base' : Nat} (h : TabsR w base D F) (hb : base' ≤ base) : TabsR w base' D F := ⟨fun d hm => ⟨(h.1 d hm).1.mono hb, (h.1 d hm).2.mono hb⟩, h.2⟩
theorem TabsR.snoc {d : DTab} (h : TabsR w base D F) (h1 : Own w base 68 3 d.cv d.t.cols.length (d.t.cols.flatMap cellsC)) (h2 : Own w base 9 1 d.iv d.t.idx.length (d.t.idx.map sv)) : TabsR w base (D ++ [d]) (fun x => F x ∨ Bl d.cv x ∨ Bl d.iv x) := by
  refine ⟨fun a ha => ?_, fun x => ⟨fun hx => ?_, fun hx => ?_⟩⟩
  · rcases List.mem_append.1 ha with ha | ha
    · exact h.1 a ha
    · rw [List.mem_singleton] at ha; subst ha; exact ⟨h1, h2⟩
  · rcases hx with hx | hx
    · obtain ⟨a, ha, hx⟩ := (h.2 x).1 hx
      exact ⟨a, by simp [ha], hx⟩
    · exact ⟨d, by simp, hx⟩
  · obtain ⟨a, ha, hx⟩ := hx
    rcases List.mem_append.1 ha with ha | ha
    · exact .inl ((h.2 x).2 ⟨a, ha, hx⟩)
    · rw [List.mem_singleton] at ha; subst ha; exact .inr hx
theorem TabsR.notBx (h : TabsR w base D F) (B : Bx w b t cs) (h1 : t ≠ 68) (h2 : t ≠ 9) : ¬ F b := fun hf => by
  obtain ⟨d, hd, hf⟩ := (h.2 b).1 hf
  rcases hf with hf | hf
  · exact (h.1 d hd).1.neB B h1 hf
  · exact (h.1 d hd).2.neB B h2 hf
theorem TabsR.notOwn {base2 : Nat} (h : TabsR w base D F) (O : Own w base2 e sz v n cs) (h1 : e ≠ 68) (h2 : e ≠ 9) : Dj (Bl v) F := fun x hx hf => by
  obtain ⟨d, hd, hf⟩ := (h.2 x).1 hf
  rcases hf with hf | hf
  · exact O.notOwn (h.1 d hd).1 h1 x hx hf
  · exact O.notOwn (h.1 d hd).2 h2 x hx hf
end
theorem one_flat {α : Type} {f : α → List Value} (h : ∀ x, (f x).all Value.oneCell' = true) (l : List α) : (l.flatMap f).all Value.oneCell' = true := by
  rw [List.all_eq_true]; intro v hv
  obtain ⟨x, _, hx⟩ := List.mem_flatMap.1 hv
  exact (List.all_eq_true.1 (h x)) v hx
theorem one_pc (l : List PCol) : (l.flatMap cellsC).all Value.oneCell' = true := one_flat (fun _ => rfl) l
theorem one_pi (l : List PItm) : (l.flatMap cellsI).all Value.oneCell' = true := one_flat (fun _ => rfl) l
def ixOf {α : Type} (p : α → Bool) (L : List α) : Int := match L.findIdx? p with | some i => i | none => -1
theorem ixOf_hit {α : Type} [Inhabited α] {p : α → Bool} {L : List α} {i : Nat} (hi : i < L.length) (h : ∀ j, j < i → p (L.getD j default) = false) (hx : p (L.getD i default) = true) : ixOf p L = i := by
  unfold ixOf
  have : L.findIdx? p = some i := by
    rw [List.findIdx?_eq_some_iff_getElem]
    refine ⟨hi, by simpa [List.getD_eq_getElem?_getD, hi] using hx, fun j hj => ?_⟩
    have := h j hj
    simpa [List.getD_eq_getElem?_getD, show j < L.length by omega] using this
  rw [this]
theorem ixOf_none {α : Type} [Inhabited α] {p : α → Bool} {L : List α} {i : Nat} (hi : L.length ≤ i) (h : ∀ j, j < i → p (L.getD j default) = false) : ixOf p L = -1 := by
  unfold ixOf
  have : L.findIdx? p = none := by
    rw [List.findIdx?_eq_none_iff]
    intro x hx
    obtain ⟨j, hj, rfl⟩ := List.mem_iff_getElem.1 hx
    have := h j (by omega)
    simpa [List.getD_eq_getElem?_getD, hj] using this
  rw [this]
theorem ixOf_cases {α : Type} [Inhabited α] (p : α → Bool) (L : List α) : (ixOf p L = -1 ∧ L.find? p = none) ∨ ∃ i : Nat, ixOf p L = i ∧ i < L.length ∧ p (L.getD i default) = true ∧ L.find? p = some (L.getD i default) := by
  unfold ixOf
  cases h : L.findIdx? p with
  | none =>
    refine .inl ⟨rfl, ?_⟩
    rw [List.findIdx?_eq_none_iff] at h
    exact List.find?_eq_none.2 fun x hx => by rw [h x hx]; simp
  | some i =>
    rw [List.findIdx?_eq_some_iff_getElem] at h
    obtain ⟨hi, hx, hn⟩ := h
    have e : L.getD i default = L[i] := by simp [List.getD_eq_getElem?_getD, hi]
    refine .inr ⟨i, rfl, hi, by rw [e]; exact hx, ?_⟩
    rw [e, List.find?_eq_some_iff_getElem]
    exact ⟨hx, i, hi, rfl, fun j hj => by simp [hn j hj]⟩
def LookR (w : World) (base l : Nat) (tv vv : Value) (C : List PItm) (K : List Int) (F : Nat → Prop) : Prop :=
  ∃ cv kv, base ≤ l ∧ Bx w l 92 [tv, vv, cv, kv] ∧ Own w base 63 3 cv C.length (C.flatMap cellsI) ∧ Own w base 3 1 kv K.length (K.map (Value.int .i64)) ∧ ∀ x, F x ↔ x = l ∨ Bl cv x ∨ Bl kv x
section
variable {w w' : World} {base b t e sz n l : Nat} {C : List PItm} {K : List Int} {v tv vv : Value} {F G : Nat → Prop} {cs : List Value}
theorem LookR.lt (h : LookR w base l tv vv C K F) : ∀ x, F x → base ≤ x ∧ x < w.heap.size := fun x hx => by
  obtain ⟨cv, kv, h0, hx', O, P, hF⟩ := h
  rcases (hF x).1 hx with rfl | hx | hx
  · exact ⟨h0, hx'.lt⟩
  · exact O.lt x hx
  · exact P.lt x hx
theorem LookR.keepG (h : LookR w base l tv vv C K F) (E : Gr w w' G) (hd : Dj F G) : LookR w' base l tv vv C K F := by
  obtain ⟨cv, kv, h0, hx, O, P, hF⟩ := h
  exact ⟨cv, kv, h0, hx.keepG E (hd l ((hF l).2 (.inl rfl))), O.keepG E fun x hx => hd x ((hF x).2 (.inr (.inl hx))), P.keepG E fun x hx => hd x ((hF x).2 (.inr (.inr hx))), hF⟩
theorem LookR.kz (h : LookR w base l tv vv C K F) (E : w.grownBy w' none) : LookR w' base l tv vv C K F := h.keepG (Gr.of0 E NoB) (fun _ _ h => h)
theorem LookR.notOwn {base2 : Nat} (h : LookR w base l tv vv C K F) (O2 : Own w base2 e sz v n cs) (h1 : e ≠ 92) (h2 : e ≠ 63) (h3 : e ≠ 3) : Dj (Bl v) F := fun x hx2 hf => by
  obtain ⟨cv, kv, h0, hx, O, P, hF⟩ := h
  rcases (hF x).1 hf with rfl | hf | hf
  · exact O2.neB hx (fun e => h1 e.symm) hx2
  · exact O2.notOwn O h2 x hx2 hf
  · exact O2.notOwn P h3 x hx2 hf
end
end Go.Gx

namespace Go.Gx
open Go.RowKit
section
variable {P : Program} {Q : Exit → Act → World → Prop} {a : Act} {w : World} {l : List (Nat × Value)} {ops : Array Oper} {rest : List Oper}
variable {d ty xt i : Nat} {p : String} {x : Operand} {v v0 : Value}
theorem op_fieldv {af} (hx : (putsL a l).eval x = v0) (hf : (Instr.field xt v0 i).run P w = .ok v w) (h : wpList P ops Q rest (putsL a ((d, v) :: l)) w) :
    wpList P ops Q (⟨some d, .field xt x i, ty, p, af, none⟩ :: rest) (putsL a l) w :=
  op_gen rfl (by simp [execOp, hx, hf]) h
end
end Go.Gx
namespace Go.Gx
open Go.RowKit
end Go.Gx

namespace Go.Gx
open Go.RowKit
section
variable {P : Program} {ol : List Oper} {Q : Exit → Act → World → Prop} {Φ : Nat → Value → World → Prop} {C : Nat → Value → World → Prop} {ch : Chain} {R : World → World → Prop} {a0 : Act} {N : Nat}
theorem any_mid0 (hlex : lexB' ol = true) (hdn : dstNB ol N = true) (hdst : dstsB ol = true) (hch : ch.okB ol = true)
    (hRr : ∀ w, R w w) (hRt : ∀ w1 w2 w3, R w1 w2 → R w2 w3 → R w1 w3) (hR0 : ∀ w1 w2, w1.grownBy w2 none → R w1 w2)
    (hΦ : ∀ j u w1 w2, R w1 w2 → Φ j u w1 → Φ j u w2) (hC : ∀ c u w1 w2, w1.grownBy w2 none → C c u w1 → C c u w2)
    {l : List (Nat × Value)} {w : World} (hN : a0.tmps.size = N) (hC0 : C 0 ((putsL a0 l).tmps.getD (ch.slot 0) undef) w)
    (obN : ∀ i o, ol[i]? = some o → ch.has i = false → ObM P ol Φ C ch (putsL a0 l) N w R i o) (obC : ∀ c i o, ch.ops[c]? = some i → ol[i]? = some o → ObC P ol Φ C ch (putsL a0 l) N w R c i o)
    (fin : ∀ a' w', a'.tmps.size = N → a'.defers = a0.defers → (∀ t, (ol.all fun o => o.dst != some t) = true → a'.tmps.getD t undef = (putsL a0 l).tmps.getD t undef) →
      (∀ j oj d, ol[j]? = some oj → oj.dst = some d → Φ j (a'.tmps.getD d undef) w') → C ch.ops.length (a'.tmps.getD (ch.slot ch.ops.length) undef) w' → R w w' → Q .normal (putsL a' []) w') :
    RegAny P ol Q (putsL a0 l) w := by
  have hd : w.grownBy { w with drawn := w.drawn + 1 } none := ⟨rfl, rfl, rfl, Nat.le_refl _, fun _ _ _ => rfl⟩
  have I : RInv ol Φ C ch (putsL a0 l) N w R (Array.replicate ol.length false) 0 (putsL a0 l) { w with drawn := w.drawn + 1 } := by
    refine ⟨slN hN, rfl, fun _ _ => rfl, fun j o d hj hl => ?_, fun j o hj hl => ?_, by simp, Nat.zero_le _, fun m i hm => ?_, hC _ _ _ _ hd hC0, hR0 _ _ hd⟩
    · have : j < ol.length := (List.getElem?_eq_some_iff.1 hj).1
      simp [Array.getD_eq_getD_getElem?, this] at hl
    · have : j < ol.length := (List.getElem?_eq_some_iff.1 hj).1
      simp [Array.getD_eq_getD_getElem?, this] at hl
    · have h3 : i < ol.length := by
        have hch' := hch
        simp only [Chain.okB, Bool.and_eq_true] at hch'
        have := List.all_eq_true.1 hch'.1.2 i (List.mem_of_getElem? hm)
        simpa [Nat.blt_eq] using this
      simp [Array.getD_eq_getD_getElem?, h3]
  have := region_mid_steps (P := P) (Q := Q) hlex hdn hdst hch w hRt hR0 hΦ hC obN obC (fun a' w' J => fin a' w' J.size (by rw [J.defers, putsL_defers]) (fun t ht => J.base t fun j o hj _ hd => by
      have := List.all_eq_true.1 ht o (List.mem_of_getElem? hj)
      simp [hd] at this) (fun j oj d hj hd => J.phi j oj d hj (by
        have : j < ol.length := (List.getElem?_eq_some_iff.1 hj).1
        simp [Array.getD_eq_getD_getElem?, this]) hd) J.chainC J.rel) ol.length (Array.replicate ol.length false) 0 _ _ I (Nat.le_trans (List.countP_le_length) (by simp))
  exact this
end
section
variable {P : Program} {ol : List Oper} {Q : Exit → Act → World → Prop} {Φ : Nat → Value → Prop} {G : World → Prop} {a0 : Act} {N : Nat}
end
end Go.Gx

namespace Go.Gx
open Go.RowKit
section
variable {P : Program} {ol : List Oper} {Q : Exit → Act → World → Prop} {E : Type} {Φ : E → Nat → Value → Prop} {C : E → Nat → World → Prop} {ch : Chain} {a0 : Act} {N : Nat}
def ObNE (P : Program) (ol : List Oper) (Φ : E → Nat → Value → Prop) (C : E → Nat → World → Prop) (a0 : Act) (N : Nat) (i : Nat) (o : Oper) : Prop :=
  ∀ (e : E) (a : Act) (w : World) (c : Nat), a.tmps.size = N → C e c w → (∀ t, safeB ol i t = true → a.tmps.getD t undef = a0.tmps.getD t undef) → (∀ j oj d, depB ol i j = true → ol[j]? = some oj → oj.dst = some d → Φ e j (a.tmps.getD d undef)) →
    wpList P ol.toArray (fun ex a' w' => ex = .normal ∧ (∃ d v, o.dst = some d ∧ a' = putsL a [(d, v)] ∧ Φ e i v) ∧ w.grownBy w' none) [o] (putsL a []) w
def ObCE (P : Program) (ol : List Oper) (Φ : E → Nat → Value → Prop) (C : E → Nat → World → Prop) (a0 : Act) (N : Nat) (c i : Nat) (o : Oper) : Prop :=
  ∀ (e : E) (a : Act) (w : World), a.tmps.size = N → (∀ t, safeB ol i t = true → a.tmps.getD t undef = a0.tmps.getD t undef) → (∀ j oj d, depB ol i j = true → ol[j]? = some oj → oj.dst = some d → Φ e j (a.tmps.getD d undef)) → C e c w →
    wpList P ol.toArray (fun ex a' w' => ex = .normal ∧ ∃ e', (∀ j u, Φ e j u → Φ e' j u) ∧ ((o.dst = none ∧ a' = a) ∨ ∃ d v, o.dst = some d ∧ a' = putsL a [(d, v)] ∧ Φ e' i v) ∧ C e' (c + 1) w') [o] (putsL a []) w
theorem region_env_steps (hlex : lexB' ol = true) (hdn : dstNB ol N = true) (hdst : dstsB ol = true) (hch : ch.okB ol = true) (w0 : World)
    (hC : ∀ e c w1 w2, w1.grownBy w2 none → C e c w1 → C e c w2)
    (obN : ∀ i o, ol[i]? = some o → ch.has i = false → ObNE P ol Φ C a0 N i o) (obC : ∀ c i o, ch.ops[c]? = some i → ol[i]? = some o → ObCE P ol Φ C a0 N c i o)
    (fin : ∀ a w e, RInv ol (fun j u _ => Φ e j u) (fun c _ w => C e c w) ch a0 N w0 (fun _ _ => True) (Array.replicate ol.length true) ch.ops.length a w → Q .normal a w) :
    ∀ (fuel : Nat) (listed : Array Bool) (c : Nat) (a : Act) (w : World) (e : E), RInv ol (fun j u _ => Φ e j u) (fun c _ w => C e c w) ch a0 N w0 (fun _ _ => True) listed c a w → (List.range ol.length).countP (fun i => !listed.getD i true) ≤ fuel → wpAny P .any ol.toArray Q fuel listed a w := by
  have hch' := hch
  simp only [Chain.okB, Bool.and_eq_true] at hch'
  obtain ⟨⟨⟨hc1, hc2⟩, hc3⟩, hc4⟩ := hch'
  have done : ∀ (listed : Array Bool) (c : Nat) (a : Act) (w : World) (e : E), RInv ol (fun j u _ => Φ e j u) (fun c _ w => C e c w) ch a0 N w0 (fun _ _ => True) listed c a w → Region.ready .any ol.toArray listed = [] → Q .normal a w := by
    intro listed c a w ee I hr
    have hall : ∀ i, i < ol.length → listed.getD i true = true := by
      intro i
      induction i using Nat.strongRecOn with
      | _ i ih =>
        intro hi
        by_cases hq : listed.getD i true = true
        · exact hq
        · exfalso
          have hm : i ∈ Region.ready .any ol.toArray listed := by
            rw [mem_ready]
            refine ⟨by simpa using hq, ol[i], by simp [hi], fun e he hb => ?_⟩
            have h1 := List.all_eq_true.1 hlex i (by simp [hi])
            simp only [List.getElem?_eq_getElem hi, Array.all_eq_true_iff_forall_mem, Bool.or_eq_true, Bool.not_eq_true', Nat.blt_eq] at h1
            have h2 := (h1 e he).resolve_left (by simp [hb])
            exact getD_true_lt (ih e.on h2 (by omega)) (by rw [I.lsize]; omega)
          rw [hr] at hm
          cases hm
    have hl : listed = Array.replicate ol.length true := by
      apply Array.ext
      · simp [I.lsize]
      · intro i h1 h2
        have := hall i (by simpa using h2)
        simp [Array.getD_eq_getD_getElem?, h1] at this
        simp [this]
    have hcc : c = ch.ops.length := by
      rcases Nat.lt_or_ge c ch.ops.length with h | h
      · exfalso
        have h1 := (I.chain c ch.ops[c] (by simp [h])).1 (hall _ (by
          have := List.all_eq_true.1 hc3 ch.ops[c] (List.getElem_mem h)
          simpa [Nat.blt_eq] using this))
        omega
      · exact Nat.le_antisymm I.cle h
    subst hl; subst hcc
    exact fin a w ee I
  intro fuel
  induction fuel with
  | zero =>
    intro listed c a w ee I hcnt
    have hr : Region.ready .any ol.toArray listed = [] := by
      rw [List.eq_nil_iff_forall_not_mem]
      intro i hi
      obtain ⟨h1, o, ho, _⟩ := mem_ready.1 hi
      have hlt : i < ol.length := by simpa using (Array.getElem?_eq_some_iff.1 ho).1
      have hz : (List.range ol.length).countP (fun i => !listed.getD i true) = 0 := by omega
      rw [List.countP_eq_zero] at hz
      exact hz i (by simp [hlt]) (by simp [h1])
    exact ⟨hr, done listed c a w ee I hr⟩
  | succ fuel ih =>
    intro listed c a w ee I hcnt
    refine ⟨fun hr => done listed c a w ee I hr, fun i hi => ?_⟩
    obtain ⟨hun, o, ho, hwait⟩ := mem_ready.1 hi
    have ho' : ol[i]? = some o := by simpa using ho
    have hlt : i < ol.length := (List.getElem?_eq_some_iff.1 ho').1
    have hls : i < listed.size := by rw [I.lsize]; exact hlt
    have hcnt' : (List.range ol.length).countP (fun j => !(listed.setIfInBounds i true).getD j true) ≤ fuel := by
      have : (List.range ol.length).countP (fun j => !(listed.setIfInBounds i true).getD j true) < (List.range ol.length).countP (fun j => !listed.getD j true) := by
        refine countP_lt _ _ (fun y hy => ?_) _ i (by simp [hlt]) (by simp [hun]) (by simp [Array.getD_eq_getD_getElem?, hls])
        by_cases hiy : i = y
        · subst hiy; simp [Array.getD_eq_getD_getElem?, hls] at hy
        · rwa [getD_set_ne true hiy] at hy
      omega
    have hbase : ∀ t, safeB ol i t = true → a.tmps.getD t undef = a0.tmps.getD t undef := by
      intro t ht
      refine I.base t fun j oj hj hlj hd => ?_
      have h1 := List.all_eq_true.1 ht oj (List.mem_of_getElem? hj)
      simp only [Bool.or_eq_true, bne_iff_ne, ne_eq, Array.any_eq_true, Bool.and_eq_true, beq_iff_eq] at h1
      rcases h1 with h1 | ⟨q, hq, h1, h2⟩
      · exact h1 hd
      · have := getD_of_false (I.closed j oj hj hlj _ (Array.getElem_mem hq) h2)
        rw [h1, hun] at this
        cases this
    have hdep : ∀ j oj d, depB ol i j = true → ol[j]? = some oj → oj.dst = some d → Φ ee j (a.tmps.getD d undef) := by
      intro j oj d hj hoj hd
      obtain ⟨e, he, h1, h2⟩ := depB_spec ho' hj
      exact I.phi j oj d hoj (getD_of_false (by rw [← h1]; exact hwait e he h2)) hd
    have hset : ∀ j, j ≠ i → (listed.setIfInBounds i true).getD j true = listed.getD j true := fun j hj => getD_set_ne true (Ne.symm hj)
    have hseti : (listed.setIfInBounds i true).getD i true = true := by simp [Array.getD_eq_getD_getElem?, hls]
    have hclosed : ∀ j oj, ol[j]? = some oj → (listed.setIfInBounds i true).getD j true = true → ∀ e ∈ oj.after, Region.binds .any e = true → (listed.setIfInBounds i true).getD e.on false = true := by
      intro j oj hoj hlj e he hb
      refine getD_set_true ?_
      by_cases hji : j = i
      · subst hji
        rw [ho'] at hoj; cases hoj
        exact hwait e he hb
      · rw [hset j hji] at hlj
        exact I.closed j oj hoj hlj e he hb
    have hne : ∀ j oj d, ol[j]? = some oj → j ≠ i → o.dst = some d → oj.dst ≠ some d := by
      intro j oj d hoj hji hd hd'
      have hj : j < ol.length := (List.getElem?_eq_some_iff.1 hoj).1
      have h1 := List.all_eq_true.1 (List.all_eq_true.1 hdst i (by simp [hlt])) j (by simp [hj])
      simp only [ho', hoj, Bool.or_eq_true, beq_iff_eq, bne_iff_ne, ne_eq] at h1
      rcases h1 with h1 | h1 | h1
      · exact hji h1.symm
      · exact h1 (by rw [hd, hd'])
      · rw [hd] at h1; cases h1
    -- what is left of the frame, behind a value in slot d
    have hframe : ∀ d v (e' : E), o.dst = some d → (∀ j u, Φ ee j u → Φ e' j u) → Φ e' i v → 
        (∀ t, (∀ j oj, ol[j]? = some oj → (listed.setIfInBounds i true).getD j true = true → oj.dst ≠ some t) → (putsL a [(d, v)]).tmps.getD t undef = a0.tmps.getD t undef) ∧
        (∀ j oj d', ol[j]? = some oj → (listed.setIfInBounds i true).getD j true = true → oj.dst = some d' → Φ e' j ((putsL a [(d, v)]).tmps.getD d' undef)) := by
      intro d v e' hd hR hv
      have hdN : d < a.tmps.size := by
        have h1 := List.all_eq_true.1 hdn o (List.mem_of_getElem? ho')
        simp only [hd, Nat.blt_eq] at h1
        rw [I.size]; exact h1
      refine ⟨fun t ht => ?_, fun j oj d' hoj hlj hd' => ?_⟩
      · have hdt : d ≠ t := fun e => ht i o ho' hseti (by rw [hd, e])
        rw [get_put_ne hdt]
        refine I.base t fun j oj hoj hlj => ?_
        by_cases hji : j = i
        · subst hji; rw [hun] at hlj; cases hlj
        · exact ht j oj hoj (by rw [hset j hji]; exact hlj)
      · by_cases hji : j = i
        · subst hji
          rw [ho'] at hoj; cases hoj
          rw [hd] at hd'; cases hd'
          rw [get_put_eq hdN]
          exact hv
        · rw [hset j hji] at hlj
          have : d ≠ d' := fun e => hne j oj d hoj hji hd (by rw [hd', e])
          rw [get_put_ne this]
          exact hR j _ (I.phi j oj d' hoj hlj hd')
    by_cases hin : ch.has i = true
    · have hmem : i ∈ ch.ops := by simpa [Chain.has] using hin
      obtain ⟨c0, hc0, hci⟩ := List.getElem_of_mem hmem
      have hci' : ch.ops[c0]? = some i := by simp [hc0, hci]
      have hcc : c0 = c := by
        have h1 : ¬ c0 < c := fun h => by
          have := (I.chain c0 i hci').2 h
          rw [hun] at this; cases this
        rcases Nat.lt_or_ge c c0 with h2 | h2
        · exfalso
          have h3 := List.all_eq_true.1 hc1 c0 (by simp [hc0])
          have hz : (c0 == 0) = false := by simp; omega
          have hp : ch.ops.getD (c0 - 1) 0 = ch.ops[c0 - 1] := by simp [List.getD_eq_getElem?_getD, show c0 - 1 < ch.ops.length by omega]
          have hq : ch.ops.getD c0 0 = i := by simp [List.getD_eq_getElem?_getD, hc0, hci]
          rw [hz, hp, hq, Bool.false_or] at h3
          obtain ⟨e, he, h4, h5⟩ := depB_spec ho' h3
          have h6 := getD_of_false (hwait e he h5)
          rw [h4] at h6
          have := (I.chain (c0 - 1) ch.ops[c0 - 1] (by simp [show c0 - 1 < ch.ops.length by omega])).1 h6
          omega
        · omega
      subst hcc
      refine wp_one (by simpa using ho') (obC c0 i o hci' ho' ee a w I.size hbase hdep I.chainC) fun a' w' h => ?_
      obtain ⟨e', hm, h1, h2⟩ := h
      have hchain : ∀ m i', ch.ops[m]? = some i' → ((listed.setIfInBounds i true).getD i' true = true ↔ m < c0 + 1) := by
        intro m i' hm
        by_cases hii : i' = i
        · subst hii
          have : m = c0 := by
            have hnd : ch.ops.Nodup := of_decide_eq_true hc4
            have hmlt : m < ch.ops.length := (List.getElem?_eq_some_iff.1 hm).1
            exact (List.getElem?_inj hmlt hnd).1 (by rw [hm, hci'])
          exact ⟨fun _ => by omega, fun _ => hseti⟩
        · rw [hset i' hii, I.chain m i' hm]
          refine ⟨fun h => by omega, fun h => ?_⟩
          rcases Nat.lt_or_ge m c0 with h' | h'
          · exact h'
          · have : m = c0 := by omega
            subst this
            rw [hci'] at hm; exact absurd (Option.some.inj hm).symm hii
      refine ih _ (c0 + 1) a' w' e' ?_ hcnt'
      rcases h1 with ⟨hd, rfl⟩ | ⟨d, v, hd, rfl, hv⟩
      · refine ⟨I.size, I.defers, fun t ht => ?_, fun j oj d' hoj hlj hd' => ?_, hclosed, by simp [I.lsize], by omega, hchain, h2, trivial⟩
        · refine I.base t fun j oj hoj hlj => ?_
          by_cases hji : j = i
          · subst hji; rw [hun] at hlj; cases hlj
          · exact ht j oj hoj (by rw [hset j hji]; exact hlj)
        · by_cases hji : j = i
          · subst hji
            rw [ho'] at hoj; cases hoj
            rw [hd] at hd'; cases hd'
          · rw [hset j hji] at hlj
            exact hm j _ (I.phi j oj d' hoj hlj hd')
      · obtain ⟨f1, f2⟩ := hframe d v e' hd hm hv
        exact ⟨by rw [putsL_size, I.size], by rw [putsL_defers, I.defers], f1, f2, hclosed, by simp [I.lsize], by omega, hchain, h2, trivial⟩
    · have hin' : ch.has i = false := by simpa using hin
      refine wp_one (by simpa using ho') (obN i o ho' hin' ee a w c I.size I.chainC hbase hdep) fun a' w' h => ?_
      obtain ⟨⟨d, v, hd, rfl, hv⟩, hg⟩ := h
      obtain ⟨f1, f2⟩ := hframe d v ee hd (fun _ _ h => h) hv
      refine ih _ c _ w' ee ⟨by rw [putsL_size, I.size], by rw [putsL_defers, I.defers], f1, f2, hclosed, by simp [I.lsize], I.cle, ?_, hC _ _ w w' hg I.chainC, trivial⟩ hcnt'
      · intro m i' hm
        have hii : i' ≠ i := by
          rintro rfl
          have : ch.has i' = true := by simpa [Chain.has] using List.mem_of_getElem? hm
          rw [hin'] at this; cases this
        rw [hset i' hii]
        exact I.chain m i' hm
end

section
variable {P : Program} {ol : List Oper} {Q : Exit → Act → World → Prop} {ops : List Nat} {φ : Nat → Value → Prop} {G : World → Prop} {a0 : Act} {N : Nat}
def PhE (ops : List Nat) (φ : Nat → Value → Prop) (e : List Value) (j : Nat) (u : Value) : Prop := (∀ c : Nat, ops[c]? = some j → e[c]? = some u) ∧ (ops.contains j = false → φ j u)
theorem PhE.mono {e : List Value} {v : Value} {j : Nat} {u : Value} (h : PhE ops φ e j u) : PhE ops φ (e ++ [v]) j u :=
  ⟨fun c hc => by have h1 := h.1 c hc; have hl := (List.getElem?_eq_some_iff.1 h1).1; rw [List.getElem?_append_left hl]; exact h1, h.2⟩
theorem PhE.light {j : Nat} {e : List Value} {u : Value} (hh : ops.contains j = false) (h : φ j u) : PhE ops φ e j u :=
  ⟨fun c hc => by have : ops.contains j = true := by simpa using List.mem_of_getElem? hc
                  exact absurd (this.symm.trans hh) (by decide), fun _ => h⟩
def KE (P : Program) (ol : List Oper) (ops : List Nat) (φ : Nat → Value → Prop) (G : World → Prop) (a0 : Act) (N : Nat) (Q : Exit → Act → World → Prop) : List Nat → List Value → World → Prop
  | [], e, w => ∀ w1, w.grownBy w1 none → ∀ a', a'.tmps.size = N → a'.defers = a0.defers → (∀ t, (ol.all fun o => o.dst != some t) = true → a'.tmps.getD t undef = a0.tmps.getD t undef) →
      (∀ j oj d, ol[j]? = some oj → oj.dst = some d → PhE ops φ e j (a'.tmps.getD d undef)) → Q .normal (putsL a' []) w1
  | i :: r, e, w => ∀ w1, w.grownBy w1 none → G w1 → ∀ a, a.tmps.size = N → (∀ t, safeB ol i t = true → a.tmps.getD t undef = a0.tmps.getD t undef) → (∀ j oj d, depB ol i j = true → ol[j]? = some oj → oj.dst = some d → PhE ops φ e j (a.tmps.getD d undef)) →
      ∀ o, ol[i]? = some o → wpList P ol.toArray (fun ex a' w' => ex = .normal ∧ ∃ e', (∀ j u, PhE ops φ e j u → PhE ops φ e' j u) ∧ ((o.dst = none ∧ a' = a) ∨ ∃ d v, o.dst = some d ∧ a' = putsL a [(d, v)] ∧ PhE ops φ e' i v) ∧ (e'.length = e.length + 1 ∧ KE P ol ops φ G a0 N Q r e' w' ∧ G w')) [o] (putsL a []) w1
theorem KE.stable : ∀ {rs : List Nat} {e : List Value} {w w2 : World}, KE P ol ops φ G a0 N Q rs e w → w.grownBy w2 none → KE P ol ops φ G a0 N Q rs e w2
  | [], _, _, _, h, E => fun w1 E1 => h w1 (grown_trans E E1)
  | _ :: _, _, _, _, h, E => fun w1 E1 => h w1 (grown_trans E E1)
def ObE (P : Program) (ol : List Oper) (ops : List Nat) (φ : Nat → Value → Prop) (G : World → Prop) (a0 : Act) (N : Nat) (i : Nat) (o : Oper) : Prop :=
  ∀ (e : List Value) (a : Act) (w : World), a.tmps.size = N → G w → (∀ t, safeB ol i t = true → a.tmps.getD t undef = a0.tmps.getD t undef) → (∀ j oj d, depB ol i j = true → ol[j]? = some oj → oj.dst = some d → PhE ops φ e j (a.tmps.getD d undef)) →
    wpList P ol.toArray (fun ex a' w' => ex = .normal ∧ (∃ d v, o.dst = some d ∧ a' = putsL a [(d, v)] ∧ PhE ops φ e i v) ∧ w.grownBy w' none) [o] (putsL a []) w
def ObEs (P : Program) (ol : List Oper) (ops : List Nat) (φ : Nat → Value → Prop) (G : World → Prop) (a0 : Act) (N : Nat) : Nat → List Oper → Prop
  | _, [] => True
  | i, o :: r => (ops.contains i = false → ObE P ol ops φ G a0 N i o) ∧ ObEs P ol ops φ G a0 N (i + 1) r
theorem ObEs.nil {i : Nat} : ObEs P ol ops φ G a0 N i [] := trivial
theorem ObEs.cons {i : Nat} {o : Oper} {r : List Oper} (h : ObE P ol ops φ G a0 N i o) (h' : ObEs P ol ops φ G a0 N (i + 1) r) : ObEs P ol ops φ G a0 N i (o :: r) := ⟨fun _ => h, h'⟩
theorem ObEs.pass {i : Nat} {o : Oper} {r : List Oper} (hh : ops.contains i = true) (h' : ObEs P ol ops φ G a0 N (i + 1) r) : ObEs P ol ops φ G a0 N i (o :: r) := ⟨fun h => absurd (hh.symm.trans h) (by decide), h'⟩
theorem ObEs.getx : ∀ {l : List Oper} {i : Nat}, ObEs P ol ops φ G a0 N i l → ∀ j o, l[j]? = some o → ops.contains (i + j) = false → ObE P ol ops φ G a0 N (i + j) o
  | [], _, _, j, o, h, _ => by simp at h
  | o' :: r, i, h, 0, o, hj, hs => by simp at hj; subst hj; exact h.1 hs
  | o' :: r, i, h, j + 1, o, hj, hs => by
    have := ObEs.getx h.2 j o (by simpa using hj) (by rwa [show i + 1 + j = i + (j + 1) by omega])
    rwa [show i + 1 + j = i + (j + 1) by omega] at this
theorem any_env (ops : List Nat) (hlex : lexB' ol = true) (hdn : dstNB ol N = true) (hdst : dstsB ol = true) (hch : (⟨ops, fun _ => N⟩ : Chain).okB ol = true)
    {l : List (Nat × Value)} {w : World} (hN : a0.tmps.size = N) (hG : ∀ w1 w2, w1.grownBy w2 none → G w1 → G w2) (g0 : G w) (obL : ObEs P ol ops φ G (putsL a0 l) N 0 ol) (hdf : (putsL a0 l).defers = a0.defers)
    (main : KE P ol ops φ G (putsL a0 l) N Q ops [] w) : RegAny P ol Q (putsL a0 l) w := by
  have hnd : ops.Nodup := by
    have h := hch; simp only [Chain.okB, Bool.and_eq_true] at h; exact of_decide_eq_true h.2
  have hd : w.grownBy { w with drawn := w.drawn + 1 } none := ⟨rfl, rfl, rfl, Nat.le_refl _, fun _ _ _ => rfl⟩
  have I : RInv ol (fun j u _ => PhE ops φ [] j u) (fun c _ w => ([] : List Value).length = c ∧ KE P ol ops φ G (putsL a0 l) N Q (ops.drop c) [] w ∧ G w) ⟨ops, fun _ => N⟩ (putsL a0 l) N w (fun _ _ => True) (Array.replicate ol.length false) 0 (putsL a0 l) { w with drawn := w.drawn + 1 } := by
    refine ⟨slN hN, rfl, fun _ _ => rfl, fun j o d hj hl => ?_, fun j o hj hl => ?_, by simp, Nat.zero_le _, fun m i hm => ?_, ⟨rfl, main.stable hd, hG _ _ hd g0⟩, trivial⟩
    · have : j < ol.length := (List.getElem?_eq_some_iff.1 hj).1
      simp [Array.getD_eq_getD_getElem?, this] at hl
    · have : j < ol.length := (List.getElem?_eq_some_iff.1 hj).1
      simp [Array.getD_eq_getD_getElem?, this] at hl
    · have h3 : i < ol.length := by
        have hch' := hch
        simp only [Chain.okB, Bool.and_eq_true] at hch'
        have := List.all_eq_true.1 hch'.1.2 i (List.mem_of_getElem? hm)
        simpa [Nat.blt_eq] using this
      simp [Array.getD_eq_getD_getElem?, h3]
  have := region_env_steps (P := P) (Q := Q) (E := List Value) (Φ := fun e j u => PhE ops φ e j u) (C := fun e c w => e.length = c ∧ KE P ol ops φ G (putsL a0 l) N Q (ops.drop c) e w ∧ G w) (ch := ⟨ops, fun _ => N⟩) hlex hdn hdst hch w
    (fun e c w1 w2 E1 h => ⟨h.1, h.2.1.stable E1, hG _ _ E1 h.2.2⟩)
    (fun i o hi hh e a w1 c h1 h2 h3 h4 => by
      have hh' : ops.contains i = false := hh
      have h5 := ObEs.getx obL i o hi (by rw [Nat.zero_add]; exact hh') e a w1 h1 h2.2.2 (by rw [Nat.zero_add]; exact h3) (by rw [Nat.zero_add]; exact h4)
      rw [Nat.zero_add] at h5; exact h5)
    (fun c i o hc hi e a w1 h1 h2 h3 h4 => by
      obtain ⟨hl, hk, hg⟩ := h4
      have hdr : ops.drop c = i :: ops.drop (c + 1) := by
        have hlt : c < ops.length := (List.getElem?_eq_some_iff.1 hc).1
        rw [List.drop_eq_getElem_cons hlt, (List.getElem?_eq_some_iff.1 hc).2]
      rw [hdr] at hk
      subst hl
      exact hk w1 (grown_refl _ _) hg a h1 h2 h3 o hi)
    (fun a' w' e J => by
      have hk := J.chainC.2.1
      rw [List.drop_of_length_le (Nat.le_refl _)] at hk
      exact hk w' (grown_refl _ _) a' J.size (J.defers) (fun t ht => J.base t fun j o hj _ hd' => by
        have := List.all_eq_true.1 ht o (List.mem_of_getElem? hj)
        simp [hd'] at this) (fun j oj d hj hd' => J.phi j oj d hj (by
        have : j < ol.length := (List.getElem?_eq_some_iff.1 hj).1
        simp [Array.getD_eq_getD_getElem?, this]) hd'))
    ol.length (Array.replicate ol.length false) 0 (putsL a0 l) _ [] I (Nat.le_trans (List.countP_le_length) (by simp))
  exact this
theorem ke_end {o : Oper} {i d : Nat} {v : Value} {a : Act} {w : World} {e : List Value} {r : List Nat} (hi : ops[e.length]? = some i) (hnd : ops.Nodup) (hd : o.dst = some d) (g : G w) (h : KE P ol ops φ G a0 N Q r (e ++ [v]) w) :
    wpList P ol.toArray (fun ex a' w' => ex = .normal ∧ ∃ e', (∀ j u, PhE ops φ e j u → PhE ops φ e' j u) ∧ ((o.dst = none ∧ a' = a) ∨ ∃ d v, o.dst = some d ∧ a' = putsL a [(d, v)] ∧ PhE ops φ e' i v) ∧ (e'.length = e.length + 1 ∧ KE P ol ops φ G a0 N Q r e' w' ∧ G w')) [] (putsL a [(d, v)]) w :=
  ⟨rfl, e ++ [v], fun _ _ h => h.mono, .inr ⟨d, v, hd, rfl, fun c' hc' => by
    have : c' = e.length := (List.getElem?_inj (List.getElem?_eq_some_iff.1 hc').1 hnd).1 (by rw [hc', hi])
    subst this; simp, fun hh => by
    have : ops.contains i = true := by simpa using List.mem_of_getElem? hi
    exact absurd (this.symm.trans hh) (by decide)⟩, by simp, h, g⟩
theorem obE_end {o : Oper} {i d : Nat} {v : Value} {a : Act} {w : World} {e : List Value} (hh : ops.contains i = false) (hd : o.dst = some d) (hv : φ i v) :
    wpList P ol.toArray (fun ex a' w' => ex = .normal ∧ (∃ d v, o.dst = some d ∧ a' = putsL a [(d, v)] ∧ PhE ops φ e i v) ∧ w.grownBy w' none) [] (putsL a [(d, v)]) w := ⟨rfl, ⟨d, v, hd, rfl, PhE.light hh hv⟩, grown_refl _ _⟩
end
end Go.Gx

namespace Go.Gx
open Go.RowKit
section
variable {P : Program} {ol : List Oper} {Q : Exit → Act → World → Prop} {bigs : List Nat} {φ : Nat → Value → Prop} {G : World → Prop} {a0 : Act} {N : Nat}
def PhT (bigs : List Nat) (φ : Nat → Value → Prop) (e : List (Nat × Value)) (j : Nat) (u : Value) : Prop := (bigs.contains j = true → e.lookup j = some u) ∧ (bigs.contains j = false → φ j u)
theorem PhT.mono {e : List (Nat × Value)} {i j : Nat} {v u : Value} (hij : j ≠ i) (h : PhT bigs φ e j u) : PhT bigs φ ((i, v) :: e) j u :=
  ⟨fun hb => by rw [List.lookup_cons, beq_false_of_ne hij]; exact h.1 hb, h.2⟩
structure TInv (ol : List Oper) (bigs : List Nat) (φ : Nat → Value → Prop) (a0 : Act) (N : Nat) (listed : Array Bool) (todo : List Nat) (e : List (Nat × Value)) (a : Act) : Prop where
  size : a.tmps.size = N
  defers : a.defers = a0.defers
  base : ∀ t, (∀ j o, ol[j]? = some o → listed.getD j true = true → o.dst ≠ some t) → a.tmps.getD t undef = a0.tmps.getD t undef
  phi : ∀ j o d, ol[j]? = some o → listed.getD j true = true → o.dst = some d → PhT bigs φ e j (a.tmps.getD d undef)
  closed : ∀ j o, ol[j]? = some o → listed.getD j true = true → ∀ x ∈ o.after, Region.binds .any x = true → listed.getD x.on false = true
  lsize : listed.size = ol.length
  todos : ∀ i, i ∈ todo ↔ i ∈ bigs ∧ listed.getD i true = false
  nodup : List.Nodup todo
def KI (P : Program) (ol : List Oper) (bigs : List Nat) (φ : Nat → Value → Prop) (G : World → Prop) (a0 : Act) (N : Nat) (e : List (Nat × Value)) (i : Nat) (w : World) (K : Value → World → Prop) : Prop :=
  ∀ w1, w.grownBy w1 none → G w1 → ∀ a, a.tmps.size = N → (∀ t, safeB ol i t = true → a.tmps.getD t undef = a0.tmps.getD t undef) → (∀ j oj d, depB ol i j = true → ol[j]? = some oj → oj.dst = some d → PhT bigs φ e j (a.tmps.getD d undef)) →
    ∀ o, ol[i]? = some o → wpList P ol.toArray (fun ex a' w' => ex = .normal ∧ ∃ v, ((o.dst = none ∧ a' = a) ∨ ∃ d, o.dst = some d ∧ a' = putsL a [(d, v)]) ∧ K v w' ∧ G w') [o] (putsL a []) w1
def readyT (ol : List Oper) (todo : List Nat) : List Nat := todo.filter fun i => todo.all fun j => !depB ol i j
def KT (P : Program) (ol : List Oper) (bigs : List Nat) (φ : Nat → Value → Prop) (G : World → Prop) (a0 : Act) (N : Nat) (Q : Exit → Act → World → Prop) : Nat → List Nat → List (Nat × Value) → World → Prop
  | 0, _, e, w => ∀ w1, w.grownBy w1 none → ∀ a', a'.tmps.size = N → a'.defers = a0.defers → (∀ t, (ol.all fun o => o.dst != some t) = true → a'.tmps.getD t undef = a0.tmps.getD t undef) →
      (∀ j oj d, ol[j]? = some oj → oj.dst = some d → PhT bigs φ e j (a'.tmps.getD d undef)) → Q .normal (putsL a' []) w1
  | n + 1, todo, e, w => ∀ i ∈ readyT ol todo, KI P ol bigs φ G a0 N e i w fun v w' => KT P ol bigs φ G a0 N Q n (todo.erase i) ((i, v) :: e) w'
theorem KT.stable : ∀ {n : Nat} {todo : List Nat} {e : List (Nat × Value)} {w w2 : World}, KT P ol bigs φ G a0 N Q n todo e w → w.grownBy w2 none → KT P ol bigs φ G a0 N Q n todo e w2
  | 0, _, _, _, _, h, E => fun w1 E1 => h w1 (grown_trans E E1)
  | _ + 1, _, _, _, _, h, E => fun i hi w1 E1 => h i hi w1 (grown_trans E E1)
def ObR9 (P : Program) (ol : List Oper) (bigs : List Nat) (φ : Nat → Value → Prop) (G : World → Prop) (a0 : Act) (N : Nat) (i : Nat) (o : Oper) : Prop :=
  ∀ (e : List (Nat × Value)) (a : Act) (w : World), a.tmps.size = N → G w → (∀ t, safeB ol i t = true → a.tmps.getD t undef = a0.tmps.getD t undef) → (∀ j oj d, depB ol i j = true → ol[j]? = some oj → oj.dst = some d → PhT bigs φ e j (a.tmps.getD d undef)) →
    wpList P ol.toArray (fun ex a' w' => ex = .normal ∧ (∃ d v, o.dst = some d ∧ a' = putsL a [(d, v)] ∧ φ i v) ∧ w.grownBy w' none) [o] (putsL a []) w
def ObRs9 (P : Program) (ol : List Oper) (bigs : List Nat) (φ : Nat → Value → Prop) (G : World → Prop) (a0 : Act) (N : Nat) : Nat → List Oper → Prop
  | _, [] => True
  | i, o :: r => (bigs.contains i = false → ObR9 P ol bigs φ G a0 N i o) ∧ ObRs9 P ol bigs φ G a0 N (i + 1) r
theorem ObRs9.nil {i : Nat} : ObRs9 P ol bigs φ G a0 N i [] := trivial
theorem ObRs9.cons {i : Nat} {o : Oper} {r : List Oper} (h : ObR9 P ol bigs φ G a0 N i o) (h' : ObRs9 P ol bigs φ G a0 N (i + 1) r) : ObRs9 P ol bigs φ G a0 N i (o :: r) := ⟨fun _ => h, h'⟩
theorem ObRs9.pass {i : Nat} {o : Oper} {r : List Oper} (hh : bigs.contains i = true) (h' : ObRs9 P ol bigs φ G a0 N (i + 1) r) : ObRs9 P ol bigs φ G a0 N i (o :: r) := ⟨fun h => absurd (hh.symm.trans h) (by decide), h'⟩
theorem ObRs9.getx : ∀ {l : List Oper} {i : Nat}, ObRs9 P ol bigs φ G a0 N i l → ∀ j o, l[j]? = some o → bigs.contains (i + j) = false → ObR9 P ol bigs φ G a0 N (i + j) o
  | [], _, _, j, o, h, _ => by simp at h
  | o' :: r, i, h, 0, o, hj, hs => by simp at hj; subst hj; exact h.1 hs
  | o' :: r, i, h, j + 1, o, hj, hs => by
    have := ObRs9.getx h.2 j o (by simpa using hj) (by rwa [show i + 1 + j = i + (j + 1) by omega])
    rwa [show i + 1 + j = i + (j + 1) by omega] at this
theorem region_tree_steps (hlex : lexB' ol = true) (hdn : dstNB ol N = true) (hdst : dstsB ol = true) (hbl : (bigs.all fun i => Nat.blt i ol.length) = true)
    (hG : ∀ w1 w2, w1.grownBy w2 none → G w1 → G w2) (obL : ∀ i o, ol[i]? = some o → bigs.contains i = false → ObR9 P ol bigs φ G a0 N i o) :
    ∀ (fuel : Nat) (listed : Array Bool) (todo : List Nat) (e : List (Nat × Value)) (a : Act) (w : World), TInv ol bigs φ a0 N listed todo e a → KT P ol bigs φ G a0 N Q todo.length todo e w → G w → (List.range ol.length).countP (fun i => !listed.getD i true) ≤ fuel → wpAny P .any ol.toArray Q fuel listed a w := by
  have done : ∀ (listed : Array Bool) (todo : List Nat) (e : List (Nat × Value)) (a : Act) (w : World), TInv ol bigs φ a0 N listed todo e a → KT P ol bigs φ G a0 N Q todo.length todo e w → Region.ready .any ol.toArray listed = [] → Q .normal a w := by
    intro listed todo ee a w I hk hr
    have hall : ∀ i, i < ol.length → listed.getD i true = true := by
      intro i
      induction i using Nat.strongRecOn with
      | _ i ih =>
        intro hi
        by_cases hq : listed.getD i true = true
        · exact hq
        · exfalso
          have hm : i ∈ Region.ready .any ol.toArray listed := by
            rw [mem_ready]
            refine ⟨by simpa using hq, ol[i], by simp [hi], fun e he hb => ?_⟩
            have h1 := List.all_eq_true.1 hlex i (by simp [hi])
            simp only [List.getElem?_eq_getElem hi, Array.all_eq_true_iff_forall_mem, Bool.or_eq_true, Bool.not_eq_true', Nat.blt_eq] at h1
            have h2 := (h1 e he).resolve_left (by simp [hb])
            exact getD_true_lt (ih e.on h2 (by omega)) (by rw [I.lsize]; omega)
          rw [hr] at hm
          cases hm
    have ht : todo = [] := by
      rw [List.eq_nil_iff_forall_not_mem]
      intro i hi
      obtain ⟨hb, hl⟩ := (I.todos i).1 hi
      have := List.all_eq_true.1 hbl i hb
      rw [hall i (by simpa [Nat.blt_eq] using this)] at hl
      cases hl
    subst ht
    exact hk w (grown_refl _ _) a I.size I.defers (fun t ht => I.base t fun j o hj _ hd' => by
      have := List.all_eq_true.1 ht o (List.mem_of_getElem? hj)
      simp [hd'] at this) (fun j oj d hj hd' => I.phi j oj d hj (hall j (List.getElem?_eq_some_iff.1 hj).1) hd')
  intro fuel
  induction fuel with
  | zero =>
    intro listed todo ee a w I hk hg hcnt
    have hr : Region.ready .any ol.toArray listed = [] := by
      rw [List.eq_nil_iff_forall_not_mem]
      intro i hi
      obtain ⟨h1, o, ho, _⟩ := mem_ready.1 hi
      have hlt : i < ol.length := by simpa using (Array.getElem?_eq_some_iff.1 ho).1
      have hz : (List.range ol.length).countP (fun i => !listed.getD i true) = 0 := by omega
      rw [List.countP_eq_zero] at hz
      exact hz i (by simp [hlt]) (by simp [h1])
    exact ⟨hr, done listed todo ee a w I hk hr⟩
  | succ fuel ih =>
    intro listed todo ee a w I hk hg hcnt
    refine ⟨fun hr => done listed todo ee a w I hk hr, fun i hi => ?_⟩
    obtain ⟨hun, o, ho, hwait⟩ := mem_ready.1 hi
    have ho' : ol[i]? = some o := by simpa using ho
    have hlt : i < ol.length := (List.getElem?_eq_some_iff.1 ho').1
    have hls : i < listed.size := by rw [I.lsize]; exact hlt
    have hcnt' : (List.range ol.length).countP (fun j => !(listed.setIfInBounds i true).getD j true) ≤ fuel := by
      have : (List.range ol.length).countP (fun j => !(listed.setIfInBounds i true).getD j true) < (List.range ol.length).countP (fun j => !listed.getD j true) := by
        refine countP_lt _ _ (fun y hy => ?_) _ i (by simp [hlt]) (by simp [hun]) (by simp [Array.getD_eq_getD_getElem?, hls])
        by_cases hiy : i = y
        · subst hiy; simp [Array.getD_eq_getD_getElem?, hls] at hy
        · rwa [getD_set_ne true hiy] at hy
      omega
    have hbase : ∀ t, safeB ol i t = true → a.tmps.getD t undef = a0.tmps.getD t undef := by
      intro t ht
      refine I.base t fun j oj hj hlj hd => ?_
      have h1 := List.all_eq_true.1 ht oj (List.mem_of_getElem? hj)
      simp only [Bool.or_eq_true, bne_iff_ne, ne_eq, Array.any_eq_true, Bool.and_eq_true, beq_iff_eq] at h1
      rcases h1 with h1 | ⟨q, hq, h1, h2⟩
      · exact h1 hd
      · have := getD_of_false (I.closed j oj hj hlj _ (Array.getElem_mem hq) h2)
        rw [h1, hun] at this
        cases this
    have hdep : ∀ j oj d, depB ol i j = true → ol[j]? = some oj → oj.dst = some d → PhT bigs φ ee j (a.tmps.getD d undef) := by
      intro j oj d hj hoj hd
      obtain ⟨e, he, h1, h2⟩ := depB_spec ho' hj
      exact I.phi j oj d hoj (getD_of_false (by rw [← h1]; exact hwait e he h2)) hd
    have hset : ∀ j, j ≠ i → (listed.setIfInBounds i true).getD j true = listed.getD j true := fun j hj => getD_set_ne true (Ne.symm hj)
    have hseti : (listed.setIfInBounds i true).getD i true = true := by simp [Array.getD_eq_getD_getElem?, hls]
    have hclosed : ∀ j oj, ol[j]? = some oj → (listed.setIfInBounds i true).getD j true = true → ∀ e ∈ oj.after, Region.binds .any e = true → (listed.setIfInBounds i true).getD e.on false = true := by
      intro j oj hoj hlj e he hb
      refine getD_set_true ?_
      by_cases hji : j = i
      · subst hji
        rw [ho'] at hoj; cases hoj
        exact hwait e he hb
      · rw [hset j hji] at hlj
        exact I.closed j oj hoj hlj e he hb
    have hne : ∀ j oj d, ol[j]? = some oj → j ≠ i → o.dst = some d → oj.dst ≠ some d := by
      intro j oj d hoj hji hd hd'
      have hj : j < ol.length := (List.getElem?_eq_some_iff.1 hoj).1
      have h1 := List.all_eq_true.1 (List.all_eq_true.1 hdst i (by simp [hlt])) j (by simp [hj])
      simp only [ho', hoj, Bool.or_eq_true, beq_iff_eq, bne_iff_ne, ne_eq] at h1
      rcases h1 with h1 | h1 | h1
      · exact hji h1.symm
      · exact h1 (by rw [hd, hd'])
      · rw [hd] at h1; cases h1
    -- what is left of the frame, behind a value in slot d
    have hframe : ∀ d v (e' : List (Nat × Value)), o.dst = some d → (∀ j u, j ≠ i → PhT bigs φ ee j u → PhT bigs φ e' j u) → PhT bigs φ e' i v → 
        (∀ t, (∀ j oj, ol[j]? = some oj → (listed.setIfInBounds i true).getD j true = true → oj.dst ≠ some t) → (putsL a [(d, v)]).tmps.getD t undef = a0.tmps.getD t undef) ∧
        (∀ j oj d', ol[j]? = some oj → (listed.setIfInBounds i true).getD j true = true → oj.dst = some d' → PhT bigs φ e' j ((putsL a [(d, v)]).tmps.getD d' undef)) := by
      intro d v e' hd hR hv
      have hdN : d < a.tmps.size := by
        have h1 := List.all_eq_true.1 hdn o (List.mem_of_getElem? ho')
        simp only [hd, Nat.blt_eq] at h1
        rw [I.size]; exact h1
      refine ⟨fun t ht => ?_, fun j oj d' hoj hlj hd' => ?_⟩
      · have hdt : d ≠ t := fun e => ht i o ho' hseti (by rw [hd, e])
        rw [get_put_ne hdt]
        refine I.base t fun j oj hoj hlj => ?_
        by_cases hji : j = i
        · subst hji; rw [hun] at hlj; cases hlj
        · exact ht j oj hoj (by rw [hset j hji]; exact hlj)
      · by_cases hji : j = i
        · subst hji
          rw [ho'] at hoj; cases hoj
          rw [hd] at hd'; cases hd'
          rw [get_put_eq hdN]
          exact hv
        · rw [hset j hji] at hlj
          have : d ≠ d' := fun e => hne j oj d hoj hji hd (by rw [hd', e])
          rw [get_put_ne this]
          exact hR j _ hji (I.phi j oj d' hoj hlj hd')
    by_cases hin : bigs.contains i = true
    · have hmem : i ∈ bigs := by simpa using hin
      have hit : i ∈ todo := (I.todos i).2 ⟨hmem, hun⟩
      have hrt : i ∈ readyT ol todo := by
        unfold readyT
        rw [List.mem_filter]
        refine ⟨hit, List.all_eq_true.2 fun j hj => ?_⟩
        cases hd : depB ol i j with
        | false => rfl
        | true =>
          obtain ⟨x, hx, h1, h2⟩ := depB_spec ho' hd
          have h3 := getD_of_false (hwait x hx h2)
          rw [h1, ((I.todos j).1 hj).2] at h3
          cases h3
      obtain ⟨n, hn⟩ : ∃ n, todo.length = n + 1 := ⟨todo.length - 1, by have := List.length_pos_of_mem hit; omega⟩
      have hn2 : (todo.erase i).length = n := by rw [List.length_erase_of_mem hit, hn]; rfl
      rw [hn] at hk
      have h0 := hk i hrt w (grown_refl _ _) hg a I.size hbase hdep o ho'
      refine wp_one (by simpa using ho') h0 fun a' w' h => ?_
      obtain ⟨v, h1, h2, h3⟩ := h
      have htodo : ∀ x, x ∈ todo.erase i ↔ x ∈ bigs ∧ (listed.setIfInBounds i true).getD x true = false := by
        intro x
        rw [I.nodup.mem_erase_iff, I.todos]
        by_cases hxi : x = i
        · subst hxi; simp [hseti]
        · rw [hset x hxi]; simp [hxi]
      refine ih _ (todo.erase i) ((i, v) :: ee) a' w' ?_ (by rw [hn2]; exact h2) h3 hcnt'
      have hpi : PhT bigs φ ((i, v) :: ee) i v := ⟨fun _ => by simp, fun hh => absurd (hin.symm.trans hh) (by decide)⟩
      rcases h1 with ⟨hd, rfl⟩ | ⟨d, hd, rfl⟩
      · refine ⟨I.size, I.defers, fun t ht => ?_, fun j oj d' hoj hlj hd' => ?_, hclosed, by simp [I.lsize], htodo, I.nodup.erase i⟩
        · refine I.base t fun j oj hoj hlj => ?_
          by_cases hji : j = i
          · subst hji; rw [hun] at hlj; cases hlj
          · exact ht j oj hoj (by rw [hset j hji]; exact hlj)
        · by_cases hji : j = i
          · subst hji
            rw [ho'] at hoj; cases hoj
            rw [hd] at hd'; cases hd'
          · rw [hset j hji] at hlj
            exact PhT.mono hji (I.phi j oj d' hoj hlj hd')
      · obtain ⟨f1, f2⟩ := hframe d v ((i, v) :: ee) hd (fun j u hj h => h.mono hj) hpi
        exact ⟨by rw [putsL_size, I.size], by rw [putsL_defers, I.defers], f1, f2, hclosed, by simp [I.lsize], htodo, I.nodup.erase i⟩
    · have hin' : bigs.contains i = false := by simpa using hin
      refine wp_one (by simpa using ho') (obL i o ho' hin' ee a w I.size hg hbase hdep) fun a' w' h => ?_
      obtain ⟨⟨d, v, hd, rfl, hv⟩, hgr⟩ := h
      obtain ⟨f1, f2⟩ := hframe d v ee hd (fun _ _ _ h => h) ⟨fun hh => absurd (hin'.symm.trans hh) (by decide), fun _ => hv⟩
      refine ih _ todo ee _ w' ⟨by rw [putsL_size, I.size], by rw [putsL_defers, I.defers], f1, f2, hclosed, by simp [I.lsize], fun x => ?_, I.nodup⟩ (hk.stable hgr) (hG _ _ hgr hg) hcnt'
      rw [I.todos]
      by_cases hxi : x = i
      · subst hxi; simp [hseti, hun]; simpa using hin'
      · rw [hset x hxi]
theorem any_tree (bigs : List Nat) (hlex : lexB' ol = true) (hdn : dstNB ol N = true) (hdst : dstsB ol = true) (hbl : (bigs.all fun i => Nat.blt i ol.length) = true) (hnd : decide bigs.Nodup = true)
    {l : List (Nat × Value)} {w : World} (hN : a0.tmps.size = N) (hG : ∀ w1 w2, w1.grownBy w2 none → G w1 → G w2) (g0 : G w) (obL : ObRs9 P ol bigs φ G (putsL a0 l) N 0 ol) (hdf : (putsL a0 l).defers = a0.defers)
    (main : KT P ol bigs φ G (putsL a0 l) N Q bigs.length bigs [] w) : RegAny P ol Q (putsL a0 l) w := by
  have hd : w.grownBy { w with drawn := w.drawn + 1 } none := ⟨rfl, rfl, rfl, Nat.le_refl _, fun _ _ _ => rfl⟩
  have I : TInv ol bigs φ (putsL a0 l) N (Array.replicate ol.length false) bigs [] (putsL a0 l) := by
    refine ⟨slN hN, rfl, fun _ _ => rfl, fun j o d hj hl => ?_, fun j o hj hl => ?_, by simp, fun i => ⟨fun hi => ⟨hi, ?_⟩, fun hi => hi.1⟩, of_decide_eq_true hnd⟩
    · have : j < ol.length := (List.getElem?_eq_some_iff.1 hj).1
      simp [Array.getD_eq_getD_getElem?, this] at hl
    · have : j < ol.length := (List.getElem?_eq_some_iff.1 hj).1
      simp [Array.getD_eq_getD_getElem?, this] at hl
    · have := List.all_eq_true.1 hbl i hi
      have h3 : i < ol.length := by simpa [Nat.blt_eq] using this
      simp [Array.getD_eq_getD_getElem?, h3]
  exact region_tree_steps (P := P) (Q := Q) hlex hdn hdst hbl hG (fun i o hi hh => by
      have h5 := ObRs9.getx obL i o hi (by rw [Nat.zero_add]; exact hh)
      rw [Nat.zero_add] at h5; exact h5) ol.length (Array.replicate ol.length false) bigs [] (putsL a0 l) _ I (main.stable hd) (hG _ _ hd g0) (Nat.le_trans (List.countP_le_length) (by simp))
theorem kt_step {n : Nat} {todo rs : List Nat} {e : List (Nat × Value)} {w : World} (hr : readyT ol todo = rs) (h : ∀ i ∈ rs, KI P ol bigs φ G a0 N e i w fun v w' => KT P ol bigs φ G a0 N Q n (todo.erase i) ((i, v) :: e) w') : KT P ol bigs φ G a0 N Q (n + 1) todo e w := by
  subst hr; exact h
theorem one_mem {p : Nat → Prop} {x : Nat} (h : p x) : ∀ i ∈ [x], p i := fun i hi => by
  obtain rfl : i = x := by simpa using hi
  exact h
theorem more_mem {p : Nat → Prop} {x y : Nat} {r : List Nat} (h : p x) (h' : ∀ i ∈ y :: r, p i) : ∀ i ∈ x :: y :: r, p i := List.forall_mem_cons.2 ⟨h, h'⟩
theorem kt_end {o : Oper} {d : Nat} {v : Value} {a : Act} {w : World} {K : Value → World → Prop} (hd : o.dst = some d) (g : G w) (h : K v w) :
    wpList P ol.toArray (fun ex a' w' => ex = .normal ∧ ∃ v, ((o.dst = none ∧ a' = a) ∨ ∃ d, o.dst = some d ∧ a' = putsL a [(d, v)]) ∧ K v w' ∧ G w') [] (putsL a [(d, v)]) w := ⟨rfl, v, .inr ⟨d, hd, rfl⟩, h, g⟩
theorem kt_end0 {o : Oper} {a : Act} {w : World} {K : Value → World → Prop} (hd : o.dst = none) (g : G w) (h : K undef w) :
    wpList P ol.toArray (fun ex a' w' => ex = .normal ∧ ∃ v, ((o.dst = none ∧ a' = a) ∨ ∃ d, o.dst = some d ∧ a' = putsL a [(d, v)]) ∧ K v w' ∧ G w') [] (putsL a []) w := ⟨rfl, undef, .inl ⟨hd, rfl⟩, h, g⟩
theorem obT_end {o : Oper} {i d : Nat} {v : Value} {a : Act} {w : World} (hd : o.dst = some d) (hv : φ i v) :
    wpList P ol.toArray (fun ex a' w' => ex = .normal ∧ (∃ d v, o.dst = some d ∧ a' = putsL a [(d, v)] ∧ φ i v) ∧ w.grownBy w' none) [] (putsL a [(d, v)]) w := ⟨rfl, ⟨d, v, hd, rfl, hv⟩, grown_refl _ _⟩
end
end Go.Gx

namespace Go.Gx
open Go.RowKit
section
variable {P : Program} {ol : List Oper} {Q : Exit → Act → World → Prop} {E : Type} {Φ : E → Nat → Value → Prop} {C : E → Nat → World → Prop} {ch : Chain} {a0 : Act} {N : Nat}
end

section
variable {P : Program} {ol : List Oper} {Q : Exit → Act → World → Prop} {ops : List Nat} {φ : Nat → Value → Prop} {G : Nat → World → Prop} {a0 : Act} {N : Nat}
end
end Go.Gx

namespace Go.Gx
open Go.RowKit
section
variable {P : Program} {ol : List Oper} {Q : Exit → Act → World → Prop} {bigs : List Nat} {φ : Nat → Value → Prop} {G : List Nat → World → Prop} {a0 : Act} {N : Nat}
def KIk (P : Program) (ol : List Oper) (bigs : List Nat) (φ : Nat → Value → Prop) (G : List Nat → World → Prop) (a0 : Act) (N : Nat) (e : List (Nat × Value)) (todo : List Nat) (i : Nat) (w : World) (K : Value → World → Prop) : Prop :=
  ∀ w1, w.grownBy w1 none → G todo w1 → ∀ a, a.tmps.size = N → (∀ t, safeB ol i t = true → a.tmps.getD t undef = a0.tmps.getD t undef) → (∀ j oj d, depB ol i j = true → ol[j]? = some oj → oj.dst = some d → PhT bigs φ e j (a.tmps.getD d undef)) →
    ∀ o, ol[i]? = some o → wpList P ol.toArray (fun ex a' w' => ex = .normal ∧ ∃ v, ((o.dst = none ∧ a' = a) ∨ ∃ d, o.dst = some d ∧ a' = putsL a [(d, v)]) ∧ K v w' ∧ G (todo.erase i) w') [o] (putsL a []) w1
def KTk (P : Program) (ol : List Oper) (bigs : List Nat) (φ : Nat → Value → Prop) (G : List Nat → World → Prop) (a0 : Act) (N : Nat) (Q : Exit → Act → World → Prop) : Nat → List Nat → List (Nat × Value) → World → Prop
  | 0, _, e, w => ∀ w1, w.grownBy w1 none → ∀ a', a'.tmps.size = N → a'.defers = a0.defers → (∀ t, (ol.all fun o => o.dst != some t) = true → a'.tmps.getD t undef = a0.tmps.getD t undef) →
      (∀ j oj d, ol[j]? = some oj → oj.dst = some d → PhT bigs φ e j (a'.tmps.getD d undef)) → Q .normal (putsL a' []) w1
  | n + 1, todo, e, w => ∀ i ∈ readyT ol todo, KIk P ol bigs φ G a0 N e todo i w fun v w' => KTk P ol bigs φ G a0 N Q n (todo.erase i) ((i, v) :: e) w'
theorem KTk.stable : ∀ {n : Nat} {todo : List Nat} {e : List (Nat × Value)} {w w2 : World}, KTk P ol bigs φ G a0 N Q n todo e w → w.grownBy w2 none → KTk P ol bigs φ G a0 N Q n todo e w2
  | 0, _, _, _, _, h, E => fun w1 E1 => h w1 (grown_trans E E1)
  | _ + 1, _, _, _, _, h, E => fun i hi w1 E1 => h i hi w1 (grown_trans E E1)
def ObQ9 (P : Program) (ol : List Oper) (bigs : List Nat) (φ : Nat → Value → Prop) (G : List Nat → World → Prop) (a0 : Act) (N : Nat) (i : Nat) (o : Oper) : Prop :=
  ∀ (e : List (Nat × Value)) (todo : List Nat) (a : Act) (w : World), a.tmps.size = N → (∀ j, bigs.contains j = true → depB ol j i = true → j ∈ todo) → G todo w → (∀ t, safeB ol i t = true → a.tmps.getD t undef = a0.tmps.getD t undef) → (∀ j oj d, depB ol i j = true → ol[j]? = some oj → oj.dst = some d → PhT bigs φ e j (a.tmps.getD d undef)) →
    wpList P ol.toArray (fun ex a' w' => ex = .normal ∧ (∃ d v, o.dst = some d ∧ a' = putsL a [(d, v)] ∧ φ i v) ∧ w.grownBy w' none) [o] (putsL a []) w
def ObRk9 (P : Program) (ol : List Oper) (bigs : List Nat) (φ : Nat → Value → Prop) (G : List Nat → World → Prop) (a0 : Act) (N : Nat) : Nat → List Oper → Prop
  | _, [] => True
  | i, o :: r => (bigs.contains i = false → ObQ9 P ol bigs φ G a0 N i o) ∧ ObRk9 P ol bigs φ G a0 N (i + 1) r
theorem ObRk9.nil {i : Nat} : ObRk9 P ol bigs φ G a0 N i [] := trivial
theorem ObRk9.cons {i : Nat} {o : Oper} {r : List Oper} (h : ObQ9 P ol bigs φ G a0 N i o) (h' : ObRk9 P ol bigs φ G a0 N (i + 1) r) : ObRk9 P ol bigs φ G a0 N i (o :: r) := ⟨fun _ => h, h'⟩
theorem ObRk9.pass {i : Nat} {o : Oper} {r : List Oper} (hh : bigs.contains i = true) (h' : ObRk9 P ol bigs φ G a0 N (i + 1) r) : ObRk9 P ol bigs φ G a0 N i (o :: r) := ⟨fun h => absurd (hh.symm.trans h) (by decide), h'⟩
theorem ObRk9.getx : ∀ {l : List Oper} {i : Nat}, ObRk9 P ol bigs φ G a0 N i l → ∀ j o, l[j]? = some o → bigs.contains (i + j) = false → ObQ9 P ol bigs φ G a0 N (i + j) o
  | [], _, _, j, o, h, _ => by simp at h
  | o' :: r, i, h, 0, o, hj, hs => by simp at hj; subst hj; exact h.1 hs
  | o' :: r, i, h, j + 1, o, hj, hs => by
    have := ObRk9.getx h.2 j o (by simpa using hj) (by rwa [show i + 1 + j = i + (j + 1) by omega])
    rwa [show i + 1 + j = i + (j + 1) by omega] at this
theorem region_treek_steps (hlex : lexB' ol = true) (hdn : dstNB ol N = true) (hdst : dstsB ol = true) (hbl : (bigs.all fun i => Nat.blt i ol.length) = true)
    (hG : ∀ t w1 w2, w1.grownBy w2 none → G t w1 → G t w2) (obL : ∀ i o, ol[i]? = some o → bigs.contains i = false → ObQ9 P ol bigs φ G a0 N i o) :
    ∀ (fuel : Nat) (listed : Array Bool) (todo : List Nat) (e : List (Nat × Value)) (a : Act) (w : World), TInv ol bigs φ a0 N listed todo e a → KTk P ol bigs φ G a0 N Q todo.length todo e w → G todo w → (List.range ol.length).countP (fun i => !listed.getD i true) ≤ fuel → wpAny P .any ol.toArray Q fuel listed a w := by
  have done : ∀ (listed : Array Bool) (todo : List Nat) (e : List (Nat × Value)) (a : Act) (w : World), TInv ol bigs φ a0 N listed todo e a → KTk P ol bigs φ G a0 N Q todo.length todo e w → Region.ready .any ol.toArray listed = [] → Q .normal a w := by
    intro listed todo ee a w I hk hr
    have hall : ∀ i, i < ol.length → listed.getD i true = true := by
      intro i
      induction i using Nat.strongRecOn with
      | _ i ih =>
        intro hi
        by_cases hq : listed.getD i true = true
        · exact hq
        · exfalso
          have hm : i ∈ Region.ready .any ol.toArray listed := by
            rw [mem_ready]
            refine ⟨by simpa using hq, ol[i], by simp [hi], fun e he hb => ?_⟩
            have h1 := List.all_eq_true.1 hlex i (by simp [hi])
            simp only [List.getElem?_eq_getElem hi, Array.all_eq_true_iff_forall_mem, Bool.or_eq_true, Bool.not_eq_true', Nat.blt_eq] at h1
            have h2 := (h1 e he).resolve_left (by simp [hb])
            exact getD_true_lt (ih e.on h2 (by omega)) (by rw [I.lsize]; omega)
          rw [hr] at hm
          cases hm
    have ht : todo = [] := by
      rw [List.eq_nil_iff_forall_not_mem]
      intro i hi
      obtain ⟨hb, hl⟩ := (I.todos i).1 hi
      have := List.all_eq_true.1 hbl i hb
      rw [hall i (by simpa [Nat.blt_eq] using this)] at hl
      cases hl
    subst ht
    exact hk w (grown_refl _ _) a I.size I.defers (fun t ht => I.base t fun j o hj _ hd' => by
      have := List.all_eq_true.1 ht o (List.mem_of_getElem? hj)
      simp [hd'] at this) (fun j oj d hj hd' => I.phi j oj d hj (hall j (List.getElem?_eq_some_iff.1 hj).1) hd')
  intro fuel
  induction fuel with
  | zero =>
    intro listed todo ee a w I hk hg hcnt
    have hr : Region.ready .any ol.toArray listed = [] := by
      rw [List.eq_nil_iff_forall_not_mem]
      intro i hi
      obtain ⟨h1, o, ho, _⟩ := mem_ready.1 hi
      have hlt : i < ol.length := by simpa using (Array.getElem?_eq_some_iff.1 ho).1
      have hz : (List.range ol.length).countP (fun i => !listed.getD i true) = 0 := by omega
      rw [List.countP_eq_zero] at hz
      exact hz i (by simp [hlt]) (by simp [h1])
    exact ⟨hr, done listed todo ee a w I hk hr⟩
  | succ fuel ih =>
    intro listed todo ee a w I hk hg hcnt
    refine ⟨fun hr => done listed todo ee a w I hk hr, fun i hi => ?_⟩
    obtain ⟨hun, o, ho, hwait⟩ := mem_ready.1 hi
    have ho' : ol[i]? = some o := by simpa using ho
    have hlt : i < ol.length := (List.getElem?_eq_some_iff.1 ho').1
    have hls : i < listed.size := by rw [I.lsize]; exact hlt
    have hcnt' : (List.range ol.length).countP (fun j => !(listed.setIfInBounds i true).getD j true) ≤ fuel := by
      have : (List.range ol.length).countP (fun j => !(listed.setIfInBounds i true).getD j true) < (List.range ol.length).countP (fun j => !listed.getD j true) := by
        refine countP_lt _ _ (fun y hy => ?_) _ i (by simp [hlt]) (by simp [hun]) (by simp [Array.getD_eq_getD_getElem?, hls])
        by_cases hiy : i = y
        · subst hiy; simp [Array.getD_eq_getD_getElem?, hls] at hy
        · rwa [getD_set_ne true hiy] at hy
      omega
    have hbase : ∀ t, safeB ol i t = true → a.tmps.getD t undef = a0.tmps.getD t undef := by
      intro t ht
      refine I.base t fun j oj hj hlj hd => ?_
      have h1 := List.all_eq_true.1 ht oj (List.mem_of_getElem? hj)
      simp only [Bool.or_eq_true, bne_iff_ne, ne_eq, Array.any_eq_true, Bool.and_eq_true, beq_iff_eq] at h1
      rcases h1 with h1 | ⟨q, hq, h1, h2⟩
      · exact h1 hd
      · have := getD_of_false (I.closed j oj hj hlj _ (Array.getElem_mem hq) h2)
        rw [h1, hun] at this
        cases this
    have hdep : ∀ j oj d, depB ol i j = true → ol[j]? = some oj → oj.dst = some d → PhT bigs φ ee j (a.tmps.getD d undef) := by
      intro j oj d hj hoj hd
      obtain ⟨e, he, h1, h2⟩ := depB_spec ho' hj
      exact I.phi j oj d hoj (getD_of_false (by rw [← h1]; exact hwait e he h2)) hd
    have hset : ∀ j, j ≠ i → (listed.setIfInBounds i true).getD j true = listed.getD j true := fun j hj => getD_set_ne true (Ne.symm hj)
    have hseti : (listed.setIfInBounds i true).getD i true = true := by simp [Array.getD_eq_getD_getElem?, hls]
    have hclosed : ∀ j oj, ol[j]? = some oj → (listed.setIfInBounds i true).getD j true = true → ∀ e ∈ oj.after, Region.binds .any e = true → (listed.setIfInBounds i true).getD e.on false = true := by
      intro j oj hoj hlj e he hb
      refine getD_set_true ?_
      by_cases hji : j = i
      · subst hji
        rw [ho'] at hoj; cases hoj
        exact hwait e he hb
      · rw [hset j hji] at hlj
        exact I.closed j oj hoj hlj e he hb
    have hne : ∀ j oj d, ol[j]? = some oj → j ≠ i → o.dst = some d → oj.dst ≠ some d := by
      intro j oj d hoj hji hd hd'
      have hj : j < ol.length := (List.getElem?_eq_some_iff.1 hoj).1
      have h1 := List.all_eq_true.1 (List.all_eq_true.1 hdst i (by simp [hlt])) j (by simp [hj])
      simp only [ho', hoj, Bool.or_eq_true, beq_iff_eq, bne_iff_ne, ne_eq] at h1
      rcases h1 with h1 | h1 | h1
      · exact hji h1.symm
      · exact h1 (by rw [hd, hd'])
      · rw [hd] at h1; cases h1
    -- what is left of the frame, behind a value in slot d
    have hframe : ∀ d v (e' : List (Nat × Value)), o.dst = some d → (∀ j u, j ≠ i → PhT bigs φ ee j u → PhT bigs φ e' j u) → PhT bigs φ e' i v → 
        (∀ t, (∀ j oj, ol[j]? = some oj → (listed.setIfInBounds i true).getD j true = true → oj.dst ≠ some t) → (putsL a [(d, v)]).tmps.getD t undef = a0.tmps.getD t undef) ∧
        (∀ j oj d', ol[j]? = some oj → (listed.setIfInBounds i true).getD j true = true → oj.dst = some d' → PhT bigs φ e' j ((putsL a [(d, v)]).tmps.getD d' undef)) := by
      intro d v e' hd hR hv
      have hdN : d < a.tmps.size := by
        have h1 := List.all_eq_true.1 hdn o (List.mem_of_getElem? ho')
        simp only [hd, Nat.blt_eq] at h1
        rw [I.size]; exact h1
      refine ⟨fun t ht => ?_, fun j oj d' hoj hlj hd' => ?_⟩
      · have hdt : d ≠ t := fun e => ht i o ho' hseti (by rw [hd, e])
        rw [get_put_ne hdt]
        refine I.base t fun j oj hoj hlj => ?_
        by_cases hji : j = i
        · subst hji; rw [hun] at hlj; cases hlj
        · exact ht j oj hoj (by rw [hset j hji]; exact hlj)
      · by_cases hji : j = i
        · subst hji
          rw [ho'] at hoj; cases hoj
          rw [hd] at hd'; cases hd'
          rw [get_put_eq hdN]
          exact hv
        · rw [hset j hji] at hlj
          have : d ≠ d' := fun e => hne j oj d hoj hji hd (by rw [hd', e])
          rw [get_put_ne this]
          exact hR j _ hji (I.phi j oj d' hoj hlj hd')
    by_cases hin : bigs.contains i = true
    · have hmem : i ∈ bigs := by simpa using hin
      have hit : i ∈ todo := (I.todos i).2 ⟨hmem, hun⟩
      have hrt : i ∈ readyT ol todo := by
        unfold readyT
        rw [List.mem_filter]
        refine ⟨hit, List.all_eq_true.2 fun j hj => ?_⟩
        cases hd : depB ol i j with
        | false => rfl
        | true =>
          obtain ⟨x, hx, h1, h2⟩ := depB_spec ho' hd
          have h3 := getD_of_false (hwait x hx h2)
          rw [h1, ((I.todos j).1 hj).2] at h3
          cases h3
      obtain ⟨n, hn⟩ : ∃ n, todo.length = n + 1 := ⟨todo.length - 1, by have := List.length_pos_of_mem hit; omega⟩
      have hn2 : (todo.erase i).length = n := by rw [List.length_erase_of_mem hit, hn]; rfl
      rw [hn] at hk
      have h0 := hk i hrt w (grown_refl _ _) hg a I.size hbase hdep o ho'
      refine wp_one (by simpa using ho') h0 fun a' w' h => ?_
      obtain ⟨v, h1, h2, h3⟩ := h
      have htodo : ∀ x, x ∈ todo.erase i ↔ x ∈ bigs ∧ (listed.setIfInBounds i true).getD x true = false := by
        intro x
        rw [I.nodup.mem_erase_iff, I.todos]
        by_cases hxi : x = i
        · subst hxi; simp [hseti]
        · rw [hset x hxi]; simp [hxi]
      refine ih _ (todo.erase i) ((i, v) :: ee) a' w' ?_ (by rw [hn2]; exact h2) h3 hcnt'
      have hpi : PhT bigs φ ((i, v) :: ee) i v := ⟨fun _ => by simp, fun hh => absurd (hin.symm.trans hh) (by decide)⟩
      rcases h1 with ⟨hd, rfl⟩ | ⟨d, hd, rfl⟩
      · refine ⟨I.size, I.defers, fun t ht => ?_, fun j oj d' hoj hlj hd' => ?_, hclosed, by simp [I.lsize], htodo, I.nodup.erase i⟩
        · refine I.base t fun j oj hoj hlj => ?_
          by_cases hji : j = i
          · subst hji; rw [hun] at hlj; cases hlj
          · exact ht j oj hoj (by rw [hset j hji]; exact hlj)
        · by_cases hji : j = i
          · subst hji
            rw [ho'] at hoj; cases hoj
            rw [hd] at hd'; cases hd'
          · rw [hset j hji] at hlj
            exact PhT.mono hji (I.phi j oj d' hoj hlj hd')
      · obtain ⟨f1, f2⟩ := hframe d v ((i, v) :: ee) hd (fun j u hj h => h.mono hj) hpi
        exact ⟨by rw [putsL_size, I.size], by rw [putsL_defers, I.defers], f1, f2, hclosed, by simp [I.lsize], htodo, I.nodup.erase i⟩
    · have hin' : bigs.contains i = false := by simpa using hin
      have hck : ∀ j, bigs.contains j = true → depB ol j i = true → j ∈ todo := by
        intro j hj hd
        rw [I.todos]
        refine ⟨by simpa using hj, ?_⟩
        cases hl : listed.getD j true with
        | false => rfl
        | true =>
          exfalso
          cases hok : ol[j]? with
          | none => simp [depB, hok] at hd
          | some ok =>
            obtain ⟨x, hx, h4, h5⟩ := depB_spec hok hd
            have h6 := getD_of_false (I.closed j ok hok hl x hx h5)
            rw [h4, hun] at h6; cases h6
      refine wp_one (by simpa using ho') (obL i o ho' hin' ee todo a w I.size hck hg hbase hdep) fun a' w' h => ?_
      obtain ⟨⟨d, v, hd, rfl, hv⟩, hgr⟩ := h
      obtain ⟨f1, f2⟩ := hframe d v ee hd (fun _ _ _ h => h) ⟨fun hh => absurd (hin'.symm.trans hh) (by decide), fun _ => hv⟩
      refine ih _ todo ee _ w' ⟨by rw [putsL_size, I.size], by rw [putsL_defers, I.defers], f1, f2, hclosed, by simp [I.lsize], fun x => ?_, I.nodup⟩ (hk.stable hgr) (hG _ _ _ hgr hg) hcnt'
      rw [I.todos]
      by_cases hxi : x = i
      · subst hxi; simp [hseti, hun]; simpa using hin'
      · rw [hset x hxi]
theorem any_treek (bigs : List Nat) (hlex : lexB' ol = true) (hdn : dstNB ol N = true) (hdst : dstsB ol = true) (hbl : (bigs.all fun i => Nat.blt i ol.length) = true) (hnd : decide bigs.Nodup = true)
    {l : List (Nat × Value)} {w : World} (hN : a0.tmps.size = N) (hG : ∀ t w1 w2, w1.grownBy w2 none → G t w1 → G t w2) (g0 : G bigs w) (obL : ObRk9 P ol bigs φ G (putsL a0 l) N 0 ol) (hdf : (putsL a0 l).defers = a0.defers)
    (main : KTk P ol bigs φ G (putsL a0 l) N Q bigs.length bigs [] w) : RegAny P ol Q (putsL a0 l) w := by
  have hd : w.grownBy { w with drawn := w.drawn + 1 } none := ⟨rfl, rfl, rfl, Nat.le_refl _, fun _ _ _ => rfl⟩
  have I : TInv ol bigs φ (putsL a0 l) N (Array.replicate ol.length false) bigs [] (putsL a0 l) := by
    refine ⟨slN hN, rfl, fun _ _ => rfl, fun j o d hj hl => ?_, fun j o hj hl => ?_, by simp, fun i => ⟨fun hi => ⟨hi, ?_⟩, fun hi => hi.1⟩, of_decide_eq_true hnd⟩
    · have : j < ol.length := (List.getElem?_eq_some_iff.1 hj).1
      simp [Array.getD_eq_getD_getElem?, this] at hl
    · have : j < ol.length := (List.getElem?_eq_some_iff.1 hj).1
      simp [Array.getD_eq_getD_getElem?, this] at hl
    · have := List.all_eq_true.1 hbl i hi
      have h3 : i < ol.length := by simpa [Nat.blt_eq] using this
      simp [Array.getD_eq_getD_getElem?, h3]
  exact region_treek_steps (P := P) (Q := Q) hlex hdn hdst hbl hG (fun i o hi hh => by
      have h5 := ObRk9.getx obL i o hi (by rw [Nat.zero_add]; exact hh)
      rw [Nat.zero_add] at h5; exact h5) ol.length (Array.replicate ol.length false) bigs [] (putsL a0 l) _ I (main.stable hd) (hG _ _ _ hd g0) (Nat.le_trans (List.countP_le_length) (by simp))
theorem ktk_step {n : Nat} {todo rs : List Nat} {e : List (Nat × Value)} {w : World} (hr : readyT ol todo = rs) (h : ∀ i ∈ rs, KIk P ol bigs φ G a0 N e todo i w fun v w' => KTk P ol bigs φ G a0 N Q n (todo.erase i) ((i, v) :: e) w') : KTk P ol bigs φ G a0 N Q (n + 1) todo e w := by
  subst hr; exact h
theorem ktk_end {todo : List Nat} {i : Nat} {o : Oper} {d : Nat} {v : Value} {a : Act} {w : World} {K : Value → World → Prop} (hd : o.dst = some d) (g : G (todo.erase i) w) (h : K v w) :
    wpList P ol.toArray (fun ex a' w' => ex = .normal ∧ ∃ v, ((o.dst = none ∧ a' = a) ∨ ∃ d, o.dst = some d ∧ a' = putsL a [(d, v)]) ∧ K v w' ∧ G (todo.erase i) w') [] (putsL a [(d, v)]) w := ⟨rfl, v, .inr ⟨d, hd, rfl⟩, h, g⟩
theorem ktk_end0 {todo : List Nat} {i : Nat} {o : Oper} {a : Act} {w : World} {K : Value → World → Prop} (hd : o.dst = none) (g : G (todo.erase i) w) (h : K undef w) :
    wpList P ol.toArray (fun ex a' w' => ex = .normal ∧ ∃ v, ((o.dst = none ∧ a' = a) ∨ ∃ d, o.dst = some d ∧ a' = putsL a [(d, v)]) ∧ K v w' ∧ G (todo.erase i) w') [] (putsL a []) w := ⟨rfl, undef, .inl ⟨hd, rfl⟩, h, g⟩
theorem obTk_end {o : Oper} {i d : Nat} {v : Value} {a : Act} {w : World} (hd : o.dst = some d) (hv : φ i v) :
    wpList P ol.toArray (fun ex a' w' => ex = .normal ∧ (∃ d v, o.dst = some d ∧ a' = putsL a [(d, v)] ∧ φ i v) ∧ w.grownBy w' none) [] (putsL a [(d, v)]) w := ⟨rfl, ⟨d, v, hd, rfl, hv⟩, grown_refl _ _⟩
end
end Go.Gx

namespace Go.Proofs.Ythflnkfghogaoaa
open Go.Gx Go.RowKit
attribute [local irreducible] wpList wpStill Code.wp Calls

theorem CloneC (l : List (PCol)) (v : Value) (w : World) (hz : l.length ≤ 1000000000) (hl : RdC w 0 w.heap.size 3 v l.length (l.flatMap cellsC)) : Ret Try.prog 89 #[v] w (fun v' w' => Below w.heap.size w w' ∧ Own w' w.heap.size 68 3 v' l.length (l.flatMap cellsC)) := by
 have hb := Below.refl w.heap.size w
 refine enter (N := 8) Try.func89 rfl rfl (by simp) fun a0 hN hd hA => ?_
 have s0 : a0.tmps.getD 0 undef = v := hA 0 (by simp)
 clear hA
 refine zF fun K1 hK1 => ?_
 refine zH ?_
 refine zD rfl ?_
 refine zB ?_
 refine hK1 _ _ (zF fun K2 hK2 => ?_)
 refine zF fun K3 hK3 => ?_
 refine zH ?_
 refine zG (zC hN rfl s0) ?_
 refine op_eql_nil slt41 (zA hN rfl) rfl hl (fun c4 => ?_) ?_
 ·
  refine zB ?_
  refine hK3 _ _ (wp_cond_true (zA hN rfl) (zF fun K4 hK4 => ?_))
  refine zH ?_
  refine zD rfl ?_
  refine zB ?_
  refine hK4 _ _ (wp_ret (zO ( ?_)))
  refine ret1 rfl hd (zA hN rfl) ⟨_, rfl, ?_⟩
  exact ⟨hb, by rw [List.length_eq_zero_iff.1 c4]; exact Own.nil _ _ _ _⟩
 refine zB ?_
 refine hK3 _ _ (wp_cond_false (zA hN rfl) (wp_skip (hK2 _ _ (zF fun K5 hK5 => ?_))))
 refine zH ?_
 refine op_bslice (e := 68) (pv := []) (cs := []) trivial zy ?_
 intro w6 b7 lo_b7 hi_b7 hB9 E8
 have := E8.size
 have hl := hl.keep0 E8
 have hb := zP hb E8 hb.size
 refine zG (zC hN rfl s0) ?_
 have hP15 := (Own.ofBx (base := w.heap.size) (sz := 3) (n := 0) hB9 rfl zz zx)
 refine op_append slt41 (zA hN rfl) hP15 (zA hN rfl) (Src.ofRd Try.underlying41 zz hl (one_pc _)) (by unfold maxLen; omega) zx hb.size ?_
 intro v10 w11 hO13 E12 hm14
 have := E12.size
 have hl := hl.keepO hP15 E12 zx
 have hb := below_stepO hb hP15 E12 hb.size zx
 have hO13 : Own w11 w.heap.size 68 3 v10 (0 + l.length) ((l).flatMap cellsC) := by simpa [u8v, u16v, sv] using hO13
 refine zD (zA hN rfl) ?_
 refine zB ?_
 refine hK5 _ _ (wp_ret ?_)
 refine ret1 rfl hd (zA hN rfl) ⟨_, rfl, ?_⟩
 exact ⟨hb, hO13.cast (by simp) (by simp)⟩

theorem CloneS (l : List (List UInt8)) (v : Value) (w : World) (hz : l.length ≤ 1000000000) (hl : RdC w 0 w.heap.size 1 v l.length (l.map sv)) : Ret Try.prog 90 #[v] w (fun v' w' => Below w.heap.size w w' ∧ Own w' w.heap.size 9 1 v' l.length (l.map sv)) := by
 have hb := Below.refl w.heap.size w
 refine enter (N := 8) Try.func90 rfl rfl (by simp) fun a0 hN hd hA => ?_
 have s0 : a0.tmps.getD 0 undef = v := hA 0 (by simp)
 clear hA
 refine zF fun K16 hK16 => ?_
 refine zH ?_
 refine zD rfl ?_
 refine zB ?_
 refine hK16 _ _ (zF fun K17 hK17 => ?_)
 refine zF fun K18 hK18 => ?_
 refine zH ?_
 refine zG (zC hN rfl s0) ?_
 refine op_eql_nil slt53 (zA hN rfl) rfl hl (fun c4 => ?_) ?_
 ·
  refine zB ?_
  refine hK18 _ _ (wp_cond_true (zA hN rfl) (zF fun K19 hK19 => ?_))
  refine zH ?_
  refine zD rfl ?_
  refine zB ?_
  refine hK19 _ _ (wp_ret (zO ( ?_)))
  refine ret1 rfl hd (zA hN rfl) ⟨_, rfl, ?_⟩
  exact ⟨hb, by rw [List.length_eq_zero_iff.1 c4]; exact Own.nil _ _ _ _⟩
 refine zB ?_
 refine hK18 _ _ (wp_cond_false (zA hN rfl) (wp_skip (hK17 _ _ (zF fun K20 hK20 => ?_))))
 refine zH ?_
 refine op_bslice (e := 9) (pv := []) (cs := []) trivial zy ?_
 intro w21 b22 lo_b22 hi_b22 hB24 E23
 have := E23.size
 have hl := hl.keep0 E23
 have hb := zP hb E23 hb.size
 refine zG (zC hN rfl s0) ?_
 have hP30 := (Own.ofBx (base := w.heap.size) (sz := 1) (n := 0) hB24 rfl zz zx)
 refine op_append slt53 (zA hN rfl) hP30 (zA hN rfl) (Src.ofRd Try.underlying53 zz hl (one_sv _)) (by unfold maxLen; omega) zx hb.size ?_
 intro v25 w26 hO28 E27 hm29
 have := E27.size
 have hl := hl.keepO hP30 E27 zx
 have hb := below_stepO hb hP30 E27 hb.size zx
 have hO28 : Own w26 w.heap.size 9 1 v25 (0 + l.length) ((l).map sv) := by simpa [u8v, u16v, sv] using hO28
 refine zD (zA hN rfl) ?_
 refine zB ?_
 refine hK20 _ _ (wp_ret ?_)
 refine ret1 rfl hd (zA hN rfl) ⟨_, rfl, ?_⟩
 exact ⟨hb, hO28.cast (by simp) (by simp)⟩

theorem IdxT {L : List DTab} {v : Value} {p : DTab → Bool} {w : World} (hl : RdC w 0 w.heap.size 3 v L.length (L.flatMap cellsT)) {g : Nat} {fs cs : List Value} (hokg : callOk Try.prog g = true) (hf : ∀ i, i < L.length → ∀ w1, Below w.heap.size w w1 → Ret Try.prog g (fs ++ [(Value.agg #[(Value.string (bs (L.getD i default).t.nm)), (L.getD i default).cv, (L.getD i default).iv])] ++ cs).toArray w1 (fun v' w' => Below w1.heap.size w1 w' ∧ v' = .bool (p (L.getD i default)))) : Ret Try.prog 102 #[v, (Value.func (.func g) fs.toArray cs.toArray)] w (fun v' w' => Below w.heap.size w w' ∧ v' = .int .i64 (ixOf p L)) := by
 have hlm := rd_len hl
 have hb := Below.refl w.heap.size w
 refine enter (N := 19) Try.func102 rfl rfl (by simp) fun a0 hN hd hA => ?_
 have s0 : a0.tmps.getD 0 undef = v := hA 0 (by simp)
 have s1 : a0.tmps.getD 1 undef = (.func (.func g) fs.toArray cs.toArray) := hA 1 (by simp)
 clear hA
 refine zF fun K31 hK31 => ?_
 refine zH ?_
 refine zD rfl ?_
 refine zB ?_
 refine hK31 _ _ (zF fun K32 hK32 => ?_)
 refine zF fun K33 hK33 => ?_
 refine zH ?_
 refine zG (zC hN rfl s0) ?_
 refine op_len_rd Try.underlying36 (zA hN rfl) hl ?_
 refine zG rfl ?_
 refine zB ?_
 refine hK33 _ _ (wp_block ?_)
 refine loop_m (fun mz_ az_ w' => ∃ (i : Nat), mz_ = L.length - i ∧ (az_.tmps.getD 0 undef = v) ∧ (az_.tmps.getD 1 undef = (.func (.func g) fs.toArray cs.toArray)) ∧ (az_.tmps.getD 7 undef = (.int .i64 ((L.length : Nat) : Int))) ∧ (az_.tmps.getD 8 undef = (.int .i64 ((i : Nat) : Int))) ∧ (i ≤ L.length) ∧ (∀ j, j < i → p (L.getD j default) = false) ∧ (Below w.heap.size w w') ∧ (w.heap.size ≤ w'.heap.size) ∧ (RdC w' 0 w.heap.size 3 v L.length (L.flatMap cellsT))) _ hN hd ⟨0, rfl, (zL hN rfl s0), (zL hN rfl s1), (zU hN rfl), (zU hN rfl), (Nat.zero_le _), (fun _ h => absurd h (Nat.not_lt_zero _)), hb, (Nat.le_refl _), hl⟩ ?_
 rintro _ a34 w34 hN34 hd34 ⟨i, rfl, s34_0, s34_1, s34_7, s34_8, hi, hall, hb, zl_w34, hl⟩
 have := hb.size
 refine zF fun K35 hK35 => ?_
 refine zH ?_
 refine op_lss (zC hN34 rfl s34_8) (zC hN34 rfl s34_7) (fun c9 => ?_) (fun c9 => ?_)
 ·
  refine zB ?_
  refine hK35 _ _ (zF fun K36 hK36 => ?_)
  refine wp_cond_true (zA hN34 rfl) (wp_skip (hK36 _ _ (zF fun K37 hK37 => ?_)))
  refine wp_block ?_
  refine zF fun K38 hK38 => ?_
  refine zH ?_
  refine zG (zC hN34 rfl s34_8) ?_
  refine zD (zA hN34 rfl) ?_
  refine zB ?_
  refine hK38 _ _ (zF fun K39 hK39 => ?_)
  refine zH ?_
  refine zG (zC hN34 rfl s34_1) ?_
  refine zG (zC hN34 rfl s34_0) ?_
  refine zG (zA hN34 rfl) ?_
  refine zh slt36 (zA hN34 rfl) hl (zA hN34 rfl) zx zx ?_
  intro b40 o41 h0b40 h1b40 hc42
  refine zX (cs := [(.string (bs (L.getD i default).t.nm)), (L.getD i default).cv, (L.getD i default).iv]) agg55 rfl (zA hN34 rfl) (fun j u hu => hc42 j u (by have := (List.getElem?_eq_some_iff.1 hu).1; simpa using this) ((el_dt (i := i) zx zx) j u hu)) ?_
  refine op_fnv (fs := fs) (vs := [(.agg #[(.string (bs (L.getD i default).t.nm)), (L.getD i default).cv, (L.getD i default).iv])]) (cs := cs) (zA hN34 rfl) hokg ⟨(zA hN34 rfl), trivial⟩ (hf i zx _ hb) ?_
  rintro _ w43 ⟨E44, rfl⟩
  have E44 := zQ E44
  have := E44.size
  have hl := hl.keep0 E44
  have hb := zP hb E44 hb.size
  rcases Bool.eq_false_or_eq_true ((p (L.getD i default))) with c16 | c16
  ·
   rw [c16]
   refine zB ?_
   refine hK39 _ _ (wp_cond_true (zA hN34 rfl) (zF fun K45 hK45 => ?_))
   refine zH ?_
   refine zG (zA hN34 rfl) ?_
   refine zD (zA hN34 rfl) ?_
   refine zB ?_
   refine hK45 _ _ (wp_ret (zb (zO (zO (zb (zO ( ?_)))))))
   refine ret1 rfl hd34 (zA hN34 rfl) ⟨_, rfl, ?_⟩
   exact ⟨hb, congrArg (Value.int .i64) (ixOf_hit zx hall c16).symm⟩
  rw [c16]
  refine zB ?_
  refine hK39 _ _ (wp_cond_false (zA hN34 rfl) (wp_skip (hK37 _ _ (zH ?_))))
  refine op_add (zC hN34 rfl s34_8) rfl (add64 zx) ?_
  refine zG (zA hN34 rfl) ?_
  refine zB ?_
  -- round 9T 16F
  exact zg _ hN34 hd34 ⟨(i + 1), rfl, (zL hN34 rfl s34_0), (zL hN34 rfl s34_1), (zL hN34 rfl s34_7), (zU hN34 rfl).trans (congrArg (Value.int .i64) zx), zx, (all_next hall c16), hb, zx, hl⟩ zx
 refine zB ?_
 refine hK35 _ _ (zF fun K46 hK46 => ?_)
 refine wp_cond_false (zA hN34 rfl) (wp_exit (then_exit (then_exit (blk_hit ?_))))
 refine hK32 _ _ (zF fun K47 hK47 => ?_)
 refine zH ?_
 refine zD rfl ?_
 refine zB ?_
 refine hK47 _ _ (wp_ret ?_)
 refine ret1 rfl hd34 (zA hN34 rfl) ⟨_, rfl, ?_⟩
 exact ⟨hb, congrArg (Value.int .i64) (ixOf_none zx hall).symm⟩

theorem IdxC {L : List PCol} {v : Value} {p : PCol → Bool} {w : World} (hl : RdC w 0 w.heap.size 3 v L.length (L.flatMap cellsC)) {g : Nat} {fs cs : List Value} (hokg : callOk Try.prog g = true) (hf : ∀ i, i < L.length → ∀ w1, Below w.heap.size w w1 → Ret Try.prog g (fs ++ [(Value.agg #[(Value.string (bs (L.getD i default).nm)), (Value.int .i64 (L.getD i default).kind), (Value.string (bs (L.getD i default).ref))])] ++ cs).toArray w1 (fun v' w' => Below w1.heap.size w1 w' ∧ v' = .bool (p (L.getD i default)))) : Ret Try.prog 97 #[v, (Value.func (.func g) fs.toArray cs.toArray)] w (fun v' w' => Below w.heap.size w w' ∧ v' = .int .i64 (ixOf p L)) := by
 have hlm := rd_len hl
 have hb := Below.refl w.heap.size w
 refine enter (N := 19) Try.func97 rfl rfl (by simp) fun a0 hN hd hA => ?_
 have s0 : a0.tmps.getD 0 undef = v := hA 0 (by simp)
 have s1 : a0.tmps.getD 1 undef = (.func (.func g) fs.toArray cs.toArray) := hA 1 (by simp)
 clear hA
 refine zF fun K48 hK48 => ?_
 refine zH ?_
 refine zD rfl ?_
 refine zB ?_
 refine hK48 _ _ (zF fun K49 hK49 => ?_)
 refine zF fun K50 hK50 => ?_
 refine zH ?_
 refine zG (zC hN rfl s0) ?_
 refine op_len_rd Try.underlying41 (zA hN rfl) hl ?_
 refine zG rfl ?_
 refine zB ?_
 refine hK50 _ _ (wp_block ?_)
 refine loop_m (fun mz_ az_ w' => ∃ (i : Nat), mz_ = L.length - i ∧ (az_.tmps.getD 0 undef = v) ∧ (az_.tmps.getD 1 undef = (.func (.func g) fs.toArray cs.toArray)) ∧ (az_.tmps.getD 7 undef = (.int .i64 ((L.length : Nat) : Int))) ∧ (az_.tmps.getD 8 undef = (.int .i64 ((i : Nat) : Int))) ∧ (i ≤ L.length) ∧ (∀ j, j < i → p (L.getD j default) = false) ∧ (Below w.heap.size w w') ∧ (w.heap.size ≤ w'.heap.size) ∧ (RdC w' 0 w.heap.size 3 v L.length (L.flatMap cellsC))) _ hN hd ⟨0, rfl, (zL hN rfl s0), (zL hN rfl s1), (zU hN rfl), (zU hN rfl), (Nat.zero_le _), (fun _ h => absurd h (Nat.not_lt_zero _)), hb, (Nat.le_refl _), hl⟩ ?_
 rintro _ a51 w51 hN51 hd51 ⟨i, rfl, s51_0, s51_1, s51_7, s51_8, hi, hall, hb, zl_w51, hl⟩
 have := hb.size
 refine zF fun K52 hK52 => ?_
 refine zH ?_
 refine op_lss (zC hN51 rfl s51_8) (zC hN51 rfl s51_7) (fun c9 => ?_) (fun c9 => ?_)
 ·
  refine zB ?_
  refine hK52 _ _ (zF fun K53 hK53 => ?_)
  refine wp_cond_true (zA hN51 rfl) (wp_skip (hK53 _ _ (zF fun K54 hK54 => ?_)))
  refine wp_block ?_
  refine zF fun K55 hK55 => ?_
  refine zH ?_
  refine zG (zC hN51 rfl s51_8) ?_
  refine zD (zA hN51 rfl) ?_
  refine zB ?_
  refine hK55 _ _ (zF fun K56 hK56 => ?_)
  refine zH ?_
  refine zG (zC hN51 rfl s51_1) ?_
  refine zG (zC hN51 rfl s51_0) ?_
  refine zG (zA hN51 rfl) ?_
  refine zh slt41 (zA hN51 rfl) hl (zA hN51 rfl) zx zx ?_
  intro b57 o58 h0b57 h1b57 hc59
  refine zX (cs := [(.string (bs (L.getD i default).nm)), (.int .i64 (L.getD i default).kind), (.string (bs (L.getD i default).ref))]) agg68 rfl (zA hN51 rfl) (fun j u hu => hc59 j u (by have := (List.getElem?_eq_some_iff.1 hu).1; simpa using this) ((el_pc (i := i) zx zx) j u hu)) ?_
  refine op_fnv (fs := fs) (vs := [(.agg #[(.string (bs (L.getD i default).nm)), (.int .i64 (L.getD i default).kind), (.string (bs (L.getD i default).ref))])]) (cs := cs) (zA hN51 rfl) hokg ⟨(zA hN51 rfl), trivial⟩ (hf i zx _ hb) ?_
  rintro _ w60 ⟨E61, rfl⟩
  have E61 := zQ E61
  have := E61.size
  have hl := hl.keep0 E61
  have hb := zP hb E61 hb.size
  rcases Bool.eq_false_or_eq_true ((p (L.getD i default))) with c16 | c16
  ·
   rw [c16]
   refine zB ?_
   refine hK56 _ _ (wp_cond_true (zA hN51 rfl) (zF fun K62 hK62 => ?_))
   refine zH ?_
   refine zG (zA hN51 rfl) ?_
   refine zD (zA hN51 rfl) ?_
   refine zB ?_
   refine hK62 _ _ (wp_ret (zb (zO (zO (zb (zO ( ?_)))))))
   refine ret1 rfl hd51 (zA hN51 rfl) ⟨_, rfl, ?_⟩
   exact ⟨hb, congrArg (Value.int .i64) (ixOf_hit zx hall c16).symm⟩
  rw [c16]
  refine zB ?_
  refine hK56 _ _ (wp_cond_false (zA hN51 rfl) (wp_skip (hK54 _ _ (zH ?_))))
  refine op_add (zC hN51 rfl s51_8) rfl (add64 zx) ?_
  refine zG (zA hN51 rfl) ?_
  refine zB ?_
  -- round 9T 16F
  exact zg _ hN51 hd51 ⟨(i + 1), rfl, (zL hN51 rfl s51_0), (zL hN51 rfl s51_1), (zL hN51 rfl s51_7), (zU hN51 rfl).trans (congrArg (Value.int .i64) zx), zx, (all_next hall c16), hb, zx, hl⟩ zx
 refine zB ?_
 refine hK52 _ _ (zF fun K63 hK63 => ?_)
 refine wp_cond_false (zA hN51 rfl) (wp_exit (then_exit (then_exit (blk_hit ?_))))
 refine hK49 _ _ (zF fun K64 hK64 => ?_)
 refine zH ?_
 refine zD rfl ?_
 refine zB ?_
 refine hK64 _ _ (wp_ret ?_)
 refine ret1 rfl hd51 (zA hN51 rfl) ⟨_, rfl, ?_⟩
 exact ⟨hb, congrArg (Value.int .i64) (ixOf_none zx hall).symm⟩

theorem ofTable_ret (d : DTab) (w : World) : Ret Try.prog 85 #[(.agg #[(.string (bs d.t.nm)), d.cv, d.iv])] w (fun v' w' => Below w.heap.size w w' ∧ v' = .string (bs d.t.nm)) := by
 have hb := Below.refl w.heap.size w
 refine enter (N := 5) Try.func85 rfl rfl (by simp) fun a0 hN hd hA => ?_
 have s0 : a0.tmps.getD 0 undef = (.agg #[(.string (bs d.t.nm)), d.cv, d.iv]) := hA 0 (by simp)
 clear hA
 refine zF fun K65 hK65 => ?_
 refine zH ?_
 refine op_box (cs := [(.string (bs d.t.nm)), d.cv, d.iv]) (zC hN rfl s0) rfl ?_
 intro w66 b67 lo_b67 hi_b67 hB69 E68
 have := E68.size
 have hb := zP hb E68 hb.size
 refine zD rfl ?_
 refine zB ?_
 refine hK65 _ _ (zF fun K70 hK70 => ?_)
 refine zH ?_
 refine zM fld55_0 (zA hN rfl) ?_
 refine zN (v := (Value.string (bs d.t.nm))) one9 (zA hN rfl) (hB69.cell rfl) ?_
 refine zD (zA hN rfl) ?_
 refine zB ?_
 refine hK70 _ _ (wp_ret ?_)
 refine ret1 rfl hd (zA hN rfl) ⟨_, rfl, ?_⟩
 exact ⟨hb, rfl⟩

theorem ofCol_ret (d : PCol) (w : World) : Ret Try.prog 87 #[(.agg #[(.string (bs d.nm)), (.int .i64 d.kind), (.string (bs d.ref))])] w (fun v' w' => Below w.heap.size w w' ∧ v' = .string (bs d.nm)) := by
 have hb := Below.refl w.heap.size w
 refine enter (N := 5) Try.func87 rfl rfl (by simp) fun a0 hN hd hA => ?_
 have s0 : a0.tmps.getD 0 undef = (.agg #[(.string (bs d.nm)), (.int .i64 d.kind), (.string (bs d.ref))]) := hA 0 (by simp)
 clear hA
 refine zF fun K71 hK71 => ?_
 refine zH ?_
 refine op_box (cs := [(.string (bs d.nm)), (.int .i64 d.kind), (.string (bs d.ref))]) (zC hN rfl s0) rfl ?_
 intro w72 b73 lo_b73 hi_b73 hB75 E74
 have := E74.size
 have hb := zP hb E74 hb.size
 refine zD rfl ?_
 refine zB ?_
 refine hK71 _ _ (zF fun K76 hK76 => ?_)
 refine zH ?_
 refine zM fld68_0 (zA hN rfl) ?_
 refine zN (v := (Value.string (bs d.nm))) one9 (zA hN rfl) (hB75.cell rfl) ?_
 refine zD (zA hN rfl) ?_
 refine zB ?_
 refine hK76 _ _ (wp_ret ?_)
 refine ret1 rfl hd (zA hN rfl) ⟨_, rfl, ?_⟩
 exact ⟨hb, rfl⟩

theorem find1Table (d : DTab) (x : List UInt8) {fb nb : Nat} {w : World} (hf9 : Bx w fb 129 [.func (.func 85) #[] #[]]) (hn9 : Bx w nb 9 [.string (bs x)]) : Ret Try.prog 103 #[(.agg #[(.string (bs d.t.nm)), d.cv, d.iv]), (ptr fb 0), (ptr nb 0)] w (fun v' w' => Below w.heap.size w w' ∧ v' = .bool (decide (d.t.nm = x))) := by
 have hb := Below.refl w.heap.size w
 refine enter (N := 10) Try.func103 rfl rfl (by simp) fun a0 hN hd hA => ?_
 have s0 : a0.tmps.getD 0 undef = (.agg #[(.string (bs d.t.nm)), d.cv, d.iv]) := hA 0 (by simp)
 have s1 : a0.tmps.getD 1 undef = (ptr fb 0) := hA 1 (by simp)
 have s2 : a0.tmps.getD 2 undef = (ptr nb 0) := hA 2 (by simp)
 clear hA
 refine zF fun K77 hK77 => ?_
 refine zH ?_
 refine op_box (cs := [(.string (bs d.t.nm)), d.cv, d.iv]) (zC hN rfl s0) rfl ?_
 intro w78 b79 lo_b79 hi_b79 hB81 E80
 have := E80.size
 have hf9 := hf9.keep0 E80
 have hn9 := hn9.keep0 E80
 have hb := zP hb E80 hb.size
 refine zD rfl ?_
 refine zB ?_
 refine hK77 _ _ (zF fun K82 hK82 => ?_)
 refine reg_split (hd := [_, _, _, _]) (tl := _) 4 mixed zy rfl rfl ?_
 refine any_env (φ := phiV [(fun uz => uz = (.func (.func 85) #[] #[])), (fun uz => uz = (.agg #[(.string (bs d.t.nm)), d.cv, d.iv])), (fun _ => True), (fun uz => uz = (.string (bs x)))]) (G := fun w' => Bx w' fb 129 [(.func (.func 85) #[] #[])] ∧ Bx w' b79 55 [(.string (bs d.t.nm)), d.cv, d.iv] ∧ Bx w' nb 9 [(.string (bs x))]) [2] zy zy zy zy hN (fun w1 w2 E h => by obtain ⟨h0, h1, h2⟩ := h; exact ⟨h0.keep0 E, h1.keep0 E, h2.keep0 E⟩) ⟨hf9, hB81, hn9⟩ (ObEs.cons ?_ (ObEs.cons ?_ (ObEs.pass rfl (ObEs.cons ?_ (ObEs.nil))))) (by simp only [putsL_defers]) ?_
 ·
  intro eA aA wA hNA hGA hbsA hdpA
  have qA_1 := (hbsA 1 rfl).trans (zL hN rfl s1)
  obtain ⟨hf9, hB81, hn9⟩ := hGA
  refine zN (v := (Value.func (.func 85) #[] #[])) one129 (zC hNA rfl qA_1) (hf9.cell rfl) ?_
  exact obE_end rfl rfl rfl
 ·
  intro eA aA wA hNA hGA hbsA hdpA
  have qA_3 := (hbsA 3 rfl).trans (zU hN rfl)
  obtain ⟨hf9, hB81, hn9⟩ := hGA
  refine zY agg55 rfl (zC hNA rfl qA_3) hB81 ?_
  exact obE_end rfl rfl rfl
 ·
  intro eA aA wA hNA hGA hbsA hdpA
  have qA_2 := (hbsA 2 rfl).trans (zL hN rfl s2)
  obtain ⟨hf9, hB81, hn9⟩ := hGA
  refine zN (v := (Value.string (bs x))) one9 (zC hNA rfl qA_2) (hn9.cell rfl) ?_
  exact obE_end rfl rfl rfl
 intro w83 E83 _ a83 hN83 hbs83 hdp83 o_ ho_; obtain rfl := zE ho_
 have := E83.size
 have hf9 := hf9.keep0 E83
 have hn9 := hn9.keep0 E83
 have hB81 := hB81.keep0 E83
 have hb := zP hb E83 hb.size
 have q83_5 : Sl a83 5 (.func (.func 85) #[] #[]) := (hdp83 0 _ 5 zy rfl rfl).2 rfl
 have q83_6 : Sl a83 6 (.agg #[(.string (bs d.t.nm)), d.cv, d.iv]) := (hdp83 1 _ 6 zy rfl rfl).2 rfl
 refine op_fnv (fs := []) (vs := [(.agg #[(.string (bs d.t.nm)), d.cv, d.iv])]) (cs := []) (zC hN83 rfl q83_5) ok85 ⟨(zC hN83 rfl q83_6), trivial⟩ (ofTable_ret d _) ?_
 rintro _ w84 ⟨E85, rfl⟩
 have E85 := zQ E85
 have := E85.size
 have hf9 := hf9.keep0 E85
 have hn9 := hn9.keep0 E85
 have hB81 := hB81.keep0 E85
 have hb := zP hb E85 hb.size
 refine ke_end rfl zz rfl ⟨hf9, hB81, hn9⟩ ?_
 intro w86 E86 a86 hN86 hd86 hbs86 hph86
 have hd86 := hd86.trans ((by simp only [putsL_defers] : _ = _).trans hd)
 have := E86.size
 have hn9 := hn9.keep0 E86
 have hb := zP hb E86 hb.size
 have s86_7 : Sl a86 7 (.string (bs d.t.nm)) := (zE ((hph86 2 _ 7 rfl rfl).1 0 rfl)).symm
 have s86_8 : Sl a86 8 (.string (bs x)) := (hph86 3 _ 8 rfl rfl).2 rfl
 refine split_end ?_
 refine from_seq (tl := [_, _]) zz zy rfl ?_
 refine op_seql (zC hN86 rfl s86_7) (zC hN86 rfl s86_8) (fun c9 => ?_) (fun c9 => ?_)
 ·
  refine zD (zA hN86 rfl) ?_
  refine zB ?_
  refine hK82 _ _ (wp_ret ?_)
  refine ret1 rfl hd86 (zA hN86 rfl) ⟨_, rfl, ?_⟩
  exact ⟨hb, congrArg Value.bool (decide_eq_true c9).symm⟩
 refine zD (zA hN86 rfl) ?_
 refine zB ?_
 refine hK82 _ _ (wp_ret ?_)
 refine ret1 rfl hd86 (zA hN86 rfl) ⟨_, rfl, ?_⟩
 exact ⟨hb, congrArg Value.bool (decide_eq_false c9).symm⟩

theorem findTable {L : List DTab} {v : Value} (x : List UInt8) {w : World} (hl : RdC w 0 w.heap.size 3 v L.length (L.flatMap cellsT)) : Ret Try.prog 84 #[v, (.string (bs x)), (.func (.func 85) #[] #[])] w (fun v' w' => Below w.heap.size w w' ∧ v' = .int .i64 (ixOf (fun d => decide (d.t.nm = x)) L)) := by
 have hb := Below.refl w.heap.size w
 refine enter (N := 10) Try.func84 rfl rfl (by simp) fun a0 hN hd hA => ?_
 have s0 : a0.tmps.getD 0 undef = v := hA 0 (by simp)
 have s1 : a0.tmps.getD 1 undef = (.string (bs x)) := hA 1 (by simp)
 have s2 : a0.tmps.getD 2 undef = (.func (.func 85) #[] #[]) := hA 2 (by simp)
 clear hA
 refine zF fun K87 hK87 => ?_
 refine zH ?_
 refine op_box (cs := [(.string (bs x))]) (zC hN rfl s1) rfl ?_
 intro w88 b89 lo_b89 hi_b89 hB91 E90
 have := E90.size
 have hl := hl.keep0 E90
 have hb := zP hb E90 hb.size
 refine op_box (cs := [(.func (.func 85) #[] #[])]) (zC hN rfl s2) rfl ?_
 intro w92 b93 lo_b93 hi_b93 hB95 E94
 have := E94.size
 have hl := hl.keep0 E94
 have hB91 := hB91.keep0 E94
 have hb := zP hb E94 hb.size
 refine zD rfl ?_
 refine zB ?_
 refine hK87 _ _ (zF fun K96 hK96 => ?_)
 refine zH ?_
 refine zG (zC hN rfl s0) ?_
 refine op_mkfn (cv := [(ptr b93 0), (ptr b89 0)]) ⟨(zA hN rfl), ⟨(zA hN rfl), trivial⟩⟩ ?_
 refine zj ok102 (IdxT (g := 103) (fs := []) (cs := [(ptr b93 0), (ptr b89 0)]) (p := (fun d => decide (d.t.nm = x))) (hl.mono (Nat.zero_le _) zx) ok103 (fun i hi w1 E9 => find1Table (L.getD i default) x (hB95.keep0 (zQ E9)) (hB91.keep0 (zQ E9)))) ⟨(zA hN rfl), ⟨(zA hN rfl), trivial⟩⟩ ?_
 rintro _ w97 ⟨E98, rfl⟩
 have E98 := zQ E98
 have := E98.size
 have hl := hl.keep0 E98
 have hb := zP hb E98 hb.size
 refine zD (zA hN rfl) ?_
 refine zB ?_
 refine hK96 _ _ (wp_ret ?_)
 refine ret1 rfl hd (zA hN rfl) ⟨_, rfl, ?_⟩
 exact ⟨hb, rfl⟩

theorem find1Col (d : PCol) (x : List UInt8) {fb nb : Nat} {w : World} (hf9 : Bx w fb 131 [.func (.func 87) #[] #[]]) (hn9 : Bx w nb 9 [.string (bs x)]) : Ret Try.prog 104 #[(.agg #[(.string (bs d.nm)), (.int .i64 d.kind), (.string (bs d.ref))]), (ptr fb 0), (ptr nb 0)] w (fun v' w' => Below w.heap.size w w' ∧ v' = .bool (decide (d.nm = x))) := by
 have hb := Below.refl w.heap.size w
 refine enter (N := 10) Try.func104 rfl rfl (by simp) fun a0 hN hd hA => ?_
 have s0 : a0.tmps.getD 0 undef = (.agg #[(.string (bs d.nm)), (.int .i64 d.kind), (.string (bs d.ref))]) := hA 0 (by simp)
 have s1 : a0.tmps.getD 1 undef = (ptr fb 0) := hA 1 (by simp)
 have s2 : a0.tmps.getD 2 undef = (ptr nb 0) := hA 2 (by simp)
 clear hA
 refine zF fun K99 hK99 => ?_
 refine zH ?_
 refine op_box (cs := [(.string (bs d.nm)), (.int .i64 d.kind), (.string (bs d.ref))]) (zC hN rfl s0) rfl ?_
 intro w100 b101 lo_b101 hi_b101 hB103 E102
 have := E102.size
 have hf9 := hf9.keep0 E102
 have hn9 := hn9.keep0 E102
 have hb := zP hb E102 hb.size
 refine zD rfl ?_
 refine zB ?_
 refine hK99 _ _ (zF fun K104 hK104 => ?_)
 refine reg_split (hd := [_, _, _, _]) (tl := _) 4 mixed zy rfl rfl ?_
 refine any_env (φ := phiV [(fun uz => uz = (.func (.func 87) #[] #[])), (fun uz => uz = (.agg #[(.string (bs d.nm)), (.int .i64 d.kind), (.string (bs d.ref))])), (fun _ => True), (fun uz => uz = (.string (bs x)))]) (G := fun w' => Bx w' fb 131 [(.func (.func 87) #[] #[])] ∧ Bx w' b101 68 [(.string (bs d.nm)), (.int .i64 d.kind), (.string (bs d.ref))] ∧ Bx w' nb 9 [(.string (bs x))]) [2] zy zy zy zy hN (fun w1 w2 E h => by obtain ⟨h0, h1, h2⟩ := h; exact ⟨h0.keep0 E, h1.keep0 E, h2.keep0 E⟩) ⟨hf9, hB103, hn9⟩ (ObEs.cons ?_ (ObEs.cons ?_ (ObEs.pass rfl (ObEs.cons ?_ (ObEs.nil))))) (by simp only [putsL_defers]) ?_
 ·
  intro eA aA wA hNA hGA hbsA hdpA
  have qA_1 := (hbsA 1 rfl).trans (zL hN rfl s1)
  obtain ⟨hf9, hB103, hn9⟩ := hGA
  refine zN (v := (Value.func (.func 87) #[] #[])) one131 (zC hNA rfl qA_1) (hf9.cell rfl) ?_
  exact obE_end rfl rfl rfl
 ·
  intro eA aA wA hNA hGA hbsA hdpA
  have qA_3 := (hbsA 3 rfl).trans (zU hN rfl)
  obtain ⟨hf9, hB103, hn9⟩ := hGA
  refine zY agg68 rfl (zC hNA rfl qA_3) hB103 ?_
  exact obE_end rfl rfl rfl
 ·
  intro eA aA wA hNA hGA hbsA hdpA
  have qA_2 := (hbsA 2 rfl).trans (zL hN rfl s2)
  obtain ⟨hf9, hB103, hn9⟩ := hGA
  refine zN (v := (Value.string (bs x))) one9 (zC hNA rfl qA_2) (hn9.cell rfl) ?_
  exact obE_end rfl rfl rfl
 intro w105 E105 _ a105 hN105 hbs105 hdp105 o_ ho_; obtain rfl := zE ho_
 have := E105.size
 have hf9 := hf9.keep0 E105
 have hn9 := hn9.keep0 E105
 have hB103 := hB103.keep0 E105
 have hb := zP hb E105 hb.size
 have q105_5 : Sl a105 5 (.func (.func 87) #[] #[]) := (hdp105 0 _ 5 zy rfl rfl).2 rfl
 have q105_6 : Sl a105 6 (.agg #[(.string (bs d.nm)), (.int .i64 d.kind), (.string (bs d.ref))]) := (hdp105 1 _ 6 zy rfl rfl).2 rfl
 refine op_fnv (fs := []) (vs := [(.agg #[(.string (bs d.nm)), (.int .i64 d.kind), (.string (bs d.ref))])]) (cs := []) (zC hN105 rfl q105_5) ok87 ⟨(zC hN105 rfl q105_6), trivial⟩ (ofCol_ret d _) ?_
 rintro _ w106 ⟨E107, rfl⟩
 have E107 := zQ E107
 have := E107.size
 have hf9 := hf9.keep0 E107
 have hn9 := hn9.keep0 E107
 have hB103 := hB103.keep0 E107
 have hb := zP hb E107 hb.size
 refine ke_end rfl zz rfl ⟨hf9, hB103, hn9⟩ ?_
 intro w108 E108 a108 hN108 hd108 hbs108 hph108
 have hd108 := hd108.trans ((by simp only [putsL_defers] : _ = _).trans hd)
 have := E108.size
 have hn9 := hn9.keep0 E108
 have hb := zP hb E108 hb.size
 have s108_7 : Sl a108 7 (.string (bs d.nm)) := (zE ((hph108 2 _ 7 rfl rfl).1 0 rfl)).symm
 have s108_8 : Sl a108 8 (.string (bs x)) := (hph108 3 _ 8 rfl rfl).2 rfl
 refine split_end ?_
 refine from_seq (tl := [_, _]) zz zy rfl ?_
 refine op_seql (zC hN108 rfl s108_7) (zC hN108 rfl s108_8) (fun c9 => ?_) (fun c9 => ?_)
 ·
  refine zD (zA hN108 rfl) ?_
  refine zB ?_
  refine hK104 _ _ (wp_ret ?_)
  refine ret1 rfl hd108 (zA hN108 rfl) ⟨_, rfl, ?_⟩
  exact ⟨hb, congrArg Value.bool (decide_eq_true c9).symm⟩
 refine zD (zA hN108 rfl) ?_
 refine zB ?_
 refine hK104 _ _ (wp_ret ?_)
 refine ret1 rfl hd108 (zA hN108 rfl) ⟨_, rfl, ?_⟩
 exact ⟨hb, congrArg Value.bool (decide_eq_false c9).symm⟩

theorem findCol {L : List PCol} {v : Value} (x : List UInt8) {w : World} (hl : RdC w 0 w.heap.size 3 v L.length (L.flatMap cellsC)) : Ret Try.prog 86 #[v, (.string (bs x)), (.func (.func 87) #[] #[])] w (fun v' w' => Below w.heap.size w w' ∧ v' = .int .i64 (ixOf (fun d => decide (d.nm = x)) L)) := by
 have hb := Below.refl w.heap.size w
 refine enter (N := 10) Try.func86 rfl rfl (by simp) fun a0 hN hd hA => ?_
 have s0 : a0.tmps.getD 0 undef = v := hA 0 (by simp)
 have s1 : a0.tmps.getD 1 undef = (.string (bs x)) := hA 1 (by simp)
 have s2 : a0.tmps.getD 2 undef = (.func (.func 87) #[] #[]) := hA 2 (by simp)
 clear hA
 refine zF fun K109 hK109 => ?_
 refine zH ?_
 refine op_box (cs := [(.string (bs x))]) (zC hN rfl s1) rfl ?_
 intro w110 b111 lo_b111 hi_b111 hB113 E112
 have := E112.size
 have hl := hl.keep0 E112
 have hb := zP hb E112 hb.size
 refine op_box (cs := [(.func (.func 87) #[] #[])]) (zC hN rfl s2) rfl ?_
 intro w114 b115 lo_b115 hi_b115 hB117 E116
 have := E116.size
 have hl := hl.keep0 E116
 have hB113 := hB113.keep0 E116
 have hb := zP hb E116 hb.size
 refine zD rfl ?_
 refine zB ?_
 refine hK109 _ _ (zF fun K118 hK118 => ?_)
 refine zH ?_
 refine zG (zC hN rfl s0) ?_
 refine op_mkfn (cv := [(ptr b115 0), (ptr b111 0)]) ⟨(zA hN rfl), ⟨(zA hN rfl), trivial⟩⟩ ?_
 refine zj ok97 (IdxC (g := 104) (fs := []) (cs := [(ptr b115 0), (ptr b111 0)]) (p := (fun d => decide (d.nm = x))) (hl.mono (Nat.zero_le _) zx) ok104 (fun i hi w1 E9 => find1Col (L.getD i default) x (hB117.keep0 (zQ E9)) (hB113.keep0 (zQ E9)))) ⟨(zA hN rfl), ⟨(zA hN rfl), trivial⟩⟩ ?_
 rintro _ w119 ⟨E120, rfl⟩
 have E120 := zQ E120
 have := E120.size
 have hl := hl.keep0 E120
 have hb := zP hb E120 hb.size
 refine zD (zA hN rfl) ?_
 refine zB ?_
 refine hK118 _ _ (wp_ret ?_)
 refine ret1 rfl hd (zA hN rfl) ⟨_, rfl, ?_⟩
 exact ⟨hb, rfl⟩

end Go.Proofs.Ythflnkfghogaoaa
