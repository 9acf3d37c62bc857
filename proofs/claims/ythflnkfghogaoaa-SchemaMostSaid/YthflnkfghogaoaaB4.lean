/- Walks, written by a program: what each function of the translation hands back. -/
import Derived.Test.YthflnkfghogaoaaB3
set_option linter.unusedVariables false
set_option linter.unusedSimpArgs false

namespace Go.Proofs.Ythflnkfghogaoaa
open Go.Gx Go.RowKit
attribute [local irreducible] wpList wpStill Code.wp Calls
open Go.Sort (insertionSort insOuter insInner swp siftDown heapSort heapBuild heapPop scanUp scanDown partition partLoop partitionEqual partEqLoop scanSorted partialIns bitsLen partialInsertionSort shiftDown shiftUp SortedIn reverseRange reverseLoop fixDown fixUp)
theorem len64W_ret (n : Nat) (w : World) (hn : n < 18446744073709551616) : Ret Try.prog 136 #[(.int .u64 ((n : Nat) : Int))] w (fun v' w' => Below w.heap.size w w' ∧ v' = .int .i64 (bitsLen n : Int)) := by
 have hb := Below.refl w.heap.size w
 refine enter (N := 25) Try.func136 rfl rfl (by simp) fun a0 hN hd hA => ?_
 have s0 : a0.tmps.getD 0 undef = (.int .u64 ((n : Nat) : Int)) := hA 0 (by simp)
 clear hA
 refine zF fun K1 hK1 => ?_
 refine zH ?_
 refine zD rfl ?_
 refine zB ?_
 refine hK1 _ _ (seq_join1 (N := 25) (fun az_ w' => ∃ (x1 k1 : Nat), (az_.tmps.getD 0 undef = (.int .u64 ((x1 : Nat) : Int))) ∧ (az_.tmps.getD 2 undef = (.int .i64 ((k1 : Nat) : Int))) ∧ (bitsLen n = k1 + bitsLen x1 ∧ x1 < 4294967296 ∧ k1 ≤ 32) ∧ (Below w.heap.size w w') ∧ (w.heap.size ≤ w'.heap.size)) (fun hJ2 => ?_) ?_)
 ·
  refine zF fun K3 hK3 => ?_
  refine zF fun K4 hK4 => ?_
  refine zH ?_
  refine zG (zC hN rfl s0) ?_
  refine op_geq (zA hN rfl) rfl (fun c4 => ?_) (fun c4 => ?_)
  ·
   refine zB ?_
   refine hK4 _ _ (wp_cond_true (zA hN rfl) (zF fun K5 hK5 => ?_))
   refine zH ?_
   refine zG (zC hN rfl s0) ?_
   refine op_shr (r := ((n / 4294967296 : Nat) : Int)) (zA hN rfl) rfl zz (shr_nat (j := 32) zx zz) ?_
   refine zD (zA hN rfl) ?_
   refine zB ?_
   refine hK5 _ _ (zH ?_)
   refine zD rfl ?_
   refine zB ?_
   refine hK3 _ _ ?_
   exact hJ2 _ _ _ hN hd ⟨(n / 4294967296), (0 + 32), (zU hN rfl).trans (congrArg (Value.int .u64) zx), (zU hN rfl).trans (congrArg (Value.int .i64) zx), (by have hz := bits_32 (n := n) zx; omega), hb, zx⟩
  refine zB ?_
  refine hK4 _ _ (wp_cond_false (zA hN rfl) (wp_skip (hK3 _ _ ?_)))
  exact hJ2 _ _ _ hN hd ⟨n, 0, (zL hN rfl s0).trans (congrArg (Value.int .u64) zx), (zU hN rfl).trans (congrArg (Value.int .i64) zx), zx, hb, zx⟩
 rintro a2 w2 hN2 hd2 ⟨x1, k1, s2_0, s2_2, hx1, hb, zl_w2⟩
 have := hb.size
 refine seq_join1 (N := 25) (fun az_ w' => ∃ (x2 k2 : Nat), (az_.tmps.getD 0 undef = (.int .u64 ((x2 : Nat) : Int))) ∧ (az_.tmps.getD 2 undef = (.int .i64 ((k2 : Nat) : Int))) ∧ (bitsLen n = k2 + bitsLen x2 ∧ x2 < 65536 ∧ k2 ≤ 48) ∧ (Below w.heap.size w w') ∧ (w2.heap.size ≤ w'.heap.size)) (fun hJ6 => ?_) ?_
 ·
  refine zF fun K7 hK7 => ?_
  refine zF fun K8 hK8 => ?_
  refine zH ?_
  refine zG (zC hN2 rfl s2_0) ?_
  refine op_geq (zA hN2 rfl) rfl (fun c8 => ?_) (fun c8 => ?_)
  ·
   refine zB ?_
   refine hK8 _ _ (wp_cond_true (zA hN2 rfl) (zF fun K9 hK9 => ?_))
   refine zH ?_
   refine zG (zC hN2 rfl s2_0) ?_
   refine op_shr (r := ((x1 / 65536 : Nat) : Int)) (zA hN2 rfl) rfl zz (shr_nat (j := 16) zx zz) ?_
   refine zD (zA hN2 rfl) ?_
   refine zB ?_
   refine hK9 _ _ (zH ?_)
   refine zG (zC hN2 rfl s2_2) ?_
   refine op_add (zA hN2 rfl) rfl (add64 zx) ?_
   refine zD (zA hN2 rfl) ?_
   refine zB ?_
   refine hK7 _ _ ?_
   exact hJ6 _ _ _ hN2 hd2 ⟨(x1 / 65536), (k1 + 16), (zU hN2 rfl).trans (congrArg (Value.int .u64) zx), (zU hN2 rfl).trans (congrArg (Value.int .i64) zx), (by have hz := bits_16 (n := x1) zx; omega), hb, zx⟩
  refine zB ?_
  refine hK8 _ _ (wp_cond_false (zA hN2 rfl) (wp_skip (hK7 _ _ ?_)))
  exact hJ6 _ _ _ hN2 hd2 ⟨x1, k1, (zL hN2 rfl s2_0).trans (congrArg (Value.int .u64) zx), (zL hN2 rfl s2_2).trans (congrArg (Value.int .i64) zx), zx, hb, zx⟩
 rintro a6 w6 hN6 hd6 ⟨x2, k2, s6_0, s6_2, hx2, hb, zl_w6⟩
 have := hb.size
 refine seq_join1 (N := 25) (fun az_ w' => ∃ (x3 k3 : Nat), (az_.tmps.getD 0 undef = (.int .u64 ((x3 : Nat) : Int))) ∧ (az_.tmps.getD 2 undef = (.int .i64 ((k3 : Nat) : Int))) ∧ (bitsLen n = k3 + bitsLen x3 ∧ x3 < 256 ∧ k3 ≤ 56) ∧ (Below w.heap.size w w') ∧ (w6.heap.size ≤ w'.heap.size)) (fun hJ10 => ?_) ?_
 ·
  refine zF fun K11 hK11 => ?_
  refine zF fun K12 hK12 => ?_
  refine zH ?_
  refine zG (zC hN6 rfl s6_0) ?_
  refine op_geq (zA hN6 rfl) rfl (fun c14 => ?_) (fun c14 => ?_)
  ·
   refine zB ?_
   refine hK12 _ _ (wp_cond_true (zA hN6 rfl) (zF fun K13 hK13 => ?_))
   refine zH ?_
   refine zG (zC hN6 rfl s6_0) ?_
   refine op_shr (r := ((x2 / 256 : Nat) : Int)) (zA hN6 rfl) rfl zz (shr_nat (j := 8) zx zz) ?_
   refine zD (zA hN6 rfl) ?_
   refine zB ?_
   refine hK13 _ _ (zH ?_)
   refine zG (zC hN6 rfl s6_2) ?_
   refine op_add (zA hN6 rfl) rfl (add64 zx) ?_
   refine zD (zA hN6 rfl) ?_
   refine zB ?_
   refine hK11 _ _ ?_
   exact hJ10 _ _ _ hN6 hd6 ⟨(x2 / 256), (k2 + 8), (zU hN6 rfl).trans (congrArg (Value.int .u64) zx), (zU hN6 rfl).trans (congrArg (Value.int .i64) zx), (by have hz := bits_8 (n := x2) zx; omega), hb, zx⟩
  refine zB ?_
  refine hK12 _ _ (wp_cond_false (zA hN6 rfl) (wp_skip (hK11 _ _ ?_)))
  exact hJ10 _ _ _ hN6 hd6 ⟨x2, k2, (zL hN6 rfl s6_0).trans (congrArg (Value.int .u64) zx), (zL hN6 rfl s6_2).trans (congrArg (Value.int .i64) zx), zx, hb, zx⟩
 rintro a10 w10 hN10 hd10 ⟨x3, k3, s10_0, s10_2, hx3, hb, zl_w10⟩
 have := hb.size
 refine zF fun K14 hK14 => ?_
 refine zH ?_
 refine zG (zC hN10 rfl s10_2) ?_
 refine zG (zC hN10 rfl s10_0) ?_
 refine op_conv (r := ((x3 : Nat) : Int)) (zA hN10 rfl) us178 Try.underlying5 (wrap_u8 zx) ?_
 have hlt8 := tab8_sz
 have h8 := tab8_len (z := x3) zx
 have ht9 : x3 < tab8.length := by omega
 have ht10 : bitsLen x3 ≤ 8 := (Go.Sort.bitsLen_le_iff x3 8).2 zx
 refine op_index_str (b := (tab8.getD x3 0)) Try.underlying9 rfl (zA hN10 rfl) (Int.natCast_nonneg _) (el_str (i := x3) rfl ht9) ?_
 refine op_conv (r := ((tab8.getD x3 0).toNat : Int)) (zA hN10 rfl) us5 Try.underlying3 (wrap_i64 (by have := ((tab8.getD x3 0)).toNat_lt; omega)) ?_
 refine op_add (zA hN10 rfl) (zA hN10 rfl) (add64 zx) ?_
 refine zD (zA hN10 rfl) ?_
 refine zB ?_
 refine hK14 _ _ (wp_ret ?_)
 refine ret1 rfl hd10 (zA hN10 rfl) ⟨_, rfl, ?_⟩
 exact ⟨hb, congrArg (Value.int .i64) zx⟩

theorem lenW_ret (n : Nat) (w : World) (hn : n < 18446744073709551616) : Ret Try.prog 124 #[(.int .u64 ((n : Nat) : Int))] w (fun v' w' => Below w.heap.size w w' ∧ v' = .int .i64 (bitsLen n : Int)) := by
 have hb := Below.refl w.heap.size w
 refine enter (N := 8) Try.func124 rfl rfl (by simp) fun a0 hN hd hA => ?_
 have s0 : a0.tmps.getD 0 undef = (.int .u64 ((n : Nat) : Int)) := hA 0 (by simp)
 clear hA
 refine zF fun K15 hK15 => ?_
 refine zH ?_
 refine zD rfl ?_
 refine zB ?_
 refine hK15 _ _ (zF fun K16 hK16 => ?_)
 refine wp_cond_false rfl (wp_skip (hK16 _ _ (zF fun K17 hK17 => ?_)))
 refine zH ?_
 refine zG (zC hN rfl s0) ?_
 refine zj ok136 (len64W_ret n _ zx) ⟨(zA hN rfl), trivial⟩ ?_
 rintro _ w18 ⟨E19, rfl⟩
 have E19 := zQ E19
 have := E19.size
 have hb := zP hb E19 hb.size
 refine zD (zA hN rfl) ?_
 refine zB ?_
 refine hK17 _ _ (wp_ret ?_)
 refine ret1 rfl hd (zA hN rfl) ⟨_, rfl, ?_⟩
 exact ⟨hb, rfl⟩

theorem npW_ret (n : Nat) (w : World) (hn : 0 < n ∧ n ≤ 4000000000000000000) : Ret Try.prog 138 #[(.int .i64 ((n : Nat) : Int))] w (fun v' w' => Below w.heap.size w w' ∧ ∃ m : Nat, v' = .int .u64 (m : Int) ∧ 1 ≤ m ∧ m ≤ 2 * n) := by
 have hb := Below.refl w.heap.size w
 refine enter (N := 7) Try.func138 rfl rfl (by simp) fun a0 hN hd hA => ?_
 have s0 : a0.tmps.getD 0 undef = (.int .i64 ((n : Nat) : Int)) := hA 0 (by simp)
 clear hA
 refine zF fun K20 hK20 => ?_
 refine zH ?_
 refine zD rfl ?_
 refine zB ?_
 refine hK20 _ _ (zF fun K21 hK21 => ?_)
 refine zH ?_
 refine zG (zC hN rfl s0) ?_
 refine op_conv (r := ((n : Nat) : Int)) (zA hN rfl) us3 Try.underlying164 (wrap_u64 zx) ?_
 refine zj ok124 (lenW_ret n _ zx) ⟨(zA hN rfl), trivial⟩ ?_
 rintro _ w22 ⟨E23, rfl⟩
 have E23 := zQ E23
 have := E23.size
 have hb := zP hb E23 hb.size
 have hbl : bitsLen n ≤ 62 := (Go.Sort.bitsLen_le_iff n 62).2 zx
 have hp2 := Go.Sort.two_pow_bitsLen_le (n := n) hn.1
 have hp1 := Nat.two_pow_pos (bitsLen n)
 refine op_shl (r := ((2 ^ bitsLen n : Nat) : Int)) rfl (zA hN rfl) zx (shl_one zx) ?_
 refine zD (zA hN rfl) ?_
 refine zB ?_
 refine hK21 _ _ (wp_ret ?_)
 refine ret1 rfl hd (zA hN rfl) ⟨_, rfl, ?_⟩
 exact ⟨hb, _, rfl, by omega, by omega⟩

theorem xnextW_ret (s : Nat) (m : Int) (w : World) (hs : Bx w s 179 [.int .u64 m]) : Ret Try.prog 139 #[(ptr s 0)] w (fun v' w' => w.grownBy w' (some s) ∧ ∃ r : Nat, v' = .int .u64 (r : Int) ∧ r < 18446744073709551616 ∧ Bx w' s 179 [.int .u64 (r : Int)]) := by
 have hs_lt := hs.lt
 have hb := grown_refl w (some s)
 refine enter (N := 33) Try.func139 rfl rfl (by simp) fun a0 hN hd hA => ?_
 have s0 : a0.tmps.getD 0 undef = (ptr s 0) := hA 0 (by simp)
 clear hA
 refine zF fun K24 hK24 => ?_
 refine zH ?_
 refine zD rfl ?_
 refine zB ?_
 refine hK24 _ _ (zF fun K25 hK25 => ?_)
 refine reg_from mixed ?_
 intro w27 E26
 have := E26.size
 have hs := hs.keep0 E26
 have hb := grow_step0 hb E26
 refine from_still (m := 9) 9 (hd := [_, _, _, _, _, _, _, _, _]) zy rfl rfl ?_
 refine st_step rfl (fun _ h9 => zG (zC hN rfl s0) h9) ?_
 refine st_step rfl (fun _ h9 => op_nil (zA hN rfl) h9) ?_
 refine st_step rfl (fun _ h9 => zN (v := (Value.int .u64 m)) one179 (zA hN rfl) (hs.cell rfl) h9) ?_
 refine st_step rfl (fun _ h9 => zG (zC hN rfl s0) h9) ?_
 refine st_step rfl (fun _ h9 => op_nil (zA hN rfl) h9) ?_
 refine st_step rfl (fun _ h9 => zN (v := (Value.int .u64 m)) one179 (zA hN rfl) (hs.cell rfl) h9) ?_
 refine st_step rfl (fun _ h9 => op_shl (r := (IntKind.u64.wrap (m * 2 ^ (min (13 : Int).toNat (IntKind.bits .u64))))) (zA hN rfl) rfl zz rfl h9) ?_
 refine st_step rfl (fun _ h9 => op_xor (r := (bits .xor .u64 (m) ((IntKind.u64.wrap (m * 2 ^ (min (13 : Int).toNat (IntKind.bits .u64))))))) (zA hN rfl) (zA hN rfl) rfl h9) ?_
 refine st_step rfl (fun _ h9 => op_nil (zA hN rfl) h9) ?_
 refine st_nil ?_
 refine from_seq (tl := [_]) zz zy rfl ?_
 refine za (vs := [(.int .u64 (bits .xor .u64 (m) ((IntKind.u64.wrap (m * 2 ^ (min (13 : Int).toNat (IntKind.bits .u64)))))))]) (cs' := [(.int .u64 (bits .xor .u64 (m) ((IntKind.u64.wrap (m * 2 ^ (min (13 : Int).toNat (IntKind.bits .u64)))))))]) size179 (zA hN rfl) (zA hN rfl) rfl rfl rfl hs (zI rfl) rfl ?_
 intro w30 hs E31
 have := E31.size
 have hb := grown_trans hb E31
 refine zB ?_
 refine hK25 _ _ (zF fun K32 hK32 => ?_)
 refine reg_from mixed ?_
 intro w34 E33
 have := E33.size
 have hs := hs.keep0 E33
 have hb := grow_step0 hb E33
 refine from_still (m := 9) 9 (hd := [_, _, _, _, _, _, _, _, _]) zy rfl rfl ?_
 refine st_step rfl (fun _ h9 => zG (zC hN rfl s0) h9) ?_
 refine st_step rfl (fun _ h9 => op_nil (zA hN rfl) h9) ?_
 refine st_step rfl (fun _ h9 => zN (v := (Value.int .u64 (bits .xor .u64 (m) ((IntKind.u64.wrap (m * 2 ^ (min (13 : Int).toNat (IntKind.bits .u64)))))))) one179 (zA hN rfl) (hs.cell rfl) h9) ?_
 refine st_step rfl (fun _ h9 => zG (zC hN rfl s0) h9) ?_
 refine st_step rfl (fun _ h9 => op_nil (zA hN rfl) h9) ?_
 refine st_step rfl (fun _ h9 => zN (v := (Value.int .u64 (bits .xor .u64 (m) ((IntKind.u64.wrap (m * 2 ^ (min (13 : Int).toNat (IntKind.bits .u64)))))))) one179 (zA hN rfl) (hs.cell rfl) h9) ?_
 refine st_step rfl (fun _ h9 => op_shr (r := (((bits .xor .u64 (m) ((IntKind.u64.wrap (m * 2 ^ (min (13 : Int).toNat (IntKind.bits .u64))))))).fdiv (2 ^ (min (7 : Int).toNat (IntKind.bits .u64))))) (zA hN rfl) rfl zz rfl h9) ?_
 refine st_step rfl (fun _ h9 => op_xor (r := (bits .xor .u64 ((bits .xor .u64 (m) ((IntKind.u64.wrap (m * 2 ^ (min (13 : Int).toNat (IntKind.bits .u64))))))) ((((bits .xor .u64 (m) ((IntKind.u64.wrap (m * 2 ^ (min (13 : Int).toNat (IntKind.bits .u64))))))).fdiv (2 ^ (min (7 : Int).toNat (IntKind.bits .u64))))))) (zA hN rfl) (zA hN rfl) rfl h9) ?_
 refine st_step rfl (fun _ h9 => op_nil (zA hN rfl) h9) ?_
 refine st_nil ?_
 refine from_seq (tl := [_]) zz zy rfl ?_
 refine za (vs := [(.int .u64 (bits .xor .u64 ((bits .xor .u64 (m) ((IntKind.u64.wrap (m * 2 ^ (min (13 : Int).toNat (IntKind.bits .u64))))))) ((((bits .xor .u64 (m) ((IntKind.u64.wrap (m * 2 ^ (min (13 : Int).toNat (IntKind.bits .u64))))))).fdiv (2 ^ (min (7 : Int).toNat (IntKind.bits .u64)))))))]) (cs' := [(.int .u64 (bits .xor .u64 ((bits .xor .u64 (m) ((IntKind.u64.wrap (m * 2 ^ (min (13 : Int).toNat (IntKind.bits .u64))))))) ((((bits .xor .u64 (m) ((IntKind.u64.wrap (m * 2 ^ (min (13 : Int).toNat (IntKind.bits .u64))))))).fdiv (2 ^ (min (7 : Int).toNat (IntKind.bits .u64)))))))]) size179 (zA hN rfl) (zA hN rfl) rfl rfl rfl hs (zI rfl) rfl ?_
 intro w37 hs E38
 have := E38.size
 have hb := grown_trans hb E38
 refine zB ?_
 refine hK32 _ _ (zF fun K39 hK39 => ?_)
 refine reg_from mixed ?_
 intro w41 E40
 have := E40.size
 have hs := hs.keep0 E40
 have hb := grow_step0 hb E40
 refine from_still (m := 9) 9 (hd := [_, _, _, _, _, _, _, _, _]) zy rfl rfl ?_
 refine st_step rfl (fun _ h9 => zG (zC hN rfl s0) h9) ?_
 refine st_step rfl (fun _ h9 => op_nil (zA hN rfl) h9) ?_
 refine st_step rfl (fun _ h9 => zN (v := (Value.int .u64 (bits .xor .u64 ((bits .xor .u64 (m) ((IntKind.u64.wrap (m * 2 ^ (min (13 : Int).toNat (IntKind.bits .u64))))))) ((((bits .xor .u64 (m) ((IntKind.u64.wrap (m * 2 ^ (min (13 : Int).toNat (IntKind.bits .u64))))))).fdiv (2 ^ (min (7 : Int).toNat (IntKind.bits .u64)))))))) one179 (zA hN rfl) (hs.cell rfl) h9) ?_
 refine st_step rfl (fun _ h9 => zG (zC hN rfl s0) h9) ?_
 refine st_step rfl (fun _ h9 => op_nil (zA hN rfl) h9) ?_
 refine st_step rfl (fun _ h9 => zN (v := (Value.int .u64 (bits .xor .u64 ((bits .xor .u64 (m) ((IntKind.u64.wrap (m * 2 ^ (min (13 : Int).toNat (IntKind.bits .u64))))))) ((((bits .xor .u64 (m) ((IntKind.u64.wrap (m * 2 ^ (min (13 : Int).toNat (IntKind.bits .u64))))))).fdiv (2 ^ (min (7 : Int).toNat (IntKind.bits .u64)))))))) one179 (zA hN rfl) (hs.cell rfl) h9) ?_
 refine st_step rfl (fun _ h9 => op_shl (r := (IntKind.u64.wrap ((bits .xor .u64 ((bits .xor .u64 (m) ((IntKind.u64.wrap (m * 2 ^ (min (13 : Int).toNat (IntKind.bits .u64))))))) ((((bits .xor .u64 (m) ((IntKind.u64.wrap (m * 2 ^ (min (13 : Int).toNat (IntKind.bits .u64))))))).fdiv (2 ^ (min (7 : Int).toNat (IntKind.bits .u64)))))) * 2 ^ (min (17 : Int).toNat (IntKind.bits .u64))))) (zA hN rfl) rfl zz rfl h9) ?_
 refine st_step rfl (fun _ h9 => op_xor (r := (bits .xor .u64 ((bits .xor .u64 ((bits .xor .u64 (m) ((IntKind.u64.wrap (m * 2 ^ (min (13 : Int).toNat (IntKind.bits .u64))))))) ((((bits .xor .u64 (m) ((IntKind.u64.wrap (m * 2 ^ (min (13 : Int).toNat (IntKind.bits .u64))))))).fdiv (2 ^ (min (7 : Int).toNat (IntKind.bits .u64))))))) ((IntKind.u64.wrap ((bits .xor .u64 ((bits .xor .u64 (m) ((IntKind.u64.wrap (m * 2 ^ (min (13 : Int).toNat (IntKind.bits .u64))))))) ((((bits .xor .u64 (m) ((IntKind.u64.wrap (m * 2 ^ (min (13 : Int).toNat (IntKind.bits .u64))))))).fdiv (2 ^ (min (7 : Int).toNat (IntKind.bits .u64)))))) * 2 ^ (min (17 : Int).toNat (IntKind.bits .u64))))))) (zA hN rfl) (zA hN rfl) rfl h9) ?_
 refine st_step rfl (fun _ h9 => op_nil (zA hN rfl) h9) ?_
 refine st_nil ?_
 refine from_seq (tl := [_]) zz zy rfl ?_
 refine za (vs := [(.int .u64 (bits .xor .u64 ((bits .xor .u64 ((bits .xor .u64 (m) ((IntKind.u64.wrap (m * 2 ^ (min (13 : Int).toNat (IntKind.bits .u64))))))) ((((bits .xor .u64 (m) ((IntKind.u64.wrap (m * 2 ^ (min (13 : Int).toNat (IntKind.bits .u64))))))).fdiv (2 ^ (min (7 : Int).toNat (IntKind.bits .u64))))))) ((IntKind.u64.wrap ((bits .xor .u64 ((bits .xor .u64 (m) ((IntKind.u64.wrap (m * 2 ^ (min (13 : Int).toNat (IntKind.bits .u64))))))) ((((bits .xor .u64 (m) ((IntKind.u64.wrap (m * 2 ^ (min (13 : Int).toNat (IntKind.bits .u64))))))).fdiv (2 ^ (min (7 : Int).toNat (IntKind.bits .u64)))))) * 2 ^ (min (17 : Int).toNat (IntKind.bits .u64)))))))]) (cs' := [(.int .u64 (bits .xor .u64 ((bits .xor .u64 ((bits .xor .u64 (m) ((IntKind.u64.wrap (m * 2 ^ (min (13 : Int).toNat (IntKind.bits .u64))))))) ((((bits .xor .u64 (m) ((IntKind.u64.wrap (m * 2 ^ (min (13 : Int).toNat (IntKind.bits .u64))))))).fdiv (2 ^ (min (7 : Int).toNat (IntKind.bits .u64))))))) ((IntKind.u64.wrap ((bits .xor .u64 ((bits .xor .u64 (m) ((IntKind.u64.wrap (m * 2 ^ (min (13 : Int).toNat (IntKind.bits .u64))))))) ((((bits .xor .u64 (m) ((IntKind.u64.wrap (m * 2 ^ (min (13 : Int).toNat (IntKind.bits .u64))))))).fdiv (2 ^ (min (7 : Int).toNat (IntKind.bits .u64)))))) * 2 ^ (min (17 : Int).toNat (IntKind.bits .u64)))))))]) size179 (zA hN rfl) (zA hN rfl) rfl rfl rfl hs (zI rfl) rfl ?_
 intro w44 hs E45
 have := E45.size
 have hb := grown_trans hb E45
 refine zB ?_
 refine hK39 _ _ (zF fun K46 hK46 => ?_)
 refine zH ?_
 refine zG (zC hN rfl s0) ?_
 refine op_nil (zA hN rfl) (zN (v := (Value.int .u64 (bits .xor .u64 ((bits .xor .u64 ((bits .xor .u64 (m) ((IntKind.u64.wrap (m * 2 ^ (min (13 : Int).toNat (IntKind.bits .u64))))))) ((((bits .xor .u64 (m) ((IntKind.u64.wrap (m * 2 ^ (min (13 : Int).toNat (IntKind.bits .u64))))))).fdiv (2 ^ (min (7 : Int).toNat (IntKind.bits .u64))))))) ((IntKind.u64.wrap ((bits .xor .u64 ((bits .xor .u64 (m) ((IntKind.u64.wrap (m * 2 ^ (min (13 : Int).toNat (IntKind.bits .u64))))))) ((((bits .xor .u64 (m) ((IntKind.u64.wrap (m * 2 ^ (min (13 : Int).toNat (IntKind.bits .u64))))))).fdiv (2 ^ (min (7 : Int).toNat (IntKind.bits .u64)))))) * 2 ^ (min (17 : Int).toNat (IntKind.bits .u64)))))))) one179 (zA hN rfl) (hs.cell rfl) ?_)
 refine zD (zA hN rfl) ?_
 refine zB ?_
 refine hK46 _ _ (wp_ret ?_)
 refine ret1 rfl hd (zA hN rfl) ⟨_, rfl, ?_⟩
 have hrr := xor_rng (((bits .xor .u64 ((bits .xor .u64 (m) ((IntKind.u64.wrap (m * 2 ^ (min (13 : Int).toNat (IntKind.bits .u64))))))) ((((bits .xor .u64 (m) ((IntKind.u64.wrap (m * 2 ^ (min (13 : Int).toNat (IntKind.bits .u64))))))).fdiv (2 ^ (min (7 : Int).toNat (IntKind.bits .u64)))))))) (((IntKind.u64.wrap ((bits .xor .u64 ((bits .xor .u64 (m) ((IntKind.u64.wrap (m * 2 ^ (min (13 : Int).toNat (IntKind.bits .u64))))))) ((((bits .xor .u64 (m) ((IntKind.u64.wrap (m * 2 ^ (min (13 : Int).toNat (IntKind.bits .u64))))))).fdiv (2 ^ (min (7 : Int).toNat (IntKind.bits .u64)))))) * 2 ^ (min (17 : Int).toNat (IntKind.bits .u64))))))
 obtain ⟨rr, hrr2⟩ : ∃ r : Nat, (bits .xor .u64 ((bits .xor .u64 ((bits .xor .u64 (m) ((IntKind.u64.wrap (m * 2 ^ (min (13 : Int).toNat (IntKind.bits .u64))))))) ((((bits .xor .u64 (m) ((IntKind.u64.wrap (m * 2 ^ (min (13 : Int).toNat (IntKind.bits .u64))))))).fdiv (2 ^ (min (7 : Int).toNat (IntKind.bits .u64))))))) ((IntKind.u64.wrap ((bits .xor .u64 ((bits .xor .u64 (m) ((IntKind.u64.wrap (m * 2 ^ (min (13 : Int).toNat (IntKind.bits .u64))))))) ((((bits .xor .u64 (m) ((IntKind.u64.wrap (m * 2 ^ (min (13 : Int).toNat (IntKind.bits .u64))))))).fdiv (2 ^ (min (7 : Int).toNat (IntKind.bits .u64)))))) * 2 ^ (min (17 : Int).toNat (IntKind.bits .u64)))))) = (r : Int) := ⟨((bits .xor .u64 ((bits .xor .u64 ((bits .xor .u64 (m) ((IntKind.u64.wrap (m * 2 ^ (min (13 : Int).toNat (IntKind.bits .u64))))))) ((((bits .xor .u64 (m) ((IntKind.u64.wrap (m * 2 ^ (min (13 : Int).toNat (IntKind.bits .u64))))))).fdiv (2 ^ (min (7 : Int).toNat (IntKind.bits .u64))))))) ((IntKind.u64.wrap ((bits .xor .u64 ((bits .xor .u64 (m) ((IntKind.u64.wrap (m * 2 ^ (min (13 : Int).toNat (IntKind.bits .u64))))))) ((((bits .xor .u64 (m) ((IntKind.u64.wrap (m * 2 ^ (min (13 : Int).toNat (IntKind.bits .u64))))))).fdiv (2 ^ (min (7 : Int).toNat (IntKind.bits .u64)))))) * 2 ^ (min (17 : Int).toNat (IntKind.bits .u64))))))).toNat, by omega⟩
 rw [hrr2] at hrr
 exact ⟨hb, rr, congrArg (Value.int .u64) hrr2, by omega, by have hz := hs; rw [hrr2] at hz; exact hz⟩
open Go.Sort (insertionSort insOuter insInner swp siftDown heapSort heapBuild heapPop scanUp scanDown partition partLoop partitionEqual partEqLoop scanSorted partialIns bitsLen partialInsertionSort shiftDown shiftUp SortedIn reverseRange reverseLoop fixDown fixUp)
theorem order2W_ret (d : Ar) (v : Value) (n B s m : Nat) (a b : Nat) (w : World) (hd : d.size = n) (hn : n ≤ 4000000000000000000) (hv : RdC w 0 B 1 v n (d.toList.map u16v)) (hBs : B ≤ s) (hs : Bx w s 3 [.int .i64 (m : Int)]) (hm : m ≤ 100000) (ha : a < n) (hb2 : b < n) : Ret Try.prog 143 #[v, (.int .i64 ((a : Nat) : Int)), (.int .i64 ((b : Nat) : Int)), (ptr s 0)] w (fun v' w' => w.grownBy w' (some s) ∧ ∃ x y m' : Nat, v' = .tuple #[.int .i64 (x : Int), .int .i64 (y : Int)] ∧ ((x = a ∧ y = b) ∨ (x = b ∧ y = a)) ∧ m' ≤ m + 1 ∧ Bx w' s 3 [.int .i64 (m' : Int)]) := by
 have hs_lt := hs.lt
 have hb := grown_refl w (some s)
 refine enter (N := 28) Try.func143 rfl rfl (by simp) fun a0 hN hd hA => ?_
 have s0 : a0.tmps.getD 0 undef = v := hA 0 (by simp)
 have s1 : a0.tmps.getD 1 undef = (.int .i64 ((a : Nat) : Int)) := hA 1 (by simp)
 have s2 : a0.tmps.getD 2 undef = (.int .i64 ((b : Nat) : Int)) := hA 2 (by simp)
 have s3 : a0.tmps.getD 3 undef = (ptr s 0) := hA 3 (by simp)
 clear hA
 refine zF fun K1 hK1 => ?_
 refine zH ?_
 refine zD rfl ?_
 refine zD rfl ?_
 refine zB ?_
 refine hK1 _ _ (zF fun K2 hK2 => ?_)
 refine zF fun K3 hK3 => ?_
 refine reg_still mixed zy ?_
 intro w5 E4
 have := E4.size
 have hv := hv.keep0 E4
 have hs := hs.keep0 E4
 have hb := grow_step0 hb E4
 refine st_step rfl (fun _ h9 => zG (zC hN rfl s0) h9) ?_
 refine st_step rfl (fun _ h9 => zG (zC hN rfl s2) h9) ?_
 refine st_index_rd slt42 (zA hN rfl) hv (zA hN rfl) zx zx ?_
 intro b6 o7 h0b6 h1b6 hc8
 refine st_step rfl (fun _ h9 => zN (v := (Value.int .u16 (d[b]!.toNat : Int))) one74 (zA hN rfl) (by have := hc8 0 (.int .u16 (d[b]!.toNat : Int)) zz (el_arr (i := b) zx (by first | omega | (simp only [Array.size_setIfInBounds, swp_sz, siftDown_size]; omega))); simpa using this) h9) ?_
 refine st_step rfl (fun _ h9 => zG (zC hN rfl s0) h9) ?_
 refine st_step rfl (fun _ h9 => zG (zC hN rfl s1) h9) ?_
 refine st_index_rd slt42 (zA hN rfl) hv (zA hN rfl) zx zx ?_
 intro b9 o10 h0b9 h1b9 hc11
 refine st_step rfl (fun _ h9 => zN (v := (Value.int .u16 (d[a]!.toNat : Int))) one74 (zA hN rfl) (by have := hc11 0 (.int .u16 (d[a]!.toNat : Int)) zz (el_arr (i := a) zx (by first | omega | (simp only [Array.size_setIfInBounds, swp_sz, siftDown_size]; omega))); simpa using this) h9) ?_
 refine st_fn (vs := [(.int .u16 (d[b]!.toNat : Int)), (.int .u16 (d[a]!.toNat : Int))]) ok132 (⟨(zA hN rfl), ⟨(zA hN rfl), trivial⟩⟩) (Less16_ret d[b]! d[a]! _) ?_
 refine st_nil ?_
 refine hK3 _ _ (wp_cond_split (zA hN rfl) (fun c18 => ?_) (fun c18 => ?_))
 ·
  refine zF fun K12 hK12 => ?_
  refine zH ?_
  refine zG (zC hN rfl s3) ?_
  refine op_nil (zA hN rfl) (zN (v := (Value.int .i64 ((m : Nat) : Int))) one3 (zA hN rfl) (hs.cell rfl) ?_)
  refine op_add (r := ((m + 1 : Nat) : Int)) (zA hN rfl) rfl (by rw [IntKind.wrap_i64]; omega) ?_
  refine op_nil (zA hN rfl) (za (vs := [(.int .i64 ((m + 1 : Nat) : Int))]) (cs' := [(.int .i64 ((m + 1 : Nat) : Int))]) size3 (zA hN rfl) (zA hN rfl) rfl rfl rfl hs (zI rfl) rfl ?_)
  intro w15 hs E16
  have := E16.size
  have hb := grown_trans hb E16
  refine zB ?_
  refine hK12 _ _ (zF fun K17 hK17 => ?_)
  refine zH ?_
  refine zG (zC hN rfl s2) ?_
  refine zG (zC hN rfl s1) ?_
  refine zD (zA hN rfl) ?_
  refine zD (zA hN rfl) ?_
  refine zB ?_
  refine hK17 _ _ (wp_ret (zO ( ?_)))
  refine ret2 rfl hd (zA hN rfl) (zA hN rfl) ⟨_, rfl, ?_⟩
  exact ⟨hb, _, _, _, rfl, .inr ⟨rfl, rfl⟩, by omega, hs⟩
 refine wp_skip (hK2 _ _ (zF fun K18 hK18 => ?_))
 refine zH ?_
 refine zG (zC hN rfl s1) ?_
 refine zG (zC hN rfl s2) ?_
 refine zD (zA hN rfl) ?_
 refine zD (zA hN rfl) ?_
 refine zB ?_
 refine hK18 _ _ (wp_ret ?_)
 refine ret2 rfl hd (zA hN rfl) (zA hN rfl) ⟨_, rfl, ?_⟩
 exact ⟨hb, _, _, _, rfl, .inl ⟨rfl, rfl⟩, by omega, hs⟩

theorem medianW_ret (d : Ar) (v : Value) (n B s m : Nat) (a b c : Nat) (w : World) (hd : d.size = n) (hn : n ≤ 4000000000000000000) (hv : RdC w 0 B 1 v n (d.toList.map u16v)) (hBs : B ≤ s) (hs : Bx w s 3 [.int .i64 (m : Int)]) (hm : m ≤ 90000) (ha : a < n) (hb2 : b < n) (hc2 : c < n) : Ret Try.prog 141 #[v, (.int .i64 ((a : Nat) : Int)), (.int .i64 ((b : Nat) : Int)), (.int .i64 ((c : Nat) : Int)), (ptr s 0)] w (fun v' w' => w.grownBy w' (some s) ∧ ∃ x m' : Nat, v' = .int .i64 (x : Int) ∧ (x = a ∨ x = b ∨ x = c) ∧ m' ≤ m + 3 ∧ Bx w' s 3 [.int .i64 (m' : Int)]) := by
 have hs_lt := hs.lt
 have hb := grown_refl w (some s)
 refine enter (N := 36) Try.func141 rfl rfl (by simp) fun a0 hN hd hA => ?_
 have s0 : a0.tmps.getD 0 undef = v := hA 0 (by simp)
 have s1 : a0.tmps.getD 1 undef = (.int .i64 ((a : Nat) : Int)) := hA 1 (by simp)
 have s2 : a0.tmps.getD 2 undef = (.int .i64 ((b : Nat) : Int)) := hA 2 (by simp)
 have s3 : a0.tmps.getD 3 undef = (.int .i64 ((c : Nat) : Int)) := hA 3 (by simp)
 have s4 : a0.tmps.getD 4 undef = (ptr s 0) := hA 4 (by simp)
 clear hA
 refine zF fun K19 hK19 => ?_
 refine zH ?_
 refine zD rfl ?_
 refine zB ?_
 refine hK19 _ _ (zF fun K20 hK20 => ?_)
 refine zH ?_
 refine zG (zC hN rfl s0) ?_
 refine zG (zC hN rfl s1) ?_
 refine zG (zC hN rfl s2) ?_
 refine zG (zC hN rfl s4) ?_
 refine zj ok143 (order2W_ret d v _ B s m a b _ (by first | assumption | (simp only [Array.size_setIfInBounds, swp_sz, siftDown_size]; assumption)) zx hv zx hs zx zx zx) ⟨(zA hN rfl), ⟨(zA hN rfl), ⟨(zA hN rfl), ⟨(zA hN rfl), trivial⟩⟩⟩⟩ ?_
 rintro _ w22 ⟨E23, x21, y21, m21, rfl, hx21, hm21, hs21⟩
 have := E23.size
 have hv := hv.keep E23 sR
 have hb := grown_trans hb E23
 refine zG (zA hN rfl) ?_
 refine zW (zA hN rfl) rfl ?_
 refine zW (zA hN rfl) rfl ?_
 refine zD (zA hN rfl) ?_
 refine zD (zA hN rfl) ?_
 refine zB ?_
 refine hK20 _ _ (zF fun K24 hK24 => ?_)
 refine zH ?_
 refine zG (zC hN rfl s0) ?_
 refine zG (zA hN rfl) ?_
 refine zG (zC hN rfl s3) ?_
 refine zG (zC hN rfl s4) ?_
 refine zj ok143 (order2W_ret d v _ B s m21 y21 c _ (by first | assumption | (simp only [Array.size_setIfInBounds, swp_sz, siftDown_size]; assumption)) zx hv zx hs21 zx zx zx) ⟨(zA hN rfl), ⟨(zA hN rfl), ⟨(zA hN rfl), ⟨(zA hN rfl), trivial⟩⟩⟩⟩ ?_
 rintro _ w26 ⟨E27, x25, y25, m25, rfl, hx25, hm25, hs25⟩
 have := E27.size
 have hv := hv.keep E27 sR
 have hb := grown_trans hb E27
 refine zG (zA hN rfl) ?_
 refine zW (zA hN rfl) rfl ?_
 refine zW (zA hN rfl) rfl ?_
 refine zD (zA hN rfl) ?_
 refine zD (zA hN rfl) ?_
 refine zB ?_
 refine hK24 _ _ (zF fun K28 hK28 => ?_)
 refine zH ?_
 refine zG (zC hN rfl s0) ?_
 refine zG (zA hN rfl) ?_
 refine zG (zA hN rfl) ?_
 refine zG (zC hN rfl s4) ?_
 refine zj ok143 (order2W_ret d v _ B s m25 x21 x25 _ (by first | assumption | (simp only [Array.size_setIfInBounds, swp_sz, siftDown_size]; assumption)) zx hv zx hs25 zx zx zx) ⟨(zA hN rfl), ⟨(zA hN rfl), ⟨(zA hN rfl), ⟨(zA hN rfl), trivial⟩⟩⟩⟩ ?_
 rintro _ w30 ⟨E31, x29, y29, m29, rfl, hx29, hm29, hs29⟩
 have := E31.size
 have hb := grown_trans hb E31
 refine zG (zA hN rfl) ?_
 refine zW (zA hN rfl) rfl ?_
 refine zW (zA hN rfl) rfl ?_
 refine zD (zA hN rfl) ?_
 refine zD (zA hN rfl) ?_
 refine zB ?_
 refine hK28 _ _ (zF fun K32 hK32 => ?_)
 refine zH ?_
 refine zG (zA hN rfl) ?_
 refine zD (zA hN rfl) ?_
 refine zB ?_
 refine hK32 _ _ (wp_ret ?_)
 refine ret1 rfl hd (zA hN rfl) ⟨_, rfl, ?_⟩
 exact ⟨hb, _, _, rfl, by omega, by omega, hs29⟩

theorem medAdjW_ret (d : Ar) (v : Value) (n B s m : Nat) (a : Nat) (w : World) (hd : d.size = n) (hn : n ≤ 4000000000000000000) (hv : RdC w 0 B 1 v n (d.toList.map u16v)) (hBs : B ≤ s) (hs : Bx w s 3 [.int .i64 (m : Int)]) (hm : m ≤ 80000) (h1 : 1 ≤ a) (ha : a + 1 < n) : Ret Try.prog 140 #[v, (.int .i64 ((a : Nat) : Int)), (ptr s 0)] w (fun v' w' => w.grownBy w' (some s) ∧ ∃ x m' : Nat, v' = .int .i64 (x : Int) ∧ (x = a - 1 ∨ x = a ∨ x = a + 1) ∧ m' ≤ m + 3 ∧ Bx w' s 3 [.int .i64 (m' : Int)]) := by
 have hs_lt := hs.lt
 have hb := grown_refl w (some s)
 refine enter (N := 15) Try.func140 rfl rfl (by simp) fun a0 hN hd hA => ?_
 have s0 : a0.tmps.getD 0 undef = v := hA 0 (by simp)
 have s1 : a0.tmps.getD 1 undef = (.int .i64 ((a : Nat) : Int)) := hA 1 (by simp)
 have s2 : a0.tmps.getD 2 undef = (ptr s 0) := hA 2 (by simp)
 clear hA
 refine zF fun K33 hK33 => ?_
 refine zH ?_
 refine zD rfl ?_
 refine zB ?_
 refine hK33 _ _ (zF fun K34 hK34 => ?_)
 refine zH ?_
 refine zG (zC hN rfl s0) ?_
 refine zG (zC hN rfl s1) ?_
 refine op_sub (r := ((a - 1 : Nat) : Int)) (zA hN rfl) rfl (by rw [IntKind.wrap_i64]; omega) ?_
 refine zG (zC hN rfl s1) ?_
 refine zG (zC hN rfl s1) ?_
 refine op_add (zA hN rfl) rfl (add64 zx) ?_
 refine zG (zC hN rfl s2) ?_
 refine zj ok141 (medianW_ret d v _ B s m (a - 1) a (a + 1) _ (by first | assumption | (simp only [Array.size_setIfInBounds, swp_sz, siftDown_size]; assumption)) zx hv zx hs zx zx zx zx) ⟨(zA hN rfl), ⟨(zA hN rfl), ⟨(zA hN rfl), ⟨(zA hN rfl), ⟨(zA hN rfl), trivial⟩⟩⟩⟩⟩ ?_
 rintro _ w36 ⟨E37, x35, m35, rfl, hx35, hm35, hs35⟩
 have := E37.size
 have hb := grown_trans hb E37
 refine zD (zA hN rfl) ?_
 refine zB ?_
 refine hK34 _ _ (wp_ret ?_)
 refine ret1 rfl hd (zA hN rfl) ⟨_, rfl, ?_⟩
 exact ⟨hb, _, _, rfl, by omega, by omega, hs35⟩

set_option maxHeartbeats 2000000 in
theorem choosePW_ret (d : Ar) (v : Value) (n a b : Nat) (w : World) (hd : d.size = n) (hn : n ≤ 4000000000000000000) (hv : RdC w 0 w.heap.size 1 v n (d.toList.map u16v)) (hab : a < b) (hbn : b ≤ n) : Ret Try.prog 129 #[v, (.int .i64 ((a : Nat) : Int)), (.int .i64 ((b : Nat) : Int))] w (fun v' w' => Below w.heap.size w w' ∧ ∃ (x : Nat) (h : Int), v' = .tuple #[.int .i64 (x : Int), .int .i64 h] ∧ a ≤ x ∧ x < b) := by
 have hb := Below.refl w.heap.size w
 refine enter (N := 57) Try.func129 rfl rfl (by simp) fun a0 hN hd hA => ?_
 have s0 : a0.tmps.getD 0 undef = v := hA 0 (by simp)
 have s1 : a0.tmps.getD 1 undef = (.int .i64 ((a : Nat) : Int)) := hA 1 (by simp)
 have s2 : a0.tmps.getD 2 undef = (.int .i64 ((b : Nat) : Int)) := hA 2 (by simp)
 clear hA
 refine zF fun K38 hK38 => ?_
 refine zH ?_
 refine zD rfl ?_
 refine zD rfl ?_
 refine zB ?_
 refine hK38 _ _ (zF fun K39 hK39 => ?_)
 refine zH ?_
 refine zG (zC hN rfl s2) ?_
 refine zG (zC hN rfl s1) ?_
 refine op_sub (r := ((b - a : Nat) : Int)) (zA hN rfl) (zA hN rfl) (by rw [IntKind.wrap_i64]; omega) ?_
 refine zD (zA hN rfl) ?_
 refine zB ?_
 refine hK39 _ _ (zF fun K40 hK40 => ?_)
 refine zH ?_
 refine op_alloc (cs := [(.int .i64 0)]) zero3 rfl ?_
 intro w41 b42 lo_b42 hi_b42 hB44 E43
 have := E43.size
 have hv := hv.keep0 E43
 have hb := zP hb E43 hb.size
 refine zB ?_
 refine hK40 _ _ (zF fun K45 hK45 => ?_)
 refine zH ?_
 refine zG (zC hN rfl s1) ?_
 refine zG (zA hN rfl) ?_
 refine op_quo (r := ((((b - a) / 4) : Nat) : Int)) (zA hN rfl) rfl zz (by rw [IntKind.wrap_i64, Int.tdiv_eq_ediv_of_nonneg zx]; omega) ?_
 refine op_mul (zA hN rfl) rfl (mul64 zx) ?_
 refine op_add (zA hN rfl) (zA hN rfl) (add64 zx) ?_
 refine zD (zA hN rfl) ?_
 refine zB ?_
 refine hK45 _ _ (zF fun K46 hK46 => ?_)
 refine zH ?_
 refine zG (zC hN rfl s1) ?_
 refine zG (zA hN rfl) ?_
 refine op_quo (r := ((((b - a) / 4) : Nat) : Int)) (zA hN rfl) rfl zz (by rw [IntKind.wrap_i64, Int.tdiv_eq_ediv_of_nonneg zx]; omega) ?_
 refine op_mul (zA hN rfl) rfl (mul64 zx) ?_
 refine op_add (zA hN rfl) (zA hN rfl) (add64 zx) ?_
 refine zD (zA hN rfl) ?_
 refine zB ?_
 refine hK46 _ _ (zF fun K47 hK47 => ?_)
 refine zH ?_
 refine zG (zC hN rfl s1) ?_
 refine zG (zA hN rfl) ?_
 refine op_quo (r := ((((b - a) / 4) : Nat) : Int)) (zA hN rfl) rfl zz (by rw [IntKind.wrap_i64, Int.tdiv_eq_ediv_of_nonneg zx]; omega) ?_
 refine op_mul (zA hN rfl) rfl (mul64 zx) ?_
 refine op_add (zA hN rfl) (zA hN rfl) (add64 zx) ?_
 refine zD (zA hN rfl) ?_
 refine zB ?_
 refine hK47 _ _ (zF fun K48 hK48 => ?_)
 refine zF fun K49 hK49 => ?_
 refine zH ?_
 refine zG (zA hN rfl) ?_
 refine op_geq (zA hN rfl) rfl (fun c32 => ?_) (fun c32 => ?_)
 ·
  refine zB ?_
  refine hK49 _ _ (wp_cond_true (zA hN rfl) (zF fun K50 hK50 => ?_))
  refine zF fun K51 hK51 => ?_
  refine zH ?_
  refine zG (zA hN rfl) ?_
  refine op_geq (zA hN rfl) rfl (fun c34 => ?_) (fun c34 => ?_)
  ·
   refine zB ?_
   refine hK51 _ _ (wp_cond_true (zA hN rfl) (zF fun K52 hK52 => ?_))
   refine zH ?_
   refine zG (zC hN rfl s0) ?_
   refine zG (zA hN rfl) ?_
   refine zj ok140 (medAdjW_ret d v _ w.heap.size b42 0 (a + (((b - a) / 4) * 1)) _ (by first | assumption | (simp only [Array.size_setIfInBounds, swp_sz, siftDown_size]; assumption)) zx hv zx hB44 zx zx zx) ⟨(zA hN rfl), ⟨(zA hN rfl), ⟨(zA hN rfl), trivial⟩⟩⟩ ?_
   rintro _ w54 ⟨E55, x53, m53, rfl, hx53, hm53, hs53⟩
   have := E55.size
   have hv := hv.keep E55 sR
   have hb := below_step1 hb E55 hb.size zx
   refine zD (zA hN rfl) ?_
   refine zB ?_
   refine hK52 _ _ (zF fun K56 hK56 => ?_)
   refine zH ?_
   refine zG (zC hN rfl s0) ?_
   refine zG (zA hN rfl) ?_
   refine zj ok140 (medAdjW_ret d v _ w.heap.size b42 m53 (a + (((b - a) / 4) * 2)) _ (by first | assumption | (simp only [Array.size_setIfInBounds, swp_sz, siftDown_size]; assumption)) zx hv zx hs53 zx zx zx) ⟨(zA hN rfl), ⟨(zA hN rfl), ⟨(zA hN rfl), trivial⟩⟩⟩ ?_
   rintro _ w58 ⟨E59, x57, m57, rfl, hx57, hm57, hs57⟩
   have := E59.size
   have hv := hv.keep E59 sR
   have hb := below_step1 hb E59 hb.size zx
   refine zD (zA hN rfl) ?_
   refine zB ?_
   refine hK56 _ _ (zH ?_)
   refine zG (zC hN rfl s0) ?_
   refine zG (zA hN rfl) ?_
   refine zj ok140 (medAdjW_ret d v _ w.heap.size b42 m57 (a + (((b - a) / 4) * 3)) _ (by first | assumption | (simp only [Array.size_setIfInBounds, swp_sz, siftDown_size]; assumption)) zx hv zx hs57 zx zx zx) ⟨(zA hN rfl), ⟨(zA hN rfl), ⟨(zA hN rfl), trivial⟩⟩⟩ ?_
   rintro _ w61 ⟨E62, x60, m60, rfl, hx60, hm60, hs60⟩
   have := E62.size
   have hv := hv.keep E62 sR
   have hb := below_step1 hb E62 hb.size zx
   refine zD (zA hN rfl) ?_
   refine zB ?_
   refine hK50 _ _ (zH ?_)
   refine zG (zC hN rfl s0) ?_
   refine zG (zA hN rfl) ?_
   refine zG (zA hN rfl) ?_
   refine zG (zA hN rfl) ?_
   refine zj ok141 (medianW_ret d v _ w.heap.size b42 m60 x53 x57 x60 _ (by first | assumption | (simp only [Array.size_setIfInBounds, swp_sz, siftDown_size]; assumption)) zx hv zx hs60 zx zx zx zx) ⟨(zA hN rfl), ⟨(zA hN rfl), ⟨(zA hN rfl), ⟨(zA hN rfl), ⟨(zA hN rfl), trivial⟩⟩⟩⟩⟩ ?_
   rintro _ w64 ⟨E65, x63, m63, rfl, hx63, hm63, hs63⟩
   have := E65.size
   have hb := below_step1 hb E65 hb.size zx
   refine zD (zA hN rfl) ?_
   refine zB ?_
   refine hK48 _ _ (zF fun K66 hK66 => ?_)
   refine zH ?_
   refine zN (v := (Value.int .i64 ((m63 : Nat) : Int))) one3 (zA hN rfl) (hs63.cell rfl) ?_
   refine zB ?_
   refine hK66 _ _ (wp_block ?_)
   refine zF fun K67 hK67 => ?_
   refine zH ?_
   refine op_eql (zA hN rfl) rfl (fun c52 => ?_) (fun c52 => ?_)
   ·
    refine zD (zA hN rfl) ?_
    refine zB ?_
    refine hK67 _ _ (wp_cond_true (zA hN rfl) (zF fun K68 hK68 => ?_))
    refine zH ?_
    refine zG (zA hN rfl) ?_
    refine zD (zA hN rfl) ?_
    refine zD rfl ?_
    refine zB ?_
    refine hK68 _ _ (wp_ret (zb ( ?_)))
    refine ret2 rfl hd (zA hN rfl) (zA hN rfl) ⟨_, rfl, ?_⟩
    exact ⟨hb, x63, _, congrArg (fun q : Int => Value.tuple #[.int .i64 q, _]) zx, by omega, by omega⟩
   refine zD (zA hN rfl) ?_
   refine zB ?_
   refine hK67 _ _ (wp_cond_false (zA hN rfl) (zF fun K69 hK69 => ?_))
   refine zH ?_
   refine op_eql (zA hN rfl) rfl (fun c55 => ?_) (fun c55 => ?_)
   ·
    refine zD (zA hN rfl) ?_
    refine zB ?_
    refine hK69 _ _ (wp_cond_true (zA hN rfl) (zF fun K70 hK70 => ?_))
    refine zH ?_
    refine zG (zA hN rfl) ?_
    refine zD (zA hN rfl) ?_
    refine zD rfl ?_
    refine zB ?_
    refine hK70 _ _ (wp_ret (zb ( ?_)))
    refine ret2 rfl hd (zA hN rfl) (zA hN rfl) ⟨_, rfl, ?_⟩
    exact ⟨hb, x63, _, congrArg (fun q : Int => Value.tuple #[.int .i64 q, _]) zx, by omega, by omega⟩
   refine zD (zA hN rfl) ?_
   refine zB ?_
   refine hK69 _ _ (wp_cond_false (zA hN rfl) (zF fun K71 hK71 => ?_))
   refine zH ?_
   refine zG (zA hN rfl) ?_
   refine zD (zA hN rfl) ?_
   refine zD rfl ?_
   refine zB ?_
   refine hK71 _ _ (wp_ret (zb ( ?_)))
   refine ret2 rfl hd (zA hN rfl) (zA hN rfl) ⟨_, rfl, ?_⟩
   exact ⟨hb, x63, _, congrArg (fun q : Int => Value.tuple #[.int .i64 q, _]) zx, by omega, by omega⟩
  refine zB ?_
  refine hK51 _ _ (wp_cond_false (zA hN rfl) (wp_skip (hK50 _ _ (zH ?_))))
  refine zG (zC hN rfl s0) ?_
  refine zG (zA hN rfl) ?_
  refine zG (zA hN rfl) ?_
  refine zG (zA hN rfl) ?_
  refine zj ok141 (medianW_ret d v _ w.heap.size b42 0 (a + (((b - a) / 4) * 1)) (a + (((b - a) / 4) * 2)) (a + (((b - a) / 4) * 3)) _ (by first | assumption | (simp only [Array.size_setIfInBounds, swp_sz, siftDown_size]; assumption)) zx hv zx hB44 zx zx zx zx) ⟨(zA hN rfl), ⟨(zA hN rfl), ⟨(zA hN rfl), ⟨(zA hN rfl), ⟨(zA hN rfl), trivial⟩⟩⟩⟩⟩ ?_
  rintro _ w73 ⟨E74, x72, m72, rfl, hx72, hm72, hs72⟩
  have := E74.size
  have hb := below_step1 hb E74 hb.size zx
  refine zD (zA hN rfl) ?_
  refine zB ?_
  refine hK48 _ _ (zF fun K75 hK75 => ?_)
  refine zH ?_
  refine zN (v := (Value.int .i64 ((m72 : Nat) : Int))) one3 (zA hN rfl) (hs72.cell rfl) ?_
  refine zB ?_
  refine hK75 _ _ (wp_block ?_)
  refine zF fun K76 hK76 => ?_
  refine zH ?_
  refine op_eql (zA hN rfl) rfl (fun c52 => ?_) (fun c52 => ?_)
  ·
   refine zD (zA hN rfl) ?_
   refine zB ?_
   refine hK76 _ _ (wp_cond_true (zA hN rfl) (zF fun K77 hK77 => ?_))
   refine zH ?_
   refine zG (zA hN rfl) ?_
   refine zD (zA hN rfl) ?_
   refine zD rfl ?_
   refine zB ?_
   refine hK77 _ _ (wp_ret (zb ( ?_)))
   refine ret2 rfl hd (zA hN rfl) (zA hN rfl) ⟨_, rfl, ?_⟩
   exact ⟨hb, x72, _, congrArg (fun q : Int => Value.tuple #[.int .i64 q, _]) zx, by omega, by omega⟩
  refine zD (zA hN rfl) ?_
  refine zB ?_
  refine hK76 _ _ (wp_cond_false (zA hN rfl) (zF fun K78 hK78 => ?_))
  refine zH ?_
  refine op_eql (zA hN rfl) rfl (fun c55 => ?_) (fun c55 => ?_)
  ·
   refine zD (zA hN rfl) ?_
   refine zB ?_
   refine hK78 _ _ (wp_cond_true (zA hN rfl) (zF fun K79 hK79 => ?_))
   refine zH ?_
   refine zG (zA hN rfl) ?_
   refine zD (zA hN rfl) ?_
   refine zD rfl ?_
   refine zB ?_
   refine hK79 _ _ (wp_ret (zb ( ?_)))
   refine ret2 rfl hd (zA hN rfl) (zA hN rfl) ⟨_, rfl, ?_⟩
   exact ⟨hb, x72, _, congrArg (fun q : Int => Value.tuple #[.int .i64 q, _]) zx, by omega, by omega⟩
  refine zD (zA hN rfl) ?_
  refine zB ?_
  refine hK78 _ _ (wp_cond_false (zA hN rfl) (zF fun K80 hK80 => ?_))
  refine zH ?_
  refine zG (zA hN rfl) ?_
  refine zD (zA hN rfl) ?_
  refine zD rfl ?_
  refine zB ?_
  refine hK80 _ _ (wp_ret (zb ( ?_)))
  refine ret2 rfl hd (zA hN rfl) (zA hN rfl) ⟨_, rfl, ?_⟩
  exact ⟨hb, x72, _, congrArg (fun q : Int => Value.tuple #[.int .i64 q, _]) zx, by omega, by omega⟩
 refine zB ?_
 refine hK49 _ _ (wp_cond_false (zA hN rfl) (wp_skip (hK48 _ _ (zF fun K81 hK81 => ?_))))
 refine zH ?_
 refine zN (v := (Value.int .i64 0)) one3 (zA hN rfl) (hB44.cell rfl) ?_
 refine zB ?_
 refine hK81 _ _ (wp_block ?_)
 refine zF fun K82 hK82 => ?_
 refine zH ?_
 refine op_bin (v := .bool true) (zA hN rfl) rfl (by rw [binOp_eql]; rfl) (zD (zA hN rfl) ?_)
 refine zB ?_
 refine hK82 _ _ (wp_cond_true (zA hN rfl) (zF fun K83 hK83 => ?_))
 refine zH ?_
 refine zG (zA hN rfl) ?_
 refine zD (zA hN rfl) ?_
 refine zD rfl ?_
 refine zB ?_
 refine hK83 _ _ (wp_ret (zb ( ?_)))
 refine ret2 rfl hd (zA hN rfl) (zA hN rfl) ⟨_, rfl, ?_⟩
 exact ⟨hb, (a + (((b - a) / 4) * 2)), _, congrArg (fun q : Int => Value.tuple #[.int .i64 q, _]) zx, by omega, by omega⟩
open Go.Sort (insertionSort insOuter insInner swp siftDown heapSort heapBuild heapPop scanUp scanDown partition partLoop partitionEqual partEqLoop scanSorted partialIns bitsLen partialInsertionSort shiftDown shiftUp SortedIn reverseRange reverseLoop fixDown fixUp)
set_option maxHeartbeats 2000000 in
theorem partEqW_ret (d : Ar) (v : Value) (n base : Nat) (a b pv : Nat) (w : World) (hd : d.size = n) (hn : n ≤ 4000000000000000000) (O : Own w base 74 1 v n (d.toList.map u16v)) (hap : a ≤ pv) (hpb : pv < b) (hbn : b ≤ n) : Ret Try.prog 133 #[v, (.int .i64 ((a : Nat) : Int)), (.int .i64 ((b : Nat) : Int)), (.int .i64 ((pv : Nat) : Int))] w (fun v' w' => w.grownBy w' v.ownBlock ∧ v' = .int .i64 ((partitionEqual ltT d a b pv).1 : Int) ∧ Own w' base 74 1 v n ((partitionEqual ltT d a b pv).2.toList.map u16v)) := by
 have hb := grown_refl w v.ownBlock
 refine enter (N := 84) Try.func133 rfl rfl (by simp) fun a0 hN hd hA => ?_
 have s0 : a0.tmps.getD 0 undef = v := hA 0 (by simp)
 have s1 : a0.tmps.getD 1 undef = (.int .i64 ((a : Nat) : Int)) := hA 1 (by simp)
 have s2 : a0.tmps.getD 2 undef = (.int .i64 ((b : Nat) : Int)) := hA 2 (by simp)
 have s3 : a0.tmps.getD 3 undef = (.int .i64 ((pv : Nat) : Int)) := hA 3 (by simp)
 clear hA
 refine zF fun K1 hK1 => ?_
 refine zH ?_
 refine zD rfl ?_
 refine zB ?_
 refine hK1 _ _ (zF fun K2 hK2 => ?_)
 refine reg_mid (e := 74) (sz := 1) (base := base) (n := n) (v := v) (Φ := phiL [(fun uz _ => uz = v), (fun uz _ => uz = (.int .i64 ((a : Nat) : Int))), (fun uz _ => uz = v), (fun uz _ => uz = (.int .i64 ((pv : Nat) : Int))), (fun uz _ => uz = v), (fun uz _ => uz = (.int .i64 ((pv : Nat) : Int))), (fun uz _ => ∃ bz oz, uz = ptr bz oz ∧ AtV v pv bz oz), (fun uz _ => uz = (.int .u16 (d[pv]!.toNat : Int))), (fun uz _ => uz = v), (fun uz _ => uz = (.int .i64 ((a : Nat) : Int))), (fun uz _ => ∃ bz oz, uz = ptr bz oz ∧ AtV v a bz oz), (fun uz _ => uz = (.int .u16 (d[a]!.toNat : Int))), (fun uz _ => ∃ bz oz, uz = ptr bz oz ∧ AtV v a bz oz), (fun _ _ => True), (fun uz _ => ∃ bz oz, uz = ptr bz oz ∧ AtV v pv bz oz), (fun _ _ => True)]) [13, 15] [(d.toList.map u16v), ((d.setIfInBounds a d[pv]!).toList.map u16v), (((d.setIfInBounds a d[pv]!).setIfInBounds pv d[a]!).toList.map u16v)] mixed zy zy zy zy hN O (StL.get (StL.eq (StL.eq (StL.eq (StL.eq (StL.eq (StL.eq (StL.at (StL.eq (StL.eq (StL.eq (StL.at (StL.eq (StL.at (StL.cons (fun _ _ _ _ h => h) (StL.at (StL.cons (fun _ _ _ _ h => h) (StL.nil _)))))))))))))))))) (ObRs.get (ObRs.cons ?_ (ObRs.cons ?_ (ObRs.cons ?_ (ObRs.cons ?_ (ObRs.cons ?_ (ObRs.cons ?_ (ObRs.cons ?_ (ObRs.cons ?_ (ObRs.cons ?_ (ObRs.cons ?_ (ObRs.cons ?_ (ObRs.cons ?_ (ObRs.cons ?_ (ObRs.pass rfl (ObRs.cons ?_ (ObRs.pass rfl (ObRs.nil)))))))))))))))))) (ObWs.get (ObWs.cons ?_ (ObWs.cons ?_ (ObWs.nil)))) ?_
 ·
  intro aA wA cA hNA hRA hckA hOA hbsA hdpA
  have qA_0 := (hbsA 0 rfl).trans (zL hN rfl s0)
  clear hbsA hdpA
  refine zG (zC hNA rfl qA_0) ?_
  exact obR_end rfl rfl (grown_refl _ _)
 ·
  intro aA wA cA hNA hRA hckA hOA hbsA hdpA
  have qA_1 := (hbsA 1 rfl).trans (zL hN rfl s1)
  clear hbsA hdpA
  refine zG (zC hNA rfl qA_1) ?_
  exact obR_end rfl rfl (grown_refl _ _)
 ·
  intro aA wA cA hNA hRA hckA hOA hbsA hdpA
  have qA_0 := (hbsA 0 rfl).trans (zL hN rfl s0)
  clear hbsA hdpA
  refine zG (zC hNA rfl qA_0) ?_
  exact obR_end rfl rfl (grown_refl _ _)
 ·
  intro aA wA cA hNA hRA hckA hOA hbsA hdpA
  have qA_3 := (hbsA 3 rfl).trans (zL hN rfl s3)
  clear hbsA hdpA
  refine zG (zC hNA rfl qA_3) ?_
  exact obR_end rfl rfl (grown_refl _ _)
 ·
  intro aA wA cA hNA hRA hckA hOA hbsA hdpA
  have qA_0 := (hbsA 0 rfl).trans (zL hN rfl s0)
  clear hbsA hdpA
  refine zG (zC hNA rfl qA_0) ?_
  exact obR_end rfl rfl (grown_refl _ _)
 ·
  intro aA wA cA hNA hRA hckA hOA hbsA hdpA
  have qA_3 := (hbsA 3 rfl).trans (zL hN rfl s3)
  clear hbsA hdpA
  refine zG (zC hNA rfl qA_3) ?_
  exact obR_end rfl rfl (grown_refl _ _)
 ·
  intro aA wA cA hNA hRA hckA hOA hbsA hdpA
  have qA_15 : Sl aA 15 v := hdpA 4 _ 15 zy rfl rfl
  have qA_16 : Sl aA 16 (.int .i64 ((pv : Nat) : Int)) := hdpA 5 _ 16 zy rfl rfl
  clear hbsA hdpA
  refine op_index_own (i := pv) slt42 (zC hNA rfl qA_15) hOA (zC hNA rfl qA_16) zx zx ?_
  intro b_ o_ _ hA_
  exact obR_end rfl ⟨b_, o_, rfl, by simpa using hA_⟩ (grown_refl _ _)
 ·
  intro aA wA cA hNA hRA hckA hOA hbsA hdpA
  obtain ⟨bA_17, oA_17, qA_17, hAA_17⟩ := hdpA 6 _ 17 zy rfl rfl
  clear hbsA hdpA
  obtain rfl : cA = 0 := Nat.le_zero.1 (hckA 0 13 rfl zy)
  have hOA : Own wA base 74 1 v n (d.toList.map u16v) := hOA
  refine zN (v := (Value.int .u16 (d[pv]!.toNat : Int))) one74 (zC hNA rfl qA_17) (by have := hOA.cellAt hAA_17 0 _ (el_at (i := pv) (by first | omega | (simp only [Array.size_setIfInBounds, swp_sz, siftDown_size]; omega))); simpa using this) ?_
  exact obR_end rfl rfl (grown_refl _ _)
 ·
  intro aA wA cA hNA hRA hckA hOA hbsA hdpA
  have qA_0 := (hbsA 0 rfl).trans (zL hN rfl s0)
  clear hbsA hdpA
  refine zG (zC hNA rfl qA_0) ?_
  exact obR_end rfl rfl (grown_refl _ _)
 ·
  intro aA wA cA hNA hRA hckA hOA hbsA hdpA
  have qA_1 := (hbsA 1 rfl).trans (zL hN rfl s1)
  clear hbsA hdpA
  refine zG (zC hNA rfl qA_1) ?_
  exact obR_end rfl rfl (grown_refl _ _)
 ·
  intro aA wA cA hNA hRA hckA hOA hbsA hdpA
  have qA_19 : Sl aA 19 v := hdpA 8 _ 19 zy rfl rfl
  have qA_20 : Sl aA 20 (.int .i64 ((a : Nat) : Int)) := hdpA 9 _ 20 zy rfl rfl
  clear hbsA hdpA
  refine op_index_own (i := a) slt42 (zC hNA rfl qA_19) hOA (zC hNA rfl qA_20) zx zx ?_
  intro b_ o_ _ hA_
  exact obR_end rfl ⟨b_, o_, rfl, by simpa using hA_⟩ (grown_refl _ _)
 ·
  intro aA wA cA hNA hRA hckA hOA hbsA hdpA
  obtain ⟨bA_21, oA_21, qA_21, hAA_21⟩ := hdpA 10 _ 21 zy rfl rfl
  clear hbsA hdpA
  obtain rfl : cA = 0 := Nat.le_zero.1 (hckA 0 13 rfl zy)
  have hOA : Own wA base 74 1 v n (d.toList.map u16v) := hOA
  refine zN (v := (Value.int .u16 (d[a]!.toNat : Int))) one74 (zC hNA rfl qA_21) (by have := hOA.cellAt hAA_21 0 _ (el_at (i := a) (by first | omega | (simp only [Array.size_setIfInBounds, swp_sz, siftDown_size]; omega))); simpa using this) ?_
  exact obR_end rfl rfl (grown_refl _ _)
 ·
  intro aA wA cA hNA hRA hckA hOA hbsA hdpA
  have qA_11 : Sl aA 11 v := hdpA 0 _ 11 zy rfl rfl
  have qA_12 : Sl aA 12 (.int .i64 ((a : Nat) : Int)) := hdpA 1 _ 12 zy rfl rfl
  clear hbsA hdpA
  refine op_index_own (i := a) slt42 (zC hNA rfl qA_11) hOA (zC hNA rfl qA_12) zx zx ?_
  intro b_ o_ _ hA_
  exact obR_end rfl ⟨b_, o_, rfl, by simpa using hA_⟩ (grown_refl _ _)
 ·
  intro aA wA cA hNA hRA hckA hOA hbsA hdpA
  have qA_13 : Sl aA 13 v := hdpA 2 _ 13 zy rfl rfl
  have qA_14 : Sl aA 14 (.int .i64 ((pv : Nat) : Int)) := hdpA 3 _ 14 zy rfl rfl
  clear hbsA hdpA
  refine op_index_own (i := pv) slt42 (zC hNA rfl qA_13) hOA (zC hNA rfl qA_14) zx zx ?_
  intro b_ o_ _ hA_
  exact obR_end rfl ⟨b_, o_, rfl, by simpa using hA_⟩ (grown_refl _ _)
 ·
  intro o_ ho_; obtain rfl := zE ho_; intro aA wA hNA hRA hbsA hdpA hOA
  obtain ⟨bA_23, oA_23, qA_23, hAA_23⟩ := hdpA 12 _ 23 zy rfl rfl
  have qA_18 : Sl aA 18 (.int .u16 (d[pv]!.toNat : Int)) := hdpA 7 _ 18 zy rfl rfl
  clear hbsA hdpA
  have hOA : Own wA base 74 1 v n (d.toList.map u16v) := hOA
  refine op_store_own (vs := [(.int .u16 (d[pv]!.toNat : Int))]) size74 (zC hNA rfl qA_23) (zC hNA rfl qA_18) rfl rfl rfl hOA hAA_23 (by have := hOA.1; simp at this ⊢; omega) ?_
  intro w_ hO_ E_
  exact obW_end rfl (hO_.cast rfl (set_arr (by first | omega | (simp only [Array.size_setIfInBounds, swp_sz, siftDown_size]; omega)))) E_
 ·
  intro o_ ho_; obtain rfl := zE ho_; intro aA wA hNA hRA hbsA hdpA hOA
  obtain ⟨bA_24, oA_24, qA_24, hAA_24⟩ := hdpA 14 _ 24 zy rfl rfl
  have qA_22 : Sl aA 22 (.int .u16 (d[a]!.toNat : Int)) := hdpA 11 _ 22 zy rfl rfl
  clear hbsA hdpA
  have hOA : Own wA base 74 1 v n ((d.setIfInBounds a d[pv]!).toList.map u16v) := hOA
  refine op_store_own (vs := [(.int .u16 (d[a]!.toNat : Int))]) size74 (zC hNA rfl qA_24) (zC hNA rfl qA_22) rfl rfl rfl hOA hAA_24 (by have := hOA.1; simp at this ⊢; omega) ?_
  intro w_ hO_ E_
  exact obW_end rfl (hO_.cast rfl (set_arr (by first | omega | (simp only [Array.size_setIfInBounds, swp_sz, siftDown_size]; omega)))) E_
 intro a3 w3 hN3 hd3 hbs3 hph3 hO3 E3
 have hd3 := hd3.trans hd
 have s3_0 := (hbs3 0 rfl).trans (zL hN rfl s0)
 have s3_1 := (hbs3 1 rfl).trans (zL hN rfl s1)
 have s3_2 := (hbs3 2 rfl).trans (zL hN rfl s2)
 have s3_8 := (hbs3 8 rfl).trans (zU hN rfl)
 clear hbs3 hph3
 have hO3 : Own w3 base 74 1 v n (((d.setIfInBounds a d[pv]!).setIfInBounds pv d[a]!).toList.map u16v) := hO3
 have := E3.size
 have hb := grow_stepX hb E3 rfl
 refine hK2 _ _ (zF fun K4 hK4 => ?_)
 refine zH ?_
 refine zG (zC hN3 rfl s3_1) ?_
 refine op_add (zA hN3 rfl) rfl (add64 zx) ?_
 refine zG (zC hN3 rfl s3_2) ?_
 refine op_sub (r := ((b - 1 : Nat) : Int)) (zA hN3 rfl) rfl (by rw [IntKind.wrap_i64]; omega) ?_
 refine zD (zA hN3 rfl) ?_
 refine zD (zA hN3 rfl) ?_
 refine zB ?_
 refine hK4 _ _ (zF fun K5 hK5 => ?_)
 refine wp_block ?_
 refine loop_m (fun mz_ az_ w' => ∃ (ii jj : Nat) (dk : Ar), mz_ = (jj + 2 - ii) ∧ (az_.tmps.getD 0 undef = v) ∧ (az_.tmps.getD 1 undef = (.int .i64 ((a : Nat) : Int))) ∧ (az_.tmps.getD 8 undef = (.int .i64 0)) ∧ (az_.tmps.getD 9 undef = (.int .i64 ((ii : Nat) : Int))) ∧ (az_.tmps.getD 10 undef = (.int .i64 ((jj : Nat) : Int))) ∧ (dk.size = n) ∧ (a < ii ∧ ii ≤ jj + 1 ∧ jj < b) ∧ (partEqLoop ltT a (a + 1) (b - 1) (swp d a pv) = partEqLoop ltT a ii jj dk) ∧ (w.grownBy w' v.ownBlock) ∧ (w3.heap.size ≤ w'.heap.size) ∧ (Own w' base 74 1 v n (dk.toList.map u16v))) _ hN3 hd3 ⟨(a + 1), (b - 1), _, rfl, (zL hN3 rfl s3_0), (zL hN3 rfl s3_1), (zL hN3 rfl s3_8), (zU hN3 rfl).trans (congrArg (Value.int .i64) zx), (zU hN3 rfl).trans (congrArg (Value.int .i64) zx), (by first | assumption | (simp only [Array.size_setIfInBounds, swp_sz, siftDown_size]; assumption)), zx, rfl, hb, (Nat.le_refl _), hO3⟩ ?_
 rintro _ a6 w6 hN6 hd6 ⟨ii, jj, dk, rfl, s6_0, s6_1, s6_8, s6_9, s6_10, hdk, hr1, hs, hb, zl_w6, hO7⟩
 have := hb.size
 refine wp_block ?_
 refine zF fun K8 hK8 => ?_
 refine wp_block ?_
 refine loop_m (fun mz_ az_ w' => ∃ (i2 : Nat), mz_ = (jj + 1 - i2) ∧ (az_.tmps.getD 0 undef = v) ∧ (az_.tmps.getD 1 undef = (.int .i64 ((a : Nat) : Int))) ∧ (az_.tmps.getD 8 undef = (.int .i64 0)) ∧ (az_.tmps.getD 10 undef = (.int .i64 ((jj : Nat) : Int))) ∧ (az_.tmps.getD 9 undef = (.int .i64 ((i2 : Nat) : Int))) ∧ (ii ≤ i2 ∧ i2 ≤ jj + 1) ∧ (scanUp (fun x => !ltT dk[a]! x) dk jj ii = scanUp (fun x => !ltT dk[a]! x) dk jj i2) ∧ (w.grownBy w' v.ownBlock) ∧ (w6.heap.size ≤ w'.heap.size) ∧ (Own w' base 74 1 v n (dk.toList.map u16v))) _ hN6 hd6 ⟨ii, rfl, (zL hN6 rfl s6_0), (zL hN6 rfl s6_1), (zL hN6 rfl s6_8), (zL hN6 rfl s6_10), (zL hN6 rfl s6_9).trans (congrArg (Value.int .i64) zx), zx, rfl, hb, (Nat.le_refl _), hO7⟩ ?_
 rintro _ a9 w9 hN9 hd9 ⟨i2, rfl, s9_0, s9_1, s9_8, s9_10, s9_9, hr2, hu1, hb, zl_w9, hO7⟩
 have := hb.size
 refine zF fun K10 hK10 => ?_
 refine zF fun K11 hK11 => ?_
 refine reg_still mixed zy ?_
 intro w13 E12
 have := E12.size
 have hO7 := hO7.keep0 E12
 have hb := grow_step0 hb E12
 refine st_step rfl (fun _ h9 => zG (zC hN9 rfl s9_9) h9) ?_
 refine st_step rfl (fun _ h9 => zG (zC hN9 rfl s9_10) h9) ?_
 by_cases g31 : ((i2 : Nat) : Int) ≤ ((jj : Nat) : Int)
 ·
  refine st_step rfl (fun _ h9 => op_cmp (b := true) (zA hN9 rfl) (zA hN9 rfl) (b_leq (decide_eq_true g31)) h9) ?_
  refine st_step rfl (fun _ h9 => zG (zA hN9 rfl) h9) ?_
  refine st_g_true (j := 3) (dj := 32) (b := true) rfl rfl rfl (zA hN9 rfl) ?_
  refine st_step rfl (fun _ h9 => zG (zC hN9 rfl s9_0) h9) ?_
  refine st_g_true (j := 3) (dj := 32) (b := true) rfl rfl rfl (zA hN9 rfl) ?_
  refine st_step rfl (fun _ h9 => zG (zC hN9 rfl s9_1) h9) ?_
  refine st_g_true (j := 3) (dj := 32) (b := true) rfl rfl rfl (zA hN9 rfl) ?_
  refine st_index_rd slt42 (zA hN9 rfl) hO7.rdw (zA hN9 rfl) zx zx ?_
  intro b14 o15 h0b14 h1b14 hc16
  refine st_g_true (j := 3) (dj := 32) (b := true) rfl rfl rfl (zA hN9 rfl) ?_
  refine st_step rfl (fun _ h9 => zN (v := (Value.int .u16 (dk[a]!.toNat : Int))) one74 (zA hN9 rfl) (by have := hc16 0 (.int .u16 (dk[a]!.toNat : Int)) zz (el_arr (i := a) zx (by first | omega | (simp only [Array.size_setIfInBounds, swp_sz, siftDown_size]; omega))); simpa using this) h9) ?_
  refine st_g_true (j := 3) (dj := 32) (b := true) rfl rfl rfl (zA hN9 rfl) ?_
  refine st_step rfl (fun _ h9 => zG (zC hN9 rfl s9_0) h9) ?_
  refine st_g_true (j := 3) (dj := 32) (b := true) rfl rfl rfl (zA hN9 rfl) ?_
  refine st_step rfl (fun _ h9 => zG (zC hN9 rfl s9_9) h9) ?_
  refine st_g_true (j := 3) (dj := 32) (b := true) rfl rfl rfl (zA hN9 rfl) ?_
  refine st_index_rd slt42 (zA hN9 rfl) hO7.rdw (zA hN9 rfl) zx zx ?_
  intro b17 o18 h0b17 h1b17 hc19
  refine st_g_true (j := 3) (dj := 32) (b := true) rfl rfl rfl (zA hN9 rfl) ?_
  refine st_step rfl (fun _ h9 => zN (v := (Value.int .u16 (dk[i2]!.toNat : Int))) one74 (zA hN9 rfl) (by have := hc19 0 (.int .u16 (dk[i2]!.toNat : Int)) zz (el_arr (i := i2) zx (by first | omega | (simp only [Array.size_setIfInBounds, swp_sz, siftDown_size]; omega))); simpa using this) h9) ?_
  refine st_g_true (j := 3) (dj := 32) (b := true) rfl rfl rfl (zA hN9 rfl) ?_
  refine st_fn (vs := [(.int .u16 (dk[a]!.toNat : Int)), (.int .u16 (dk[i2]!.toNat : Int))]) ok132 (⟨(zA hN9 rfl), ⟨(zA hN9 rfl), trivial⟩⟩) (Less16_ret dk[a]! dk[i2]! _) ?_
  refine st_g_true (j := 3) (dj := 32) (b := true) rfl rfl rfl (zA hN9 rfl) ?_
  refine st_step rfl (fun _ h9 => op_not (zA hN9 rfl) h9) ?_
  refine st_step rfl (fun _ h9 => zc (zA hN9 rfl) (zA hN9 rfl) h9) ?_
  refine st_nil ?_
  refine hK11 _ _ (wp_cond_split (zA hN9 rfl) (fun c43 => ?_) (fun c43 => ?_))
  ·
   refine wp_skip (hK10 _ _ (wp_block ?_))
   refine zH ?_
   refine zG (zC hN9 rfl s9_9) ?_
   refine op_add (zA hN9 rfl) rfl (add64 zx) ?_
   refine zD (zA hN9 rfl) ?_
   refine zB ?_
   refine blk_normal ?_
   -- round 31T 43T
   exact zg _ hN9 hd9 ⟨(i2 + 1), rfl, (zL hN9 rfl s9_0), (zL hN9 rfl s9_1), (zL hN9 rfl s9_8), (zL hN9 rfl s9_10), (zU hN9 rfl).trans (congrArg (Value.int .i64) zx), zx, (hu1.trans (scanUp_go zx c43)), hb, zx, hO7⟩ zx
  refine wp_exit (then_exit (then_exit (blk_hit ?_)))
  refine hK8 _ _ (zF fun K20 hK20 => ?_)
  refine wp_block ?_
  have hu2 : scanUp (fun x => !ltT dk[a]! x) dk jj ii = i2 := hu1.trans (scanUp_stop (.inr c43))
  refine loop_m (fun mz_ az_ w' => ∃ (j2 : Nat), mz_ = (j2 + 1) ∧ (az_.tmps.getD 0 undef = v) ∧ (az_.tmps.getD 1 undef = (.int .i64 ((a : Nat) : Int))) ∧ (az_.tmps.getD 8 undef = (.int .i64 0)) ∧ (az_.tmps.getD 9 undef = (.int .i64 ((i2 : Nat) : Int))) ∧ (az_.tmps.getD 10 undef = (.int .i64 ((j2 : Nat) : Int))) ∧ (j2 ≤ jj ∧ i2 ≤ j2 + 1) ∧ (scanDown (fun x => ltT dk[a]! x) dk i2 jj = scanDown (fun x => ltT dk[a]! x) dk i2 j2) ∧ (w.grownBy w' v.ownBlock) ∧ (w13.heap.size ≤ w'.heap.size) ∧ (Own w' base 74 1 v n (dk.toList.map u16v))) _ hN9 hd9 ⟨jj, rfl, (zL hN9 rfl s9_0), (zL hN9 rfl s9_1), (zL hN9 rfl s9_8), (zL hN9 rfl s9_9), (zL hN9 rfl s9_10).trans (congrArg (Value.int .i64) zx), zx, rfl, hb, (Nat.le_refl _), hO7⟩ ?_
  rintro _ a21 w21 hN21 hd21 ⟨j2, rfl, s21_0, s21_1, s21_8, s21_9, s21_10, hr3, hv1, hb, zl_w21, hO7⟩
  have := hb.size
  refine zF fun K22 hK22 => ?_
  refine zF fun K23 hK23 => ?_
  refine reg_still mixed zy ?_
  intro w25 E24
  have := E24.size
  have hO7 := hO7.keep0 E24
  have hb := grow_step0 hb E24
  refine st_step rfl (fun _ h9 => zG (zC hN21 rfl s21_9) h9) ?_
  refine st_step rfl (fun _ h9 => zG (zC hN21 rfl s21_10) h9) ?_
  by_cases g48 : ((i2 : Nat) : Int) ≤ ((j2 : Nat) : Int)
  ·
   refine st_step rfl (fun _ h9 => op_cmp (b := true) (zA hN21 rfl) (zA hN21 rfl) (b_leq (decide_eq_true g48)) h9) ?_
   refine st_step rfl (fun _ h9 => zG (zA hN21 rfl) h9) ?_
   refine st_g_true (j := 3) (dj := 49) (b := true) rfl rfl rfl (zA hN21 rfl) ?_
   refine st_step rfl (fun _ h9 => zG (zC hN21 rfl s21_0) h9) ?_
   refine st_g_true (j := 3) (dj := 49) (b := true) rfl rfl rfl (zA hN21 rfl) ?_
   refine st_step rfl (fun _ h9 => zG (zC hN21 rfl s21_1) h9) ?_
   refine st_g_true (j := 3) (dj := 49) (b := true) rfl rfl rfl (zA hN21 rfl) ?_
   refine st_index_rd slt42 (zA hN21 rfl) hO7.rdw (zA hN21 rfl) zx zx ?_
   intro b26 o27 h0b26 h1b26 hc28
   refine st_g_true (j := 3) (dj := 49) (b := true) rfl rfl rfl (zA hN21 rfl) ?_
   refine st_step rfl (fun _ h9 => zN (v := (Value.int .u16 (dk[a]!.toNat : Int))) one74 (zA hN21 rfl) (by have := hc28 0 (.int .u16 (dk[a]!.toNat : Int)) zz (el_arr (i := a) zx (by first | omega | (simp only [Array.size_setIfInBounds, swp_sz, siftDown_size]; omega))); simpa using this) h9) ?_
   refine st_g_true (j := 3) (dj := 49) (b := true) rfl rfl rfl (zA hN21 rfl) ?_
   refine st_step rfl (fun _ h9 => zG (zC hN21 rfl s21_0) h9) ?_
   refine st_g_true (j := 3) (dj := 49) (b := true) rfl rfl rfl (zA hN21 rfl) ?_
   refine st_step rfl (fun _ h9 => zG (zC hN21 rfl s21_10) h9) ?_
   refine st_g_true (j := 3) (dj := 49) (b := true) rfl rfl rfl (zA hN21 rfl) ?_
   refine st_index_rd slt42 (zA hN21 rfl) hO7.rdw (zA hN21 rfl) zx zx ?_
   intro b29 o30 h0b29 h1b29 hc31
   refine st_g_true (j := 3) (dj := 49) (b := true) rfl rfl rfl (zA hN21 rfl) ?_
   refine st_step rfl (fun _ h9 => zN (v := (Value.int .u16 (dk[j2]!.toNat : Int))) one74 (zA hN21 rfl) (by have := hc31 0 (.int .u16 (dk[j2]!.toNat : Int)) zz (el_arr (i := j2) zx (by first | omega | (simp only [Array.size_setIfInBounds, swp_sz, siftDown_size]; omega))); simpa using this) h9) ?_
   refine st_g_true (j := 3) (dj := 49) (b := true) rfl rfl rfl (zA hN21 rfl) ?_
   refine st_fn (vs := [(.int .u16 (dk[a]!.toNat : Int)), (.int .u16 (dk[j2]!.toNat : Int))]) ok132 (⟨(zA hN21 rfl), ⟨(zA hN21 rfl), trivial⟩⟩) (Less16_ret dk[a]! dk[j2]! _) ?_
   refine st_step rfl (fun _ h9 => zc (zA hN21 rfl) (zA hN21 rfl) h9) ?_
   refine st_nil ?_
   refine hK23 _ _ (wp_cond_split (zA hN21 rfl) (fun c59 => ?_) (fun c59 => ?_))
   ·
    refine wp_skip (hK22 _ _ (wp_block ?_))
    refine zH ?_
    refine zG (zC hN21 rfl s21_10) ?_
    refine op_sub (zA hN21 rfl) rfl (sub64 zx) ?_
    refine zD (zA hN21 rfl) ?_
    refine zB ?_
    refine blk_normal ?_
    -- round 31T 43F 48T 59T
    exact zg _ hN21 hd21 ⟨(j2 - 1), rfl, (zL hN21 rfl s21_0), (zL hN21 rfl s21_1), (zL hN21 rfl s21_8), (zL hN21 rfl s21_9), (zU hN21 rfl).trans (congrArg (Value.int .i64) zx), zx, (hv1.trans (scanDown_go zx zx c59)), hb, zx, hO7⟩ zx
   refine wp_exit (then_exit (then_exit (blk_hit ?_)))
   refine hK20 _ _ (zF fun K32 hK32 => ?_)
   refine zF fun K33 hK33 => ?_
   refine zH ?_
   refine zG (zC hN21 rfl s21_9) ?_
   refine zG (zC hN21 rfl s21_10) ?_
   refine op_gtr (zA hN21 rfl) (zA hN21 rfl) (fun c64 => ?_) (fun c64 => ?_)
   ·
    refine zB ?_
    refine hK33 _ _ (wp_cond_true (zA hN21 rfl) (wp_exit (then_exit (blk_miss zz (then_exit (blk_hit ?_))))))
    refine hK5 _ _ (zF fun K34 hK34 => ?_)
    refine zH ?_
    refine zG (zC hN21 rfl s21_9) ?_
    refine zD (zA hN21 rfl) ?_
    refine zB ?_
    refine hK34 _ _ (wp_ret ?_)
    refine ret1 rfl hd21 (zA hN21 rfl) ⟨_, rfl, ?_⟩
    have hv2 : scanDown (fun x => ltT dk[a]! x) dk i2 jj = j2 := hv1.trans (scanDown_stop (.inr c59))
    have hq : partitionEqual ltT d a b pv = (i2, dk) := hs.trans (pe_stop hu2 hv2 zx)
    exact ⟨hb, by first | (rw [hq]; done) | (rw [hq]; rfl), hO7.cast rfl (by rw [hq])⟩
   refine zB ?_
   refine hK33 _ _ (wp_cond_false (zA hN21 rfl) (wp_skip (hK32 _ _ (zF fun K35 hK35 => ?_))))
   refine reg_mid (e := 74) (sz := 1) (base := base) (n := n) (v := v) (Φ := phiL [(fun uz _ => uz = v), (fun uz _ => uz = (.int .i64 ((i2 : Nat) : Int))), (fun uz _ => uz = v), (fun uz _ => uz = (.int .i64 ((j2 : Nat) : Int))), (fun uz _ => uz = v), (fun uz _ => uz = (.int .i64 ((j2 : Nat) : Int))), (fun uz _ => ∃ bz oz, uz = ptr bz oz ∧ AtV v j2 bz oz), (fun uz _ => uz = (.int .u16 (dk[j2]!.toNat : Int))), (fun uz _ => uz = v), (fun uz _ => uz = (.int .i64 ((i2 : Nat) : Int))), (fun uz _ => ∃ bz oz, uz = ptr bz oz ∧ AtV v i2 bz oz), (fun uz _ => uz = (.int .u16 (dk[i2]!.toNat : Int))), (fun uz _ => ∃ bz oz, uz = ptr bz oz ∧ AtV v i2 bz oz), (fun _ _ => True), (fun uz _ => ∃ bz oz, uz = ptr bz oz ∧ AtV v j2 bz oz), (fun _ _ => True)]) [13, 15] [(dk.toList.map u16v), ((dk.setIfInBounds i2 dk[j2]!).toList.map u16v), (((dk.setIfInBounds i2 dk[j2]!).setIfInBounds j2 dk[i2]!).toList.map u16v)] mixed zy zy zy zy hN21 hO7 (StL.get (StL.eq (StL.eq (StL.eq (StL.eq (StL.eq (StL.eq (StL.at (StL.eq (StL.eq (StL.eq (StL.at (StL.eq (StL.at (StL.cons (fun _ _ _ _ h => h) (StL.at (StL.cons (fun _ _ _ _ h => h) (StL.nil _)))))))))))))))))) (ObRs.get (ObRs.cons ?_ (ObRs.cons ?_ (ObRs.cons ?_ (ObRs.cons ?_ (ObRs.cons ?_ (ObRs.cons ?_ (ObRs.cons ?_ (ObRs.cons ?_ (ObRs.cons ?_ (ObRs.cons ?_ (ObRs.cons ?_ (ObRs.cons ?_ (ObRs.cons ?_ (ObRs.pass rfl (ObRs.cons ?_ (ObRs.pass rfl (ObRs.nil)))))))))))))))))) (ObWs.get (ObWs.cons ?_ (ObWs.cons ?_ (ObWs.nil)))) ?_
   ·
    intro aA wA cA hNA hRA hckA hOA hbsA hdpA
    have qA_0 := (hbsA 0 rfl).trans (zL hN21 rfl s21_0)
    clear hbsA hdpA
    refine zG (zC hNA rfl qA_0) ?_
    exact obR_end rfl rfl (grown_refl _ _)
   ·
    intro aA wA cA hNA hRA hckA hOA hbsA hdpA
    have qA_9 := (hbsA 9 rfl).trans (zL hN21 rfl s21_9)
    clear hbsA hdpA
    refine zG (zC hNA rfl qA_9) ?_
    exact obR_end rfl rfl (grown_refl _ _)
   ·
    intro aA wA cA hNA hRA hckA hOA hbsA hdpA
    have qA_0 := (hbsA 0 rfl).trans (zL hN21 rfl s21_0)
    clear hbsA hdpA
    refine zG (zC hNA rfl qA_0) ?_
    exact obR_end rfl rfl (grown_refl _ _)
   ·
    intro aA wA cA hNA hRA hckA hOA hbsA hdpA
    have qA_10 := (hbsA 10 rfl).trans (zL hN21 rfl s21_10)
    clear hbsA hdpA
    refine zG (zC hNA rfl qA_10) ?_
    exact obR_end rfl rfl (grown_refl _ _)
   ·
    intro aA wA cA hNA hRA hckA hOA hbsA hdpA
    have qA_0 := (hbsA 0 rfl).trans (zL hN21 rfl s21_0)
    clear hbsA hdpA
    refine zG (zC hNA rfl qA_0) ?_
    exact obR_end rfl rfl (grown_refl _ _)
   ·
    intro aA wA cA hNA hRA hckA hOA hbsA hdpA
    have qA_10 := (hbsA 10 rfl).trans (zL hN21 rfl s21_10)
    clear hbsA hdpA
    refine zG (zC hNA rfl qA_10) ?_
    exact obR_end rfl rfl (grown_refl _ _)
   ·
    intro aA wA cA hNA hRA hckA hOA hbsA hdpA
    have qA_69 : Sl aA 69 v := hdpA 4 _ 69 zy rfl rfl
    have qA_70 : Sl aA 70 (.int .i64 ((j2 : Nat) : Int)) := hdpA 5 _ 70 zy rfl rfl
    clear hbsA hdpA
    refine op_index_own (i := j2) slt42 (zC hNA rfl qA_69) hOA (zC hNA rfl qA_70) zx zx ?_
    intro b_ o_ _ hA_
    exact obR_end rfl ⟨b_, o_, rfl, by simpa using hA_⟩ (grown_refl _ _)
   ·
    intro aA wA cA hNA hRA hckA hOA hbsA hdpA
    obtain ⟨bA_71, oA_71, qA_71, hAA_71⟩ := hdpA 6 _ 71 zy rfl rfl
    clear hbsA hdpA
    obtain rfl : cA = 0 := Nat.le_zero.1 (hckA 0 13 rfl zy)
    have hOA : Own wA base 74 1 v n (dk.toList.map u16v) := hOA
    refine zN (v := (Value.int .u16 (dk[j2]!.toNat : Int))) one74 (zC hNA rfl qA_71) (by have := hOA.cellAt hAA_71 0 _ (el_at (i := j2) (by first | omega | (simp only [Array.size_setIfInBounds, swp_sz, siftDown_size]; omega))); simpa using this) ?_
    exact obR_end rfl rfl (grown_refl _ _)
   ·
    intro aA wA cA hNA hRA hckA hOA hbsA hdpA
    have qA_0 := (hbsA 0 rfl).trans (zL hN21 rfl s21_0)
    clear hbsA hdpA
    refine zG (zC hNA rfl qA_0) ?_
    exact obR_end rfl rfl (grown_refl _ _)
   ·
    intro aA wA cA hNA hRA hckA hOA hbsA hdpA
    have qA_9 := (hbsA 9 rfl).trans (zL hN21 rfl s21_9)
    clear hbsA hdpA
    refine zG (zC hNA rfl qA_9) ?_
    exact obR_end rfl rfl (grown_refl _ _)
   ·
    intro aA wA cA hNA hRA hckA hOA hbsA hdpA
    have qA_73 : Sl aA 73 v := hdpA 8 _ 73 zy rfl rfl
    have qA_74 : Sl aA 74 (.int .i64 ((i2 : Nat) : Int)) := hdpA 9 _ 74 zy rfl rfl
    clear hbsA hdpA
    refine op_index_own (i := i2) slt42 (zC hNA rfl qA_73) hOA (zC hNA rfl qA_74) zx zx ?_
    intro b_ o_ _ hA_
    exact obR_end rfl ⟨b_, o_, rfl, by simpa using hA_⟩ (grown_refl _ _)
   ·
    intro aA wA cA hNA hRA hckA hOA hbsA hdpA
    obtain ⟨bA_75, oA_75, qA_75, hAA_75⟩ := hdpA 10 _ 75 zy rfl rfl
    clear hbsA hdpA
    obtain rfl : cA = 0 := Nat.le_zero.1 (hckA 0 13 rfl zy)
    have hOA : Own wA base 74 1 v n (dk.toList.map u16v) := hOA
    refine zN (v := (Value.int .u16 (dk[i2]!.toNat : Int))) one74 (zC hNA rfl qA_75) (by have := hOA.cellAt hAA_75 0 _ (el_at (i := i2) (by first | omega | (simp only [Array.size_setIfInBounds, swp_sz, siftDown_size]; omega))); simpa using this) ?_
    exact obR_end rfl rfl (grown_refl _ _)
   ·
    intro aA wA cA hNA hRA hckA hOA hbsA hdpA
    have qA_65 : Sl aA 65 v := hdpA 0 _ 65 zy rfl rfl
    have qA_66 : Sl aA 66 (.int .i64 ((i2 : Nat) : Int)) := hdpA 1 _ 66 zy rfl rfl
    clear hbsA hdpA
    refine op_index_own (i := i2) slt42 (zC hNA rfl qA_65) hOA (zC hNA rfl qA_66) zx zx ?_
    intro b_ o_ _ hA_
    exact obR_end rfl ⟨b_, o_, rfl, by simpa using hA_⟩ (grown_refl _ _)
   ·
    intro aA wA cA hNA hRA hckA hOA hbsA hdpA
    have qA_67 : Sl aA 67 v := hdpA 2 _ 67 zy rfl rfl
    have qA_68 : Sl aA 68 (.int .i64 ((j2 : Nat) : Int)) := hdpA 3 _ 68 zy rfl rfl
    clear hbsA hdpA
    refine op_index_own (i := j2) slt42 (zC hNA rfl qA_67) hOA (zC hNA rfl qA_68) zx zx ?_
    intro b_ o_ _ hA_
    exact obR_end rfl ⟨b_, o_, rfl, by simpa using hA_⟩ (grown_refl _ _)
   ·
    intro o_ ho_; obtain rfl := zE ho_; intro aA wA hNA hRA hbsA hdpA hOA
    obtain ⟨bA_77, oA_77, qA_77, hAA_77⟩ := hdpA 12 _ 77 zy rfl rfl
    have qA_72 : Sl aA 72 (.int .u16 (dk[j2]!.toNat : Int)) := hdpA 7 _ 72 zy rfl rfl
    clear hbsA hdpA
    have hOA : Own wA base 74 1 v n (dk.toList.map u16v) := hOA
    refine op_store_own (vs := [(.int .u16 (dk[j2]!.toNat : Int))]) size74 (zC hNA rfl qA_77) (zC hNA rfl qA_72) rfl rfl rfl hOA hAA_77 (by have := hOA.1; simp at this ⊢; omega) ?_
    intro w_ hO_ E_
    exact obW_end rfl (hO_.cast rfl (set_arr (by first | omega | (simp only [Array.size_setIfInBounds, swp_sz, siftDown_size]; omega)))) E_
   ·
    intro o_ ho_; obtain rfl := zE ho_; intro aA wA hNA hRA hbsA hdpA hOA
    obtain ⟨bA_78, oA_78, qA_78, hAA_78⟩ := hdpA 14 _ 78 zy rfl rfl
    have qA_76 : Sl aA 76 (.int .u16 (dk[i2]!.toNat : Int)) := hdpA 11 _ 76 zy rfl rfl
    clear hbsA hdpA
    have hOA : Own wA base 74 1 v n ((dk.setIfInBounds i2 dk[j2]!).toList.map u16v) := hOA
    refine op_store_own (vs := [(.int .u16 (dk[i2]!.toNat : Int))]) size74 (zC hNA rfl qA_78) (zC hNA rfl qA_76) rfl rfl rfl hOA hAA_78 (by have := hOA.1; simp at this ⊢; omega) ?_
    intro w_ hO_ E_
    exact obW_end rfl (hO_.cast rfl (set_arr (by first | omega | (simp only [Array.size_setIfInBounds, swp_sz, siftDown_size]; omega)))) E_
   intro a36 w36 hN36 hd36 hbs36 hph36 hO36 E36
   have hd36 := hd36.trans hd21
   have s36_0 := (hbs36 0 rfl).trans (zL hN21 rfl s21_0)
   have s36_1 := (hbs36 1 rfl).trans (zL hN21 rfl s21_1)
   have s36_8 := (hbs36 8 rfl).trans (zL hN21 rfl s21_8)
   have s36_9 := (hbs36 9 rfl).trans (zL hN21 rfl s21_9)
   have s36_10 := (hbs36 10 rfl).trans (zL hN21 rfl s21_10)
   clear hbs36 hph36
   have hO36 : Own w36 base 74 1 v n (((dk.setIfInBounds i2 dk[j2]!).setIfInBounds j2 dk[i2]!).toList.map u16v) := hO36
   have := E36.size
   have hb := grow_stepX hb E36 rfl
   refine hK35 _ _ (zF fun K37 hK37 => ?_)
   refine zH ?_
   refine zG (zC hN36 rfl s36_9) ?_
   refine op_add (zA hN36 rfl) rfl (add64 zx) ?_
   refine zD (zA hN36 rfl) ?_
   refine zB ?_
   refine hK37 _ _ (zH ?_)
   refine zG (zC hN36 rfl s36_10) ?_
   refine op_sub (zA hN36 rfl) rfl (sub64 zx) ?_
   refine zD (zA hN36 rfl) ?_
   refine zB ?_
   refine blk_normal ?_
   -- round 31T 43F 48T 59F 64F
   have hv2 : scanDown (fun x => ltT dk[a]! x) dk i2 jj = j2 := hv1.trans (scanDown_stop (.inr c59))
   have hne : i2 ≠ j2 := by first | omega | (intro hh; subst hh; rw [c59] at c43; simp at c43)
   exact zg _ hN36 hd36 ⟨(i2 + 1), (j2 - 1), _, rfl, (zL hN36 rfl s36_0), (zL hN36 rfl s36_1), (zL hN36 rfl s36_8), (zU hN36 rfl).trans (congrArg (Value.int .i64) zx), (zU hN36 rfl).trans (congrArg (Value.int .i64) zx), (by first | assumption | (simp only [Array.size_setIfInBounds, swp_sz, siftDown_size]; assumption)), zx, (hs.trans (pe_go hu2 hv2 zx)), hb, zx, hO36⟩ zx
  refine st_step rfl (fun _ h9 => op_cmp (b := false) (zA hN21 rfl) (zA hN21 rfl) (b_leq (decide_eq_false g48)) h9) ?_
  refine st_step rfl (fun _ h9 => zG (zA hN21 rfl) h9) ?_
  refine st_g_false (j := 3) (dj := 49) (b := true) rfl rfl rfl (zA hN21 rfl) rfl rfl ?_
  refine st_g_false (j := 3) (dj := 49) (b := true) rfl rfl rfl (zA hN21 rfl) rfl rfl ?_
  refine st_g_false (j := 3) (dj := 49) (b := true) rfl rfl rfl (zA hN21 rfl) rfl rfl ?_
  refine st_g_false (j := 3) (dj := 49) (b := true) rfl rfl rfl (zA hN21 rfl) rfl rfl ?_
  refine st_g_false (j := 3) (dj := 49) (b := true) rfl rfl rfl (zA hN21 rfl) rfl rfl ?_
  refine st_g_false (j := 3) (dj := 49) (b := true) rfl rfl rfl (zA hN21 rfl) rfl rfl ?_
  refine st_g_false (j := 3) (dj := 49) (b := true) rfl rfl rfl (zA hN21 rfl) rfl rfl ?_
  refine st_g_false (j := 3) (dj := 49) (b := true) rfl rfl rfl (zA hN21 rfl) rfl rfl ?_
  refine st_g_false (j := 3) (dj := 49) (b := true) rfl rfl rfl (zA hN21 rfl) rfl rfl ?_
  refine st_step rfl (fun _ h9 => zd (zA hN21 rfl) rfl h9) ?_
  refine st_nil ?_
  refine hK23 _ _ (wp_cond_false (zA hN21 rfl) (wp_exit (then_exit (then_exit (blk_hit ?_)))))
  refine hK20 _ _ (zF fun K38 hK38 => ?_)
  refine zF fun K39 hK39 => ?_
  refine zH ?_
  refine zG (zC hN21 rfl s21_9) ?_
  refine zG (zC hN21 rfl s21_10) ?_
  refine op_gtr (zA hN21 rfl) (zA hN21 rfl) (fun c64 => ?_) (fun c64 => ?_)
  ·
   refine zB ?_
   refine hK39 _ _ (wp_cond_true (zA hN21 rfl) (wp_exit (then_exit (blk_miss zz (then_exit (blk_hit ?_))))))
   refine hK5 _ _ (zF fun K40 hK40 => ?_)
   refine zH ?_
   refine zG (zC hN21 rfl s21_9) ?_
   refine zD (zA hN21 rfl) ?_
   refine zB ?_
   refine hK40 _ _ (wp_ret ?_)
   refine ret1 rfl hd21 (zA hN21 rfl) ⟨_, rfl, ?_⟩
   have hv2 : scanDown (fun x => ltT dk[a]! x) dk i2 jj = j2 := hv1.trans (scanDown_stop (.inl zx))
   have hq : partitionEqual ltT d a b pv = (i2, dk) := hs.trans (pe_stop hu2 hv2 zx)
   exact ⟨hb, by first | (rw [hq]; done) | (rw [hq]; rfl), hO7.cast rfl (by rw [hq])⟩
  refine zB ?_
  refine hK39 _ _ (wp_cond_false (zA hN21 rfl) (wp_skip (hK38 _ _ (zF fun K41 hK41 => ?_))))
  refine reg_mid (e := 74) (sz := 1) (base := base) (n := n) (v := v) (Φ := phiL [(fun uz _ => uz = v), (fun uz _ => uz = (.int .i64 ((i2 : Nat) : Int))), (fun uz _ => uz = v), (fun uz _ => uz = (.int .i64 ((j2 : Nat) : Int))), (fun uz _ => uz = v), (fun uz _ => uz = (.int .i64 ((j2 : Nat) : Int))), (fun uz _ => ∃ bz oz, uz = ptr bz oz ∧ AtV v j2 bz oz), (fun uz _ => uz = (.int .u16 (dk[j2]!.toNat : Int))), (fun uz _ => uz = v), (fun uz _ => uz = (.int .i64 ((i2 : Nat) : Int))), (fun uz _ => ∃ bz oz, uz = ptr bz oz ∧ AtV v i2 bz oz), (fun uz _ => uz = (.int .u16 (dk[i2]!.toNat : Int))), (fun uz _ => ∃ bz oz, uz = ptr bz oz ∧ AtV v i2 bz oz), (fun _ _ => True), (fun uz _ => ∃ bz oz, uz = ptr bz oz ∧ AtV v j2 bz oz), (fun _ _ => True)]) [13, 15] [(dk.toList.map u16v), ((dk.setIfInBounds i2 dk[j2]!).toList.map u16v), (((dk.setIfInBounds i2 dk[j2]!).setIfInBounds j2 dk[i2]!).toList.map u16v)] mixed zy zy zy zy hN21 hO7 (StL.get (StL.eq (StL.eq (StL.eq (StL.eq (StL.eq (StL.eq (StL.at (StL.eq (StL.eq (StL.eq (StL.at (StL.eq (StL.at (StL.cons (fun _ _ _ _ h => h) (StL.at (StL.cons (fun _ _ _ _ h => h) (StL.nil _)))))))))))))))))) (ObRs.get (ObRs.cons ?_ (ObRs.cons ?_ (ObRs.cons ?_ (ObRs.cons ?_ (ObRs.cons ?_ (ObRs.cons ?_ (ObRs.cons ?_ (ObRs.cons ?_ (ObRs.cons ?_ (ObRs.cons ?_ (ObRs.cons ?_ (ObRs.cons ?_ (ObRs.cons ?_ (ObRs.pass rfl (ObRs.cons ?_ (ObRs.pass rfl (ObRs.nil)))))))))))))))))) (ObWs.get (ObWs.cons ?_ (ObWs.cons ?_ (ObWs.nil)))) ?_
  ·
   intro aA wA cA hNA hRA hckA hOA hbsA hdpA
   have qA_0 := (hbsA 0 rfl).trans (zL hN21 rfl s21_0)
   clear hbsA hdpA
   refine zG (zC hNA rfl qA_0) ?_
   exact obR_end rfl rfl (grown_refl _ _)
  ·
   intro aA wA cA hNA hRA hckA hOA hbsA hdpA
   have qA_9 := (hbsA 9 rfl).trans (zL hN21 rfl s21_9)
   clear hbsA hdpA
   refine zG (zC hNA rfl qA_9) ?_
   exact obR_end rfl rfl (grown_refl _ _)
  ·
   intro aA wA cA hNA hRA hckA hOA hbsA hdpA
   have qA_0 := (hbsA 0 rfl).trans (zL hN21 rfl s21_0)
   clear hbsA hdpA
   refine zG (zC hNA rfl qA_0) ?_
   exact obR_end rfl rfl (grown_refl _ _)
  ·
   intro aA wA cA hNA hRA hckA hOA hbsA hdpA
   have qA_10 := (hbsA 10 rfl).trans (zL hN21 rfl s21_10)
   clear hbsA hdpA
   refine zG (zC hNA rfl qA_10) ?_
   exact obR_end rfl rfl (grown_refl _ _)
  ·
   intro aA wA cA hNA hRA hckA hOA hbsA hdpA
   have qA_0 := (hbsA 0 rfl).trans (zL hN21 rfl s21_0)
   clear hbsA hdpA
   refine zG (zC hNA rfl qA_0) ?_
   exact obR_end rfl rfl (grown_refl _ _)
  ·
   intro aA wA cA hNA hRA hckA hOA hbsA hdpA
   have qA_10 := (hbsA 10 rfl).trans (zL hN21 rfl s21_10)
   clear hbsA hdpA
   refine zG (zC hNA rfl qA_10) ?_
   exact obR_end rfl rfl (grown_refl _ _)
  ·
   intro aA wA cA hNA hRA hckA hOA hbsA hdpA
   have qA_69 : Sl aA 69 v := hdpA 4 _ 69 zy rfl rfl
   have qA_70 : Sl aA 70 (.int .i64 ((j2 : Nat) : Int)) := hdpA 5 _ 70 zy rfl rfl
   clear hbsA hdpA
   refine op_index_own (i := j2) slt42 (zC hNA rfl qA_69) hOA (zC hNA rfl qA_70) zx zx ?_
   intro b_ o_ _ hA_
   exact obR_end rfl ⟨b_, o_, rfl, by simpa using hA_⟩ (grown_refl _ _)
  ·
   intro aA wA cA hNA hRA hckA hOA hbsA hdpA
   obtain ⟨bA_71, oA_71, qA_71, hAA_71⟩ := hdpA 6 _ 71 zy rfl rfl
   clear hbsA hdpA
   obtain rfl : cA = 0 := Nat.le_zero.1 (hckA 0 13 rfl zy)
   have hOA : Own wA base 74 1 v n (dk.toList.map u16v) := hOA
   refine zN (v := (Value.int .u16 (dk[j2]!.toNat : Int))) one74 (zC hNA rfl qA_71) (by have := hOA.cellAt hAA_71 0 _ (el_at (i := j2) (by first | omega | (simp only [Array.size_setIfInBounds, swp_sz, siftDown_size]; omega))); simpa using this) ?_
   exact obR_end rfl rfl (grown_refl _ _)
  ·
   intro aA wA cA hNA hRA hckA hOA hbsA hdpA
   have qA_0 := (hbsA 0 rfl).trans (zL hN21 rfl s21_0)
   clear hbsA hdpA
   refine zG (zC hNA rfl qA_0) ?_
   exact obR_end rfl rfl (grown_refl _ _)
  ·
   intro aA wA cA hNA hRA hckA hOA hbsA hdpA
   have qA_9 := (hbsA 9 rfl).trans (zL hN21 rfl s21_9)
   clear hbsA hdpA
   refine zG (zC hNA rfl qA_9) ?_
   exact obR_end rfl rfl (grown_refl _ _)
  ·
   intro aA wA cA hNA hRA hckA hOA hbsA hdpA
   have qA_73 : Sl aA 73 v := hdpA 8 _ 73 zy rfl rfl
   have qA_74 : Sl aA 74 (.int .i64 ((i2 : Nat) : Int)) := hdpA 9 _ 74 zy rfl rfl
   clear hbsA hdpA
   refine op_index_own (i := i2) slt42 (zC hNA rfl qA_73) hOA (zC hNA rfl qA_74) zx zx ?_
   intro b_ o_ _ hA_
   exact obR_end rfl ⟨b_, o_, rfl, by simpa using hA_⟩ (grown_refl _ _)
  ·
   intro aA wA cA hNA hRA hckA hOA hbsA hdpA
   obtain ⟨bA_75, oA_75, qA_75, hAA_75⟩ := hdpA 10 _ 75 zy rfl rfl
   clear hbsA hdpA
   obtain rfl : cA = 0 := Nat.le_zero.1 (hckA 0 13 rfl zy)
   have hOA : Own wA base 74 1 v n (dk.toList.map u16v) := hOA
   refine zN (v := (Value.int .u16 (dk[i2]!.toNat : Int))) one74 (zC hNA rfl qA_75) (by have := hOA.cellAt hAA_75 0 _ (el_at (i := i2) (by first | omega | (simp only [Array.size_setIfInBounds, swp_sz, siftDown_size]; omega))); simpa using this) ?_
   exact obR_end rfl rfl (grown_refl _ _)
  ·
   intro aA wA cA hNA hRA hckA hOA hbsA hdpA
   have qA_65 : Sl aA 65 v := hdpA 0 _ 65 zy rfl rfl
   have qA_66 : Sl aA 66 (.int .i64 ((i2 : Nat) : Int)) := hdpA 1 _ 66 zy rfl rfl
   clear hbsA hdpA
   refine op_index_own (i := i2) slt42 (zC hNA rfl qA_65) hOA (zC hNA rfl qA_66) zx zx ?_
   intro b_ o_ _ hA_
   exact obR_end rfl ⟨b_, o_, rfl, by simpa using hA_⟩ (grown_refl _ _)
  ·
   intro aA wA cA hNA hRA hckA hOA hbsA hdpA
   have qA_67 : Sl aA 67 v := hdpA 2 _ 67 zy rfl rfl
   have qA_68 : Sl aA 68 (.int .i64 ((j2 : Nat) : Int)) := hdpA 3 _ 68 zy rfl rfl
   clear hbsA hdpA
   refine op_index_own (i := j2) slt42 (zC hNA rfl qA_67) hOA (zC hNA rfl qA_68) zx zx ?_
   intro b_ o_ _ hA_
   exact obR_end rfl ⟨b_, o_, rfl, by simpa using hA_⟩ (grown_refl _ _)
  ·
   intro o_ ho_; obtain rfl := zE ho_; intro aA wA hNA hRA hbsA hdpA hOA
   obtain ⟨bA_77, oA_77, qA_77, hAA_77⟩ := hdpA 12 _ 77 zy rfl rfl
   have qA_72 : Sl aA 72 (.int .u16 (dk[j2]!.toNat : Int)) := hdpA 7 _ 72 zy rfl rfl
   clear hbsA hdpA
   have hOA : Own wA base 74 1 v n (dk.toList.map u16v) := hOA
   refine op_store_own (vs := [(.int .u16 (dk[j2]!.toNat : Int))]) size74 (zC hNA rfl qA_77) (zC hNA rfl qA_72) rfl rfl rfl hOA hAA_77 (by have := hOA.1; simp at this ⊢; omega) ?_
   intro w_ hO_ E_
   exact obW_end rfl (hO_.cast rfl (set_arr (by first | omega | (simp only [Array.size_setIfInBounds, swp_sz, siftDown_size]; omega)))) E_
  ·
   intro o_ ho_; obtain rfl := zE ho_; intro aA wA hNA hRA hbsA hdpA hOA
   obtain ⟨bA_78, oA_78, qA_78, hAA_78⟩ := hdpA 14 _ 78 zy rfl rfl
   have qA_76 : Sl aA 76 (.int .u16 (dk[i2]!.toNat : Int)) := hdpA 11 _ 76 zy rfl rfl
   clear hbsA hdpA
   have hOA : Own wA base 74 1 v n ((dk.setIfInBounds i2 dk[j2]!).toList.map u16v) := hOA
   refine op_store_own (vs := [(.int .u16 (dk[i2]!.toNat : Int))]) size74 (zC hNA rfl qA_78) (zC hNA rfl qA_76) rfl rfl rfl hOA hAA_78 (by have := hOA.1; simp at this ⊢; omega) ?_
   intro w_ hO_ E_
   exact obW_end rfl (hO_.cast rfl (set_arr (by first | omega | (simp only [Array.size_setIfInBounds, swp_sz, siftDown_size]; omega)))) E_
  intro a42 w42 hN42 hd42 hbs42 hph42 hO42 E42
  have hd42 := hd42.trans hd21
  have s42_0 := (hbs42 0 rfl).trans (zL hN21 rfl s21_0)
  have s42_1 := (hbs42 1 rfl).trans (zL hN21 rfl s21_1)
  have s42_8 := (hbs42 8 rfl).trans (zL hN21 rfl s21_8)
  have s42_9 := (hbs42 9 rfl).trans (zL hN21 rfl s21_9)
  have s42_10 := (hbs42 10 rfl).trans (zL hN21 rfl s21_10)
  clear hbs42 hph42
  have hO42 : Own w42 base 74 1 v n (((dk.setIfInBounds i2 dk[j2]!).setIfInBounds j2 dk[i2]!).toList.map u16v) := hO42
  have := E42.size
  have hb := grow_stepX hb E42 rfl
  refine hK41 _ _ (zF fun K43 hK43 => ?_)
  refine zH ?_
  refine zG (zC hN42 rfl s42_9) ?_
  refine op_add (zA hN42 rfl) rfl (add64 zx) ?_
  refine zD (zA hN42 rfl) ?_
  refine zB ?_
  refine hK43 _ _ (zH ?_)
  refine zG (zC hN42 rfl s42_10) ?_
  refine op_sub (zA hN42 rfl) rfl (sub64 zx) ?_
  refine zD (zA hN42 rfl) ?_
  refine zB ?_
  refine blk_normal ?_
  -- round 31T 43F 48F 64F
  have hv2 : scanDown (fun x => ltT dk[a]! x) dk i2 jj = j2 := hv1.trans (scanDown_stop (.inl zx))
  have hne : i2 ≠ j2 := by first | omega | (intro hh; subst hh; rw [c59] at c43; simp at c43)
  exact zg _ hN42 hd42 ⟨(i2 + 1), (j2 - 1), _, rfl, (zL hN42 rfl s42_0), (zL hN42 rfl s42_1), (zL hN42 rfl s42_8), (zU hN42 rfl).trans (congrArg (Value.int .i64) zx), (zU hN42 rfl).trans (congrArg (Value.int .i64) zx), (by first | assumption | (simp only [Array.size_setIfInBounds, swp_sz, siftDown_size]; assumption)), zx, (hs.trans (pe_go hu2 hv2 zx)), hb, zx, hO42⟩ zx
 refine st_step rfl (fun _ h9 => op_cmp (b := false) (zA hN9 rfl) (zA hN9 rfl) (b_leq (decide_eq_false g31)) h9) ?_
 refine st_step rfl (fun _ h9 => zG (zA hN9 rfl) h9) ?_
 refine st_g_false (j := 3) (dj := 32) (b := true) rfl rfl rfl (zA hN9 rfl) rfl rfl ?_
 refine st_g_false (j := 3) (dj := 32) (b := true) rfl rfl rfl (zA hN9 rfl) rfl rfl ?_
 refine st_g_false (j := 3) (dj := 32) (b := true) rfl rfl rfl (zA hN9 rfl) rfl rfl ?_
 refine st_g_false (j := 3) (dj := 32) (b := true) rfl rfl rfl (zA hN9 rfl) rfl rfl ?_
 refine st_g_false (j := 3) (dj := 32) (b := true) rfl rfl rfl (zA hN9 rfl) rfl rfl ?_
 refine st_g_false (j := 3) (dj := 32) (b := true) rfl rfl rfl (zA hN9 rfl) rfl rfl ?_
 refine st_g_false (j := 3) (dj := 32) (b := true) rfl rfl rfl (zA hN9 rfl) rfl rfl ?_
 refine st_g_false (j := 3) (dj := 32) (b := true) rfl rfl rfl (zA hN9 rfl) rfl rfl ?_
 refine st_g_false (j := 3) (dj := 32) (b := true) rfl rfl rfl (zA hN9 rfl) rfl rfl ?_
 refine st_g_false (j := 3) (dj := 32) (b := true) rfl rfl rfl (zA hN9 rfl) rfl rfl ?_
 refine st_step rfl (fun _ h9 => zd (zA hN9 rfl) rfl h9) ?_
 refine st_nil ?_
 refine hK11 _ _ (wp_cond_false (zA hN9 rfl) (wp_exit (then_exit (then_exit (blk_hit ?_)))))
 refine hK8 _ _ (zF fun K44 hK44 => ?_)
 refine wp_block ?_
 have hu2 : scanUp (fun x => !ltT dk[a]! x) dk jj ii = i2 := hu1.trans (scanUp_stop (.inl zx))
 refine loop_m (fun mz_ az_ w' => ∃ (j2 : Nat), mz_ = (j2 + 1) ∧ (az_.tmps.getD 0 undef = v) ∧ (az_.tmps.getD 1 undef = (.int .i64 ((a : Nat) : Int))) ∧ (az_.tmps.getD 8 undef = (.int .i64 0)) ∧ (az_.tmps.getD 9 undef = (.int .i64 ((i2 : Nat) : Int))) ∧ (az_.tmps.getD 10 undef = (.int .i64 ((j2 : Nat) : Int))) ∧ (j2 ≤ jj ∧ i2 ≤ j2 + 1) ∧ (scanDown (fun x => ltT dk[a]! x) dk i2 jj = scanDown (fun x => ltT dk[a]! x) dk i2 j2) ∧ (w.grownBy w' v.ownBlock) ∧ (w13.heap.size ≤ w'.heap.size) ∧ (Own w' base 74 1 v n (dk.toList.map u16v))) _ hN9 hd9 ⟨jj, rfl, (zL hN9 rfl s9_0), (zL hN9 rfl s9_1), (zL hN9 rfl s9_8), (zL hN9 rfl s9_9), (zL hN9 rfl s9_10).trans (congrArg (Value.int .i64) zx), zx, rfl, hb, (Nat.le_refl _), hO7⟩ ?_
 rintro _ a45 w45 hN45 hd45 ⟨j2, rfl, s45_0, s45_1, s45_8, s45_9, s45_10, hr3, hv1, hb, zl_w45, hO7⟩
 have := hb.size
 refine zF fun K46 hK46 => ?_
 refine zF fun K47 hK47 => ?_
 refine reg_still mixed zy ?_
 intro w49 E48
 have := E48.size
 have hO7 := hO7.keep0 E48
 have hb := grow_step0 hb E48
 refine st_step rfl (fun _ h9 => zG (zC hN45 rfl s45_9) h9) ?_
 refine st_step rfl (fun _ h9 => zG (zC hN45 rfl s45_10) h9) ?_
 by_cases g48 : ((i2 : Nat) : Int) ≤ ((j2 : Nat) : Int)
 ·
  refine st_step rfl (fun _ h9 => op_cmp (b := true) (zA hN45 rfl) (zA hN45 rfl) (b_leq (decide_eq_true g48)) h9) ?_
  refine st_step rfl (fun _ h9 => zG (zA hN45 rfl) h9) ?_
  refine st_g_true (j := 3) (dj := 49) (b := true) rfl rfl rfl (zA hN45 rfl) ?_
  refine st_step rfl (fun _ h9 => zG (zC hN45 rfl s45_0) h9) ?_
  refine st_g_true (j := 3) (dj := 49) (b := true) rfl rfl rfl (zA hN45 rfl) ?_
  refine st_step rfl (fun _ h9 => zG (zC hN45 rfl s45_1) h9) ?_
  refine st_g_true (j := 3) (dj := 49) (b := true) rfl rfl rfl (zA hN45 rfl) ?_
  refine st_index_rd slt42 (zA hN45 rfl) hO7.rdw (zA hN45 rfl) zx zx ?_
  intro b50 o51 h0b50 h1b50 hc52
  refine st_g_true (j := 3) (dj := 49) (b := true) rfl rfl rfl (zA hN45 rfl) ?_
  refine st_step rfl (fun _ h9 => zN (v := (Value.int .u16 (dk[a]!.toNat : Int))) one74 (zA hN45 rfl) (by have := hc52 0 (.int .u16 (dk[a]!.toNat : Int)) zz (el_arr (i := a) zx (by first | omega | (simp only [Array.size_setIfInBounds, swp_sz, siftDown_size]; omega))); simpa using this) h9) ?_
  refine st_g_true (j := 3) (dj := 49) (b := true) rfl rfl rfl (zA hN45 rfl) ?_
  refine st_step rfl (fun _ h9 => zG (zC hN45 rfl s45_0) h9) ?_
  refine st_g_true (j := 3) (dj := 49) (b := true) rfl rfl rfl (zA hN45 rfl) ?_
  refine st_step rfl (fun _ h9 => zG (zC hN45 rfl s45_10) h9) ?_
  refine st_g_true (j := 3) (dj := 49) (b := true) rfl rfl rfl (zA hN45 rfl) ?_
  refine st_index_rd slt42 (zA hN45 rfl) hO7.rdw (zA hN45 rfl) zx zx ?_
  intro b53 o54 h0b53 h1b53 hc55
  refine st_g_true (j := 3) (dj := 49) (b := true) rfl rfl rfl (zA hN45 rfl) ?_
  refine st_step rfl (fun _ h9 => zN (v := (Value.int .u16 (dk[j2]!.toNat : Int))) one74 (zA hN45 rfl) (by have := hc55 0 (.int .u16 (dk[j2]!.toNat : Int)) zz (el_arr (i := j2) zx (by first | omega | (simp only [Array.size_setIfInBounds, swp_sz, siftDown_size]; omega))); simpa using this) h9) ?_
  refine st_g_true (j := 3) (dj := 49) (b := true) rfl rfl rfl (zA hN45 rfl) ?_
  refine st_fn (vs := [(.int .u16 (dk[a]!.toNat : Int)), (.int .u16 (dk[j2]!.toNat : Int))]) ok132 (⟨(zA hN45 rfl), ⟨(zA hN45 rfl), trivial⟩⟩) (Less16_ret dk[a]! dk[j2]! _) ?_
  refine st_step rfl (fun _ h9 => zc (zA hN45 rfl) (zA hN45 rfl) h9) ?_
  refine st_nil ?_
  refine hK47 _ _ (wp_cond_split (zA hN45 rfl) (fun c59 => ?_) (fun c59 => ?_))
  ·
   refine wp_skip (hK46 _ _ (wp_block ?_))
   refine zH ?_
   refine zG (zC hN45 rfl s45_10) ?_
   refine op_sub (zA hN45 rfl) rfl (sub64 zx) ?_
   refine zD (zA hN45 rfl) ?_
   refine zB ?_
   refine blk_normal ?_
   -- round 31F 48T 59T
   exact zg _ hN45 hd45 ⟨(j2 - 1), rfl, (zL hN45 rfl s45_0), (zL hN45 rfl s45_1), (zL hN45 rfl s45_8), (zL hN45 rfl s45_9), (zU hN45 rfl).trans (congrArg (Value.int .i64) zx), zx, (hv1.trans (scanDown_go zx zx c59)), hb, zx, hO7⟩ zx
  refine wp_exit (then_exit (then_exit (blk_hit ?_)))
  refine hK44 _ _ (zF fun K56 hK56 => ?_)
  refine zF fun K57 hK57 => ?_
  refine zH ?_
  refine zG (zC hN45 rfl s45_9) ?_
  refine zG (zC hN45 rfl s45_10) ?_
  refine op_gtr (zA hN45 rfl) (zA hN45 rfl) (fun c64 => ?_) (fun c64 => ?_)
  ·
   refine zB ?_
   refine hK57 _ _ (wp_cond_true (zA hN45 rfl) (wp_exit (then_exit (blk_miss zz (then_exit (blk_hit ?_))))))
   refine hK5 _ _ (zF fun K58 hK58 => ?_)
   refine zH ?_
   refine zG (zC hN45 rfl s45_9) ?_
   refine zD (zA hN45 rfl) ?_
   refine zB ?_
   refine hK58 _ _ (wp_ret ?_)
   refine ret1 rfl hd45 (zA hN45 rfl) ⟨_, rfl, ?_⟩
   have hv2 : scanDown (fun x => ltT dk[a]! x) dk i2 jj = j2 := hv1.trans (scanDown_stop (.inr c59))
   have hq : partitionEqual ltT d a b pv = (i2, dk) := hs.trans (pe_stop hu2 hv2 zx)
   exact ⟨hb, by first | (rw [hq]; done) | (rw [hq]; rfl), hO7.cast rfl (by rw [hq])⟩
  refine zB ?_
  refine hK57 _ _ (wp_cond_false (zA hN45 rfl) (wp_skip (hK56 _ _ (zF fun K59 hK59 => ?_))))
  refine reg_mid (e := 74) (sz := 1) (base := base) (n := n) (v := v) (Φ := phiL [(fun uz _ => uz = v), (fun uz _ => uz = (.int .i64 ((i2 : Nat) : Int))), (fun uz _ => uz = v), (fun uz _ => uz = (.int .i64 ((j2 : Nat) : Int))), (fun uz _ => uz = v), (fun uz _ => uz = (.int .i64 ((j2 : Nat) : Int))), (fun uz _ => ∃ bz oz, uz = ptr bz oz ∧ AtV v j2 bz oz), (fun uz _ => uz = (.int .u16 (dk[j2]!.toNat : Int))), (fun uz _ => uz = v), (fun uz _ => uz = (.int .i64 ((i2 : Nat) : Int))), (fun uz _ => ∃ bz oz, uz = ptr bz oz ∧ AtV v i2 bz oz), (fun uz _ => uz = (.int .u16 (dk[i2]!.toNat : Int))), (fun uz _ => ∃ bz oz, uz = ptr bz oz ∧ AtV v i2 bz oz), (fun _ _ => True), (fun uz _ => ∃ bz oz, uz = ptr bz oz ∧ AtV v j2 bz oz), (fun _ _ => True)]) [13, 15] [(dk.toList.map u16v), ((dk.setIfInBounds i2 dk[j2]!).toList.map u16v), (((dk.setIfInBounds i2 dk[j2]!).setIfInBounds j2 dk[i2]!).toList.map u16v)] mixed zy zy zy zy hN45 hO7 (StL.get (StL.eq (StL.eq (StL.eq (StL.eq (StL.eq (StL.eq (StL.at (StL.eq (StL.eq (StL.eq (StL.at (StL.eq (StL.at (StL.cons (fun _ _ _ _ h => h) (StL.at (StL.cons (fun _ _ _ _ h => h) (StL.nil _)))))))))))))))))) (ObRs.get (ObRs.cons ?_ (ObRs.cons ?_ (ObRs.cons ?_ (ObRs.cons ?_ (ObRs.cons ?_ (ObRs.cons ?_ (ObRs.cons ?_ (ObRs.cons ?_ (ObRs.cons ?_ (ObRs.cons ?_ (ObRs.cons ?_ (ObRs.cons ?_ (ObRs.cons ?_ (ObRs.pass rfl (ObRs.cons ?_ (ObRs.pass rfl (ObRs.nil)))))))))))))))))) (ObWs.get (ObWs.cons ?_ (ObWs.cons ?_ (ObWs.nil)))) ?_
  ·
   intro aA wA cA hNA hRA hckA hOA hbsA hdpA
   have qA_0 := (hbsA 0 rfl).trans (zL hN45 rfl s45_0)
   clear hbsA hdpA
   refine zG (zC hNA rfl qA_0) ?_
   exact obR_end rfl rfl (grown_refl _ _)
  ·
   intro aA wA cA hNA hRA hckA hOA hbsA hdpA
   have qA_9 := (hbsA 9 rfl).trans (zL hN45 rfl s45_9)
   clear hbsA hdpA
   refine zG (zC hNA rfl qA_9) ?_
   exact obR_end rfl rfl (grown_refl _ _)
  ·
   intro aA wA cA hNA hRA hckA hOA hbsA hdpA
   have qA_0 := (hbsA 0 rfl).trans (zL hN45 rfl s45_0)
   clear hbsA hdpA
   refine zG (zC hNA rfl qA_0) ?_
   exact obR_end rfl rfl (grown_refl _ _)
  ·
   intro aA wA cA hNA hRA hckA hOA hbsA hdpA
   have qA_10 := (hbsA 10 rfl).trans (zL hN45 rfl s45_10)
   clear hbsA hdpA
   refine zG (zC hNA rfl qA_10) ?_
   exact obR_end rfl rfl (grown_refl _ _)
  ·
   intro aA wA cA hNA hRA hckA hOA hbsA hdpA
   have qA_0 := (hbsA 0 rfl).trans (zL hN45 rfl s45_0)
   clear hbsA hdpA
   refine zG (zC hNA rfl qA_0) ?_
   exact obR_end rfl rfl (grown_refl _ _)
  ·
   intro aA wA cA hNA hRA hckA hOA hbsA hdpA
   have qA_10 := (hbsA 10 rfl).trans (zL hN45 rfl s45_10)
   clear hbsA hdpA
   refine zG (zC hNA rfl qA_10) ?_
   exact obR_end rfl rfl (grown_refl _ _)
  ·
   intro aA wA cA hNA hRA hckA hOA hbsA hdpA
   have qA_69 : Sl aA 69 v := hdpA 4 _ 69 zy rfl rfl
   have qA_70 : Sl aA 70 (.int .i64 ((j2 : Nat) : Int)) := hdpA 5 _ 70 zy rfl rfl
   clear hbsA hdpA
   refine op_index_own (i := j2) slt42 (zC hNA rfl qA_69) hOA (zC hNA rfl qA_70) zx zx ?_
   intro b_ o_ _ hA_
   exact obR_end rfl ⟨b_, o_, rfl, by simpa using hA_⟩ (grown_refl _ _)
  ·
   intro aA wA cA hNA hRA hckA hOA hbsA hdpA
   obtain ⟨bA_71, oA_71, qA_71, hAA_71⟩ := hdpA 6 _ 71 zy rfl rfl
   clear hbsA hdpA
   obtain rfl : cA = 0 := Nat.le_zero.1 (hckA 0 13 rfl zy)
   have hOA : Own wA base 74 1 v n (dk.toList.map u16v) := hOA
   refine zN (v := (Value.int .u16 (dk[j2]!.toNat : Int))) one74 (zC hNA rfl qA_71) (by have := hOA.cellAt hAA_71 0 _ (el_at (i := j2) (by first | omega | (simp only [Array.size_setIfInBounds, swp_sz, siftDown_size]; omega))); simpa using this) ?_
   exact obR_end rfl rfl (grown_refl _ _)
  ·
   intro aA wA cA hNA hRA hckA hOA hbsA hdpA
   have qA_0 := (hbsA 0 rfl).trans (zL hN45 rfl s45_0)
   clear hbsA hdpA
   refine zG (zC hNA rfl qA_0) ?_
   exact obR_end rfl rfl (grown_refl _ _)
  ·
   intro aA wA cA hNA hRA hckA hOA hbsA hdpA
   have qA_9 := (hbsA 9 rfl).trans (zL hN45 rfl s45_9)
   clear hbsA hdpA
   refine zG (zC hNA rfl qA_9) ?_
   exact obR_end rfl rfl (grown_refl _ _)
  ·
   intro aA wA cA hNA hRA hckA hOA hbsA hdpA
   have qA_73 : Sl aA 73 v := hdpA 8 _ 73 zy rfl rfl
   have qA_74 : Sl aA 74 (.int .i64 ((i2 : Nat) : Int)) := hdpA 9 _ 74 zy rfl rfl
   clear hbsA hdpA
   refine op_index_own (i := i2) slt42 (zC hNA rfl qA_73) hOA (zC hNA rfl qA_74) zx zx ?_
   intro b_ o_ _ hA_
   exact obR_end rfl ⟨b_, o_, rfl, by simpa using hA_⟩ (grown_refl _ _)
  ·
   intro aA wA cA hNA hRA hckA hOA hbsA hdpA
   obtain ⟨bA_75, oA_75, qA_75, hAA_75⟩ := hdpA 10 _ 75 zy rfl rfl
   clear hbsA hdpA
   obtain rfl : cA = 0 := Nat.le_zero.1 (hckA 0 13 rfl zy)
   have hOA : Own wA base 74 1 v n (dk.toList.map u16v) := hOA
   refine zN (v := (Value.int .u16 (dk[i2]!.toNat : Int))) one74 (zC hNA rfl qA_75) (by have := hOA.cellAt hAA_75 0 _ (el_at (i := i2) (by first | omega | (simp only [Array.size_setIfInBounds, swp_sz, siftDown_size]; omega))); simpa using this) ?_
   exact obR_end rfl rfl (grown_refl _ _)
  ·
   intro aA wA cA hNA hRA hckA hOA hbsA hdpA
   have qA_65 : Sl aA 65 v := hdpA 0 _ 65 zy rfl rfl
   have qA_66 : Sl aA 66 (.int .i64 ((i2 : Nat) : Int)) := hdpA 1 _ 66 zy rfl rfl
   clear hbsA hdpA
   refine op_index_own (i := i2) slt42 (zC hNA rfl qA_65) hOA (zC hNA rfl qA_66) zx zx ?_
   intro b_ o_ _ hA_
   exact obR_end rfl ⟨b_, o_, rfl, by simpa using hA_⟩ (grown_refl _ _)
  ·
   intro aA wA cA hNA hRA hckA hOA hbsA hdpA
   have qA_67 : Sl aA 67 v := hdpA 2 _ 67 zy rfl rfl
   have qA_68 : Sl aA 68 (.int .i64 ((j2 : Nat) : Int)) := hdpA 3 _ 68 zy rfl rfl
   clear hbsA hdpA
   refine op_index_own (i := j2) slt42 (zC hNA rfl qA_67) hOA (zC hNA rfl qA_68) zx zx ?_
   intro b_ o_ _ hA_
   exact obR_end rfl ⟨b_, o_, rfl, by simpa using hA_⟩ (grown_refl _ _)
  ·
   intro o_ ho_; obtain rfl := zE ho_; intro aA wA hNA hRA hbsA hdpA hOA
   obtain ⟨bA_77, oA_77, qA_77, hAA_77⟩ := hdpA 12 _ 77 zy rfl rfl
   have qA_72 : Sl aA 72 (.int .u16 (dk[j2]!.toNat : Int)) := hdpA 7 _ 72 zy rfl rfl
   clear hbsA hdpA
   have hOA : Own wA base 74 1 v n (dk.toList.map u16v) := hOA
   refine op_store_own (vs := [(.int .u16 (dk[j2]!.toNat : Int))]) size74 (zC hNA rfl qA_77) (zC hNA rfl qA_72) rfl rfl rfl hOA hAA_77 (by have := hOA.1; simp at this ⊢; omega) ?_
   intro w_ hO_ E_
   exact obW_end rfl (hO_.cast rfl (set_arr (by first | omega | (simp only [Array.size_setIfInBounds, swp_sz, siftDown_size]; omega)))) E_
  ·
   intro o_ ho_; obtain rfl := zE ho_; intro aA wA hNA hRA hbsA hdpA hOA
   obtain ⟨bA_78, oA_78, qA_78, hAA_78⟩ := hdpA 14 _ 78 zy rfl rfl
   have qA_76 : Sl aA 76 (.int .u16 (dk[i2]!.toNat : Int)) := hdpA 11 _ 76 zy rfl rfl
   clear hbsA hdpA
   have hOA : Own wA base 74 1 v n ((dk.setIfInBounds i2 dk[j2]!).toList.map u16v) := hOA
   refine op_store_own (vs := [(.int .u16 (dk[i2]!.toNat : Int))]) size74 (zC hNA rfl qA_78) (zC hNA rfl qA_76) rfl rfl rfl hOA hAA_78 (by have := hOA.1; simp at this ⊢; omega) ?_
   intro w_ hO_ E_
   exact obW_end rfl (hO_.cast rfl (set_arr (by first | omega | (simp only [Array.size_setIfInBounds, swp_sz, siftDown_size]; omega)))) E_
  intro a60 w60 hN60 hd60 hbs60 hph60 hO60 E60
  have hd60 := hd60.trans hd45
  have s60_0 := (hbs60 0 rfl).trans (zL hN45 rfl s45_0)
  have s60_1 := (hbs60 1 rfl).trans (zL hN45 rfl s45_1)
  have s60_8 := (hbs60 8 rfl).trans (zL hN45 rfl s45_8)
  have s60_9 := (hbs60 9 rfl).trans (zL hN45 rfl s45_9)
  have s60_10 := (hbs60 10 rfl).trans (zL hN45 rfl s45_10)
  clear hbs60 hph60
  have hO60 : Own w60 base 74 1 v n (((dk.setIfInBounds i2 dk[j2]!).setIfInBounds j2 dk[i2]!).toList.map u16v) := hO60
  have := E60.size
  have hb := grow_stepX hb E60 rfl
  refine hK59 _ _ (zF fun K61 hK61 => ?_)
  refine zH ?_
  refine zG (zC hN60 rfl s60_9) ?_
  refine op_add (zA hN60 rfl) rfl (add64 zx) ?_
  refine zD (zA hN60 rfl) ?_
  refine zB ?_
  refine hK61 _ _ (zH ?_)
  refine zG (zC hN60 rfl s60_10) ?_
  refine op_sub (zA hN60 rfl) rfl (sub64 zx) ?_
  refine zD (zA hN60 rfl) ?_
  refine zB ?_
  refine blk_normal ?_
  -- round 31F 48T 59F 64F
  have hv2 : scanDown (fun x => ltT dk[a]! x) dk i2 jj = j2 := hv1.trans (scanDown_stop (.inr c59))
  have hne : i2 ≠ j2 := by first | omega | (intro hh; subst hh; rw [c59] at c43; simp at c43)
  exact zg _ hN60 hd60 ⟨(i2 + 1), (j2 - 1), _, rfl, (zL hN60 rfl s60_0), (zL hN60 rfl s60_1), (zL hN60 rfl s60_8), (zU hN60 rfl).trans (congrArg (Value.int .i64) zx), (zU hN60 rfl).trans (congrArg (Value.int .i64) zx), (by first | assumption | (simp only [Array.size_setIfInBounds, swp_sz, siftDown_size]; assumption)), zx, (hs.trans (pe_go hu2 hv2 zx)), hb, zx, hO60⟩ zx
 refine st_step rfl (fun _ h9 => op_cmp (b := false) (zA hN45 rfl) (zA hN45 rfl) (b_leq (decide_eq_false g48)) h9) ?_
 refine st_step rfl (fun _ h9 => zG (zA hN45 rfl) h9) ?_
 refine st_g_false (j := 3) (dj := 49) (b := true) rfl rfl rfl (zA hN45 rfl) rfl rfl ?_
 refine st_g_false (j := 3) (dj := 49) (b := true) rfl rfl rfl (zA hN45 rfl) rfl rfl ?_
 refine st_g_false (j := 3) (dj := 49) (b := true) rfl rfl rfl (zA hN45 rfl) rfl rfl ?_
 refine st_g_false (j := 3) (dj := 49) (b := true) rfl rfl rfl (zA hN45 rfl) rfl rfl ?_
 refine st_g_false (j := 3) (dj := 49) (b := true) rfl rfl rfl (zA hN45 rfl) rfl rfl ?_
 refine st_g_false (j := 3) (dj := 49) (b := true) rfl rfl rfl (zA hN45 rfl) rfl rfl ?_
 refine st_g_false (j := 3) (dj := 49) (b := true) rfl rfl rfl (zA hN45 rfl) rfl rfl ?_
 refine st_g_false (j := 3) (dj := 49) (b := true) rfl rfl rfl (zA hN45 rfl) rfl rfl ?_
 refine st_g_false (j := 3) (dj := 49) (b := true) rfl rfl rfl (zA hN45 rfl) rfl rfl ?_
 refine st_step rfl (fun _ h9 => zd (zA hN45 rfl) rfl h9) ?_
 refine st_nil ?_
 refine hK47 _ _ (wp_cond_false (zA hN45 rfl) (wp_exit (then_exit (then_exit (blk_hit ?_)))))
 refine hK44 _ _ (zF fun K62 hK62 => ?_)
 refine zF fun K63 hK63 => ?_
 refine zH ?_
 refine zG (zC hN45 rfl s45_9) ?_
 refine zG (zC hN45 rfl s45_10) ?_
 refine op_gtr (zA hN45 rfl) (zA hN45 rfl) (fun c64 => ?_) (fun c64 => ?_)
 ·
  refine zB ?_
  refine hK63 _ _ (wp_cond_true (zA hN45 rfl) (wp_exit (then_exit (blk_miss zz (then_exit (blk_hit ?_))))))
  refine hK5 _ _ (zF fun K64 hK64 => ?_)
  refine zH ?_
  refine zG (zC hN45 rfl s45_9) ?_
  refine zD (zA hN45 rfl) ?_
  refine zB ?_
  refine hK64 _ _ (wp_ret ?_)
  refine ret1 rfl hd45 (zA hN45 rfl) ⟨_, rfl, ?_⟩
  have hv2 : scanDown (fun x => ltT dk[a]! x) dk i2 jj = j2 := hv1.trans (scanDown_stop (.inl zx))
  have hq : partitionEqual ltT d a b pv = (i2, dk) := hs.trans (pe_stop hu2 hv2 zx)
  exact ⟨hb, by first | (rw [hq]; done) | (rw [hq]; rfl), hO7.cast rfl (by rw [hq])⟩
 refine zB ?_
 refine hK63 _ _ (wp_cond_false (zA hN45 rfl) (wp_skip (hK62 _ _ (zF fun K65 hK65 => ?_))))
 refine reg_mid (e := 74) (sz := 1) (base := base) (n := n) (v := v) (Φ := phiL [(fun uz _ => uz = v), (fun uz _ => uz = (.int .i64 ((i2 : Nat) : Int))), (fun uz _ => uz = v), (fun uz _ => uz = (.int .i64 ((j2 : Nat) : Int))), (fun uz _ => uz = v), (fun uz _ => uz = (.int .i64 ((j2 : Nat) : Int))), (fun uz _ => ∃ bz oz, uz = ptr bz oz ∧ AtV v j2 bz oz), (fun uz _ => uz = (.int .u16 (dk[j2]!.toNat : Int))), (fun uz _ => uz = v), (fun uz _ => uz = (.int .i64 ((i2 : Nat) : Int))), (fun uz _ => ∃ bz oz, uz = ptr bz oz ∧ AtV v i2 bz oz), (fun uz _ => uz = (.int .u16 (dk[i2]!.toNat : Int))), (fun uz _ => ∃ bz oz, uz = ptr bz oz ∧ AtV v i2 bz oz), (fun _ _ => True), (fun uz _ => ∃ bz oz, uz = ptr bz oz ∧ AtV v j2 bz oz), (fun _ _ => True)]) [13, 15] [(dk.toList.map u16v), ((dk.setIfInBounds i2 dk[j2]!).toList.map u16v), (((dk.setIfInBounds i2 dk[j2]!).setIfInBounds j2 dk[i2]!).toList.map u16v)] mixed zy zy zy zy hN45 hO7 (StL.get (StL.eq (StL.eq (StL.eq (StL.eq (StL.eq (StL.eq (StL.at (StL.eq (StL.eq (StL.eq (StL.at (StL.eq (StL.at (StL.cons (fun _ _ _ _ h => h) (StL.at (StL.cons (fun _ _ _ _ h => h) (StL.nil _)))))))))))))))))) (ObRs.get (ObRs.cons ?_ (ObRs.cons ?_ (ObRs.cons ?_ (ObRs.cons ?_ (ObRs.cons ?_ (ObRs.cons ?_ (ObRs.cons ?_ (ObRs.cons ?_ (ObRs.cons ?_ (ObRs.cons ?_ (ObRs.cons ?_ (ObRs.cons ?_ (ObRs.cons ?_ (ObRs.pass rfl (ObRs.cons ?_ (ObRs.pass rfl (ObRs.nil)))))))))))))))))) (ObWs.get (ObWs.cons ?_ (ObWs.cons ?_ (ObWs.nil)))) ?_
 ·
  intro aA wA cA hNA hRA hckA hOA hbsA hdpA
  have qA_0 := (hbsA 0 rfl).trans (zL hN45 rfl s45_0)
  clear hbsA hdpA
  refine zG (zC hNA rfl qA_0) ?_
  exact obR_end rfl rfl (grown_refl _ _)
 ·
  intro aA wA cA hNA hRA hckA hOA hbsA hdpA
  have qA_9 := (hbsA 9 rfl).trans (zL hN45 rfl s45_9)
  clear hbsA hdpA
  refine zG (zC hNA rfl qA_9) ?_
  exact obR_end rfl rfl (grown_refl _ _)
 ·
  intro aA wA cA hNA hRA hckA hOA hbsA hdpA
  have qA_0 := (hbsA 0 rfl).trans (zL hN45 rfl s45_0)
  clear hbsA hdpA
  refine zG (zC hNA rfl qA_0) ?_
  exact obR_end rfl rfl (grown_refl _ _)
 ·
  intro aA wA cA hNA hRA hckA hOA hbsA hdpA
  have qA_10 := (hbsA 10 rfl).trans (zL hN45 rfl s45_10)
  clear hbsA hdpA
  refine zG (zC hNA rfl qA_10) ?_
  exact obR_end rfl rfl (grown_refl _ _)
 ·
  intro aA wA cA hNA hRA hckA hOA hbsA hdpA
  have qA_0 := (hbsA 0 rfl).trans (zL hN45 rfl s45_0)
  clear hbsA hdpA
  refine zG (zC hNA rfl qA_0) ?_
  exact obR_end rfl rfl (grown_refl _ _)
 ·
  intro aA wA cA hNA hRA hckA hOA hbsA hdpA
  have qA_10 := (hbsA 10 rfl).trans (zL hN45 rfl s45_10)
  clear hbsA hdpA
  refine zG (zC hNA rfl qA_10) ?_
  exact obR_end rfl rfl (grown_refl _ _)
 ·
  intro aA wA cA hNA hRA hckA hOA hbsA hdpA
  have qA_69 : Sl aA 69 v := hdpA 4 _ 69 zy rfl rfl
  have qA_70 : Sl aA 70 (.int .i64 ((j2 : Nat) : Int)) := hdpA 5 _ 70 zy rfl rfl
  clear hbsA hdpA
  refine op_index_own (i := j2) slt42 (zC hNA rfl qA_69) hOA (zC hNA rfl qA_70) zx zx ?_
  intro b_ o_ _ hA_
  exact obR_end rfl ⟨b_, o_, rfl, by simpa using hA_⟩ (grown_refl _ _)
 ·
  intro aA wA cA hNA hRA hckA hOA hbsA hdpA
  obtain ⟨bA_71, oA_71, qA_71, hAA_71⟩ := hdpA 6 _ 71 zy rfl rfl
  clear hbsA hdpA
  obtain rfl : cA = 0 := Nat.le_zero.1 (hckA 0 13 rfl zy)
  have hOA : Own wA base 74 1 v n (dk.toList.map u16v) := hOA
  refine zN (v := (Value.int .u16 (dk[j2]!.toNat : Int))) one74 (zC hNA rfl qA_71) (by have := hOA.cellAt hAA_71 0 _ (el_at (i := j2) (by first | omega | (simp only [Array.size_setIfInBounds, swp_sz, siftDown_size]; omega))); simpa using this) ?_
  exact obR_end rfl rfl (grown_refl _ _)
 ·
  intro aA wA cA hNA hRA hckA hOA hbsA hdpA
  have qA_0 := (hbsA 0 rfl).trans (zL hN45 rfl s45_0)
  clear hbsA hdpA
  refine zG (zC hNA rfl qA_0) ?_
  exact obR_end rfl rfl (grown_refl _ _)
 ·
  intro aA wA cA hNA hRA hckA hOA hbsA hdpA
  have qA_9 := (hbsA 9 rfl).trans (zL hN45 rfl s45_9)
  clear hbsA hdpA
  refine zG (zC hNA rfl qA_9) ?_
  exact obR_end rfl rfl (grown_refl _ _)
 ·
  intro aA wA cA hNA hRA hckA hOA hbsA hdpA
  have qA_73 : Sl aA 73 v := hdpA 8 _ 73 zy rfl rfl
  have qA_74 : Sl aA 74 (.int .i64 ((i2 : Nat) : Int)) := hdpA 9 _ 74 zy rfl rfl
  clear hbsA hdpA
  refine op_index_own (i := i2) slt42 (zC hNA rfl qA_73) hOA (zC hNA rfl qA_74) zx zx ?_
  intro b_ o_ _ hA_
  exact obR_end rfl ⟨b_, o_, rfl, by simpa using hA_⟩ (grown_refl _ _)
 ·
  intro aA wA cA hNA hRA hckA hOA hbsA hdpA
  obtain ⟨bA_75, oA_75, qA_75, hAA_75⟩ := hdpA 10 _ 75 zy rfl rfl
  clear hbsA hdpA
  obtain rfl : cA = 0 := Nat.le_zero.1 (hckA 0 13 rfl zy)
  have hOA : Own wA base 74 1 v n (dk.toList.map u16v) := hOA
  refine zN (v := (Value.int .u16 (dk[i2]!.toNat : Int))) one74 (zC hNA rfl qA_75) (by have := hOA.cellAt hAA_75 0 _ (el_at (i := i2) (by first | omega | (simp only [Array.size_setIfInBounds, swp_sz, siftDown_size]; omega))); simpa using this) ?_
  exact obR_end rfl rfl (grown_refl _ _)
 ·
  intro aA wA cA hNA hRA hckA hOA hbsA hdpA
  have qA_65 : Sl aA 65 v := hdpA 0 _ 65 zy rfl rfl
  have qA_66 : Sl aA 66 (.int .i64 ((i2 : Nat) : Int)) := hdpA 1 _ 66 zy rfl rfl
  clear hbsA hdpA
  refine op_index_own (i := i2) slt42 (zC hNA rfl qA_65) hOA (zC hNA rfl qA_66) zx zx ?_
  intro b_ o_ _ hA_
  exact obR_end rfl ⟨b_, o_, rfl, by simpa using hA_⟩ (grown_refl _ _)
 ·
  intro aA wA cA hNA hRA hckA hOA hbsA hdpA
  have qA_67 : Sl aA 67 v := hdpA 2 _ 67 zy rfl rfl
  have qA_68 : Sl aA 68 (.int .i64 ((j2 : Nat) : Int)) := hdpA 3 _ 68 zy rfl rfl
  clear hbsA hdpA
  refine op_index_own (i := j2) slt42 (zC hNA rfl qA_67) hOA (zC hNA rfl qA_68) zx zx ?_
  intro b_ o_ _ hA_
  exact obR_end rfl ⟨b_, o_, rfl, by simpa using hA_⟩ (grown_refl _ _)
 ·
  intro o_ ho_; obtain rfl := zE ho_; intro aA wA hNA hRA hbsA hdpA hOA
  obtain ⟨bA_77, oA_77, qA_77, hAA_77⟩ := hdpA 12 _ 77 zy rfl rfl
  have qA_72 : Sl aA 72 (.int .u16 (dk[j2]!.toNat : Int)) := hdpA 7 _ 72 zy rfl rfl
  clear hbsA hdpA
  have hOA : Own wA base 74 1 v n (dk.toList.map u16v) := hOA
  refine op_store_own (vs := [(.int .u16 (dk[j2]!.toNat : Int))]) size74 (zC hNA rfl qA_77) (zC hNA rfl qA_72) rfl rfl rfl hOA hAA_77 (by have := hOA.1; simp at this ⊢; omega) ?_
  intro w_ hO_ E_
  exact obW_end rfl (hO_.cast rfl (set_arr (by first | omega | (simp only [Array.size_setIfInBounds, swp_sz, siftDown_size]; omega)))) E_
 ·
  intro o_ ho_; obtain rfl := zE ho_; intro aA wA hNA hRA hbsA hdpA hOA
  obtain ⟨bA_78, oA_78, qA_78, hAA_78⟩ := hdpA 14 _ 78 zy rfl rfl
  have qA_76 : Sl aA 76 (.int .u16 (dk[i2]!.toNat : Int)) := hdpA 11 _ 76 zy rfl rfl
  clear hbsA hdpA
  have hOA : Own wA base 74 1 v n ((dk.setIfInBounds i2 dk[j2]!).toList.map u16v) := hOA
  refine op_store_own (vs := [(.int .u16 (dk[i2]!.toNat : Int))]) size74 (zC hNA rfl qA_78) (zC hNA rfl qA_76) rfl rfl rfl hOA hAA_78 (by have := hOA.1; simp at this ⊢; omega) ?_
  intro w_ hO_ E_
  exact obW_end rfl (hO_.cast rfl (set_arr (by first | omega | (simp only [Array.size_setIfInBounds, swp_sz, siftDown_size]; omega)))) E_
 intro a66 w66 hN66 hd66 hbs66 hph66 hO66 E66
 have hd66 := hd66.trans hd45
 have s66_0 := (hbs66 0 rfl).trans (zL hN45 rfl s45_0)
 have s66_1 := (hbs66 1 rfl).trans (zL hN45 rfl s45_1)
 have s66_8 := (hbs66 8 rfl).trans (zL hN45 rfl s45_8)
 have s66_9 := (hbs66 9 rfl).trans (zL hN45 rfl s45_9)
 have s66_10 := (hbs66 10 rfl).trans (zL hN45 rfl s45_10)
 clear hbs66 hph66
 have hO66 : Own w66 base 74 1 v n (((dk.setIfInBounds i2 dk[j2]!).setIfInBounds j2 dk[i2]!).toList.map u16v) := hO66
 have := E66.size
 have hb := grow_stepX hb E66 rfl
 refine hK65 _ _ (zF fun K67 hK67 => ?_)
 refine zH ?_
 refine zG (zC hN66 rfl s66_9) ?_
 refine op_add (zA hN66 rfl) rfl (add64 zx) ?_
 refine zD (zA hN66 rfl) ?_
 refine zB ?_
 refine hK67 _ _ (zH ?_)
 refine zG (zC hN66 rfl s66_10) ?_
 refine op_sub (zA hN66 rfl) rfl (sub64 zx) ?_
 refine zD (zA hN66 rfl) ?_
 refine zB ?_
 refine blk_normal ?_
 -- round 31F 48F 64F
 have hv2 : scanDown (fun x => ltT dk[a]! x) dk i2 jj = j2 := hv1.trans (scanDown_stop (.inl zx))
 have hne : i2 ≠ j2 := by first | omega | (intro hh; subst hh; rw [c59] at c43; simp at c43)
 exact zg _ hN66 hd66 ⟨(i2 + 1), (j2 - 1), _, rfl, (zL hN66 rfl s66_0), (zL hN66 rfl s66_1), (zL hN66 rfl s66_8), (zU hN66 rfl).trans (congrArg (Value.int .i64) zx), (zU hN66 rfl).trans (congrArg (Value.int .i64) zx), (by first | assumption | (simp only [Array.size_setIfInBounds, swp_sz, siftDown_size]; assumption)), zx, (hs.trans (pe_go hu2 hv2 zx)), hb, zx, hO66⟩ zx
open Go.Sort (insertionSort insOuter insInner swp siftDown heapSort heapBuild heapPop scanUp scanDown partition partLoop partitionEqual partEqLoop scanSorted partialIns bitsLen partialInsertionSort shiftDown shiftUp SortedIn reverseRange reverseLoop fixDown fixUp)
set_option maxHeartbeats 2000000 in
theorem partW_ret (d : Ar) (v : Value) (n base : Nat) (a b pv : Nat) (w : World) (hd : d.size = n) (hn : n ≤ 4000000000000000000) (O : Own w base 74 1 v n (d.toList.map u16v)) (hap : a ≤ pv) (hpb : pv < b) (hbn : b ≤ n) : Ret Try.prog 134 #[v, (.int .i64 ((a : Nat) : Int)), (.int .i64 ((b : Nat) : Int)), (.int .i64 ((pv : Nat) : Int))] w (fun v' w' => w.grownBy w' v.ownBlock ∧ v' = .tuple #[.int .i64 ((partition ltT d a b pv).1 : Int), .bool (partition ltT d a b pv).2.1] ∧ Own w' base 74 1 v n ((partition ltT d a b pv).2.2.toList.map u16v)) := by
 have hb := grown_refl w v.ownBlock
 refine enter (N := 168) Try.func134 rfl rfl (by simp) fun a0 hN hd hA => ?_
 have s0 : a0.tmps.getD 0 undef = v := hA 0 (by simp)
 have s1 : a0.tmps.getD 1 undef = (.int .i64 ((a : Nat) : Int)) := hA 1 (by simp)
 have s2 : a0.tmps.getD 2 undef = (.int .i64 ((b : Nat) : Int)) := hA 2 (by simp)
 have s3 : a0.tmps.getD 3 undef = (.int .i64 ((pv : Nat) : Int)) := hA 3 (by simp)
 clear hA
 refine zF fun K1 hK1 => ?_
 refine zH ?_
 refine zD rfl ?_
 refine zD rfl ?_
 refine zB ?_
 refine hK1 _ _ (zF fun K2 hK2 => ?_)
 refine reg_mid (e := 74) (sz := 1) (base := base) (n := n) (v := v) (Φ := phiL [(fun uz _ => uz = v), (fun uz _ => uz = (.int .i64 ((a : Nat) : Int))), (fun uz _ => uz = v), (fun uz _ => uz = (.int .i64 ((pv : Nat) : Int))), (fun uz _ => uz = v), (fun uz _ => uz = (.int .i64 ((pv : Nat) : Int))), (fun uz _ => ∃ bz oz, uz = ptr bz oz ∧ AtV v pv bz oz), (fun uz _ => uz = (.int .u16 (d[pv]!.toNat : Int))), (fun uz _ => uz = v), (fun uz _ => uz = (.int .i64 ((a : Nat) : Int))), (fun uz _ => ∃ bz oz, uz = ptr bz oz ∧ AtV v a bz oz), (fun uz _ => uz = (.int .u16 (d[a]!.toNat : Int))), (fun uz _ => ∃ bz oz, uz = ptr bz oz ∧ AtV v a bz oz), (fun _ _ => True), (fun uz _ => ∃ bz oz, uz = ptr bz oz ∧ AtV v pv bz oz), (fun _ _ => True)]) [13, 15] [(d.toList.map u16v), ((d.setIfInBounds a d[pv]!).toList.map u16v), (((d.setIfInBounds a d[pv]!).setIfInBounds pv d[a]!).toList.map u16v)] mixed zy zy zy zy hN O (StL.get (StL.eq (StL.eq (StL.eq (StL.eq (StL.eq (StL.eq (StL.at (StL.eq (StL.eq (StL.eq (StL.at (StL.eq (StL.at (StL.cons (fun _ _ _ _ h => h) (StL.at (StL.cons (fun _ _ _ _ h => h) (StL.nil _)))))))))))))))))) (ObRs.get (ObRs.cons ?_ (ObRs.cons ?_ (ObRs.cons ?_ (ObRs.cons ?_ (ObRs.cons ?_ (ObRs.cons ?_ (ObRs.cons ?_ (ObRs.cons ?_ (ObRs.cons ?_ (ObRs.cons ?_ (ObRs.cons ?_ (ObRs.cons ?_ (ObRs.cons ?_ (ObRs.pass rfl (ObRs.cons ?_ (ObRs.pass rfl (ObRs.nil)))))))))))))))))) (ObWs.get (ObWs.cons ?_ (ObWs.cons ?_ (ObWs.nil)))) ?_
 ·
  intro aA wA cA hNA hRA hckA hOA hbsA hdpA
  have qA_0 := (hbsA 0 rfl).trans (zL hN rfl s0)
  clear hbsA hdpA
  refine zG (zC hNA rfl qA_0) ?_
  exact obR_end rfl rfl (grown_refl _ _)
 ·
  intro aA wA cA hNA hRA hckA hOA hbsA hdpA
  have qA_1 := (hbsA 1 rfl).trans (zL hN rfl s1)
  clear hbsA hdpA
  refine zG (zC hNA rfl qA_1) ?_
  exact obR_end rfl rfl (grown_refl _ _)
 ·
  intro aA wA cA hNA hRA hckA hOA hbsA hdpA
  have qA_0 := (hbsA 0 rfl).trans (zL hN rfl s0)
  clear hbsA hdpA
  refine zG (zC hNA rfl qA_0) ?_
  exact obR_end rfl rfl (grown_refl _ _)
 ·
  intro aA wA cA hNA hRA hckA hOA hbsA hdpA
  have qA_3 := (hbsA 3 rfl).trans (zL hN rfl s3)
  clear hbsA hdpA
  refine zG (zC hNA rfl qA_3) ?_
  exact obR_end rfl rfl (grown_refl _ _)
 ·
  intro aA wA cA hNA hRA hckA hOA hbsA hdpA
  have qA_0 := (hbsA 0 rfl).trans (zL hN rfl s0)
  clear hbsA hdpA
  refine zG (zC hNA rfl qA_0) ?_
  exact obR_end rfl rfl (grown_refl _ _)
 ·
  intro aA wA cA hNA hRA hckA hOA hbsA hdpA
  have qA_3 := (hbsA 3 rfl).trans (zL hN rfl s3)
  clear hbsA hdpA
  refine zG (zC hNA rfl qA_3) ?_
  exact obR_end rfl rfl (grown_refl _ _)
 ·
  intro aA wA cA hNA hRA hckA hOA hbsA hdpA
  have qA_16 : Sl aA 16 v := hdpA 4 _ 16 zy rfl rfl
  have qA_17 : Sl aA 17 (.int .i64 ((pv : Nat) : Int)) := hdpA 5 _ 17 zy rfl rfl
  clear hbsA hdpA
  refine op_index_own (i := pv) slt42 (zC hNA rfl qA_16) hOA (zC hNA rfl qA_17) zx zx ?_
  intro b_ o_ _ hA_
  exact obR_end rfl ⟨b_, o_, rfl, by simpa using hA_⟩ (grown_refl _ _)
 ·
  intro aA wA cA hNA hRA hckA hOA hbsA hdpA
  obtain ⟨bA_18, oA_18, qA_18, hAA_18⟩ := hdpA 6 _ 18 zy rfl rfl
  clear hbsA hdpA
  obtain rfl : cA = 0 := Nat.le_zero.1 (hckA 0 13 rfl zy)
  have hOA : Own wA base 74 1 v n (d.toList.map u16v) := hOA
  refine zN (v := (Value.int .u16 (d[pv]!.toNat : Int))) one74 (zC hNA rfl qA_18) (by have := hOA.cellAt hAA_18 0 _ (el_at (i := pv) (by first | omega | (simp only [Array.size_setIfInBounds, swp_sz, siftDown_size]; omega))); simpa using this) ?_
  exact obR_end rfl rfl (grown_refl _ _)
 ·
  intro aA wA cA hNA hRA hckA hOA hbsA hdpA
  have qA_0 := (hbsA 0 rfl).trans (zL hN rfl s0)
  clear hbsA hdpA
  refine zG (zC hNA rfl qA_0) ?_
  exact obR_end rfl rfl (grown_refl _ _)
 ·
  intro aA wA cA hNA hRA hckA hOA hbsA hdpA
  have qA_1 := (hbsA 1 rfl).trans (zL hN rfl s1)
  clear hbsA hdpA
  refine zG (zC hNA rfl qA_1) ?_
  exact obR_end rfl rfl (grown_refl _ _)
 ·
  intro aA wA cA hNA hRA hckA hOA hbsA hdpA
  have qA_20 : Sl aA 20 v := hdpA 8 _ 20 zy rfl rfl
  have qA_21 : Sl aA 21 (.int .i64 ((a : Nat) : Int)) := hdpA 9 _ 21 zy rfl rfl
  clear hbsA hdpA
  refine op_index_own (i := a) slt42 (zC hNA rfl qA_20) hOA (zC hNA rfl qA_21) zx zx ?_
  intro b_ o_ _ hA_
  exact obR_end rfl ⟨b_, o_, rfl, by simpa using hA_⟩ (grown_refl _ _)
 ·
  intro aA wA cA hNA hRA hckA hOA hbsA hdpA
  obtain ⟨bA_22, oA_22, qA_22, hAA_22⟩ := hdpA 10 _ 22 zy rfl rfl
  clear hbsA hdpA
  obtain rfl : cA = 0 := Nat.le_zero.1 (hckA 0 13 rfl zy)
  have hOA : Own wA base 74 1 v n (d.toList.map u16v) := hOA
  refine zN (v := (Value.int .u16 (d[a]!.toNat : Int))) one74 (zC hNA rfl qA_22) (by have := hOA.cellAt hAA_22 0 _ (el_at (i := a) (by first | omega | (simp only [Array.size_setIfInBounds, swp_sz, siftDown_size]; omega))); simpa using this) ?_
  exact obR_end rfl rfl (grown_refl _ _)
 ·
  intro aA wA cA hNA hRA hckA hOA hbsA hdpA
  have qA_12 : Sl aA 12 v := hdpA 0 _ 12 zy rfl rfl
  have qA_13 : Sl aA 13 (.int .i64 ((a : Nat) : Int)) := hdpA 1 _ 13 zy rfl rfl
  clear hbsA hdpA
  refine op_index_own (i := a) slt42 (zC hNA rfl qA_12) hOA (zC hNA rfl qA_13) zx zx ?_
  intro b_ o_ _ hA_
  exact obR_end rfl ⟨b_, o_, rfl, by simpa using hA_⟩ (grown_refl _ _)
 ·
  intro aA wA cA hNA hRA hckA hOA hbsA hdpA
  have qA_14 : Sl aA 14 v := hdpA 2 _ 14 zy rfl rfl
  have qA_15 : Sl aA 15 (.int .i64 ((pv : Nat) : Int)) := hdpA 3 _ 15 zy rfl rfl
  clear hbsA hdpA
  refine op_index_own (i := pv) slt42 (zC hNA rfl qA_14) hOA (zC hNA rfl qA_15) zx zx ?_
  intro b_ o_ _ hA_
  exact obR_end rfl ⟨b_, o_, rfl, by simpa using hA_⟩ (grown_refl _ _)
 ·
  intro o_ ho_; obtain rfl := zE ho_; intro aA wA hNA hRA hbsA hdpA hOA
  obtain ⟨bA_24, oA_24, qA_24, hAA_24⟩ := hdpA 12 _ 24 zy rfl rfl
  have qA_19 : Sl aA 19 (.int .u16 (d[pv]!.toNat : Int)) := hdpA 7 _ 19 zy rfl rfl
  clear hbsA hdpA
  have hOA : Own wA base 74 1 v n (d.toList.map u16v) := hOA
  refine op_store_own (vs := [(.int .u16 (d[pv]!.toNat : Int))]) size74 (zC hNA rfl qA_24) (zC hNA rfl qA_19) rfl rfl rfl hOA hAA_24 (by have := hOA.1; simp at this ⊢; omega) ?_
  intro w_ hO_ E_
  exact obW_end rfl (hO_.cast rfl (set_arr (by first | omega | (simp only [Array.size_setIfInBounds, swp_sz, siftDown_size]; omega)))) E_
 ·
  intro o_ ho_; obtain rfl := zE ho_; intro aA wA hNA hRA hbsA hdpA hOA
  obtain ⟨bA_25, oA_25, qA_25, hAA_25⟩ := hdpA 14 _ 25 zy rfl rfl
  have qA_23 : Sl aA 23 (.int .u16 (d[a]!.toNat : Int)) := hdpA 11 _ 23 zy rfl rfl
  clear hbsA hdpA
  have hOA : Own wA base 74 1 v n ((d.setIfInBounds a d[pv]!).toList.map u16v) := hOA
  refine op_store_own (vs := [(.int .u16 (d[a]!.toNat : Int))]) size74 (zC hNA rfl qA_25) (zC hNA rfl qA_23) rfl rfl rfl hOA hAA_25 (by have := hOA.1; simp at this ⊢; omega) ?_
  intro w_ hO_ E_
  exact obW_end rfl (hO_.cast rfl (set_arr (by first | omega | (simp only [Array.size_setIfInBounds, swp_sz, siftDown_size]; omega)))) E_
 intro a3 w3 hN3 hd3 hbs3 hph3 hO3 E3
 have hd3 := hd3.trans hd
 have s3_0 := (hbs3 0 rfl).trans (zL hN rfl s0)
 have s3_1 := (hbs3 1 rfl).trans (zL hN rfl s1)
 have s3_2 := (hbs3 2 rfl).trans (zL hN rfl s2)
 have s3_8 := (hbs3 8 rfl).trans (zU hN rfl)
 have s3_9 := (hbs3 9 rfl).trans (zU hN rfl)
 clear hbs3 hph3
 have hO3 : Own w3 base 74 1 v n (((d.setIfInBounds a d[pv]!).setIfInBounds pv d[a]!).toList.map u16v) := hO3
 have := E3.size
 have hb := grow_stepX hb E3 rfl
 refine hK2 _ _ (seq_join1 (N := 168) (fun az_ w' => ∃ (d1 : Ar), (az_.tmps.getD 0 undef = v) ∧ (az_.tmps.getD 1 undef = (.int .i64 ((a : Nat) : Int))) ∧ (az_.tmps.getD 8 undef = (.int .i64 0)) ∧ (az_.tmps.getD 9 undef = (.bool false)) ∧ (az_.tmps.getD 10 undef = (.int .i64 (((a : Nat) : Int) + 1))) ∧ (az_.tmps.getD 11 undef = (.int .i64 (((b - 1) : Nat) : Int))) ∧ (d1 = swp d a pv) ∧ (d1.size = n) ∧ (w.grownBy w' v.ownBlock) ∧ (w3.heap.size ≤ w'.heap.size) ∧ (Own w' base 74 1 v n (d1.toList.map u16v))) (fun hJ4 => ?_) ?_)
 ·
  refine zF fun K6 hK6 => ?_
  refine zH ?_
  refine zG (zC hN3 rfl s3_1) ?_
  refine op_add (zA hN3 rfl) rfl (add64 zx) ?_
  refine zG (zC hN3 rfl s3_2) ?_
  refine op_sub (r := ((b - 1 : Nat) : Int)) (zA hN3 rfl) rfl (by rw [IntKind.wrap_i64]; omega) ?_
  refine zD (zA hN3 rfl) ?_
  refine zD (zA hN3 rfl) ?_
  refine zB ?_
  refine hK6 _ _ ?_
  exact hJ4 _ _ _ hN3 hd3 ⟨_, (zL hN3 rfl s3_0), (zL hN3 rfl s3_1), (zL hN3 rfl s3_8), (zL hN3 rfl s3_9), (zU hN3 rfl), (zU hN3 rfl), rfl, (by first | assumption | (simp only [Array.size_setIfInBounds, swp_sz, siftDown_size]; assumption)), hb, zx, hO3⟩
 rintro a4 w4 hN4 hd4 ⟨d1, s4_0, s4_1, s4_8, s4_9, s4_10, s4_11, hd1, hz1, hb, zl_w4, hO5⟩
 have := hb.size
 refine seq_join1 (N := 168) (fun az_ w' => ∃ (i2 : Nat), (az_.tmps.getD 0 undef = v) ∧ (az_.tmps.getD 1 undef = (.int .i64 ((a : Nat) : Int))) ∧ (az_.tmps.getD 8 undef = (.int .i64 0)) ∧ (az_.tmps.getD 9 undef = (.bool false)) ∧ (az_.tmps.getD 11 undef = (.int .i64 (((b - 1) : Nat) : Int))) ∧ (az_.tmps.getD 10 undef = (.int .i64 ((i2 : Nat) : Int))) ∧ (a + 1 ≤ i2 ∧ i2 ≤ b) ∧ (scanUp (fun x => ltT x d1[a]!) d1 (b - 1) (a + 1) = i2) ∧ (i2 ≤ b - 1 → ltT d1[i2]! d1[a]! = false) ∧ (w.grownBy w' v.ownBlock) ∧ (w4.heap.size ≤ w'.heap.size) ∧ (Own w' base 74 1 v n (d1.toList.map u16v))) (fun hJ7 => ?_) ?_
 ·
  refine zF fun K8 hK8 => ?_
  refine wp_block ?_
  refine loop_m (fun mz_ az_ w' => ∃ (i2 : Nat), mz_ = (b + 1 - i2) ∧ (az_.tmps.getD 0 undef = v) ∧ (az_.tmps.getD 1 undef = (.int .i64 ((a : Nat) : Int))) ∧ (az_.tmps.getD 8 undef = (.int .i64 0)) ∧ (az_.tmps.getD 9 undef = (.bool false)) ∧ (az_.tmps.getD 11 undef = (.int .i64 (((b - 1) : Nat) : Int))) ∧ (az_.tmps.getD 10 undef = (.int .i64 ((i2 : Nat) : Int))) ∧ (a + 1 ≤ i2 ∧ i2 ≤ b) ∧ (scanUp (fun x => ltT x d1[a]!) d1 (b - 1) (a + 1) = scanUp (fun x => ltT x d1[a]!) d1 (b - 1) i2) ∧ (w.grownBy w' v.ownBlock) ∧ (w4.heap.size ≤ w'.heap.size) ∧ (Own w' base 74 1 v n (d1.toList.map u16v))) _ hN4 hd4 ⟨(a + 1), rfl, (zL hN4 rfl s4_0), (zL hN4 rfl s4_1), (zL hN4 rfl s4_8), (zL hN4 rfl s4_9), (zL hN4 rfl s4_11), (zL hN4 rfl s4_10).trans (congrArg (Value.int .i64) zx), zx, rfl, hb, (Nat.le_refl _), hO5⟩ ?_
  rintro _ a9 w9 hN9 hd9 ⟨i2, rfl, s9_0, s9_1, s9_8, s9_9, s9_11, s9_10, hr2, hu1, hb, zl_w9, hO5⟩
  have := hb.size
  refine zF fun K10 hK10 => ?_
  refine zF fun K11 hK11 => ?_
  refine reg_still mixed zy ?_
  intro w13 E12
  have := E12.size
  have hO5 := hO5.keep0 E12
  have hb := grow_step0 hb E12
  refine st_step rfl (fun _ h9 => zG (zC hN9 rfl s9_10) h9) ?_
  refine st_step rfl (fun _ h9 => zG (zC hN9 rfl s9_11) h9) ?_
  by_cases g32 : ((i2 : Nat) : Int) ≤ (((b - 1) : Nat) : Int)
  ·
   refine st_step rfl (fun _ h9 => op_cmp (b := true) (zA hN9 rfl) (zA hN9 rfl) (b_leq (decide_eq_true g32)) h9) ?_
   refine st_step rfl (fun _ h9 => zG (zA hN9 rfl) h9) ?_
   refine st_g_true (j := 3) (dj := 33) (b := true) rfl rfl rfl (zA hN9 rfl) ?_
   refine st_step rfl (fun _ h9 => zG (zC hN9 rfl s9_0) h9) ?_
   refine st_g_true (j := 3) (dj := 33) (b := true) rfl rfl rfl (zA hN9 rfl) ?_
   refine st_step rfl (fun _ h9 => zG (zC hN9 rfl s9_10) h9) ?_
   refine st_g_true (j := 3) (dj := 33) (b := true) rfl rfl rfl (zA hN9 rfl) ?_
   refine st_index_rd slt42 (zA hN9 rfl) hO5.rdw (zA hN9 rfl) zx zx ?_
   intro b14 o15 h0b14 h1b14 hc16
   refine st_g_true (j := 3) (dj := 33) (b := true) rfl rfl rfl (zA hN9 rfl) ?_
   refine st_step rfl (fun _ h9 => zN (v := (Value.int .u16 (d1[i2]!.toNat : Int))) one74 (zA hN9 rfl) (by have := hc16 0 (.int .u16 (d1[i2]!.toNat : Int)) zz (el_arr (i := i2) zx (by first | omega | (simp only [Array.size_setIfInBounds, swp_sz, siftDown_size]; omega))); simpa using this) h9) ?_
   refine st_g_true (j := 3) (dj := 33) (b := true) rfl rfl rfl (zA hN9 rfl) ?_
   refine st_step rfl (fun _ h9 => zG (zC hN9 rfl s9_0) h9) ?_
   refine st_g_true (j := 3) (dj := 33) (b := true) rfl rfl rfl (zA hN9 rfl) ?_
   refine st_step rfl (fun _ h9 => zG (zC hN9 rfl s9_1) h9) ?_
   refine st_g_true (j := 3) (dj := 33) (b := true) rfl rfl rfl (zA hN9 rfl) ?_
   refine st_index_rd slt42 (zA hN9 rfl) hO5.rdw (zA hN9 rfl) zx zx ?_
   intro b17 o18 h0b17 h1b17 hc19
   refine st_g_true (j := 3) (dj := 33) (b := true) rfl rfl rfl (zA hN9 rfl) ?_
   refine st_step rfl (fun _ h9 => zN (v := (Value.int .u16 (d1[a]!.toNat : Int))) one74 (zA hN9 rfl) (by have := hc19 0 (.int .u16 (d1[a]!.toNat : Int)) zz (el_arr (i := a) zx (by first | omega | (simp only [Array.size_setIfInBounds, swp_sz, siftDown_size]; omega))); simpa using this) h9) ?_
   refine st_g_true (j := 3) (dj := 33) (b := true) rfl rfl rfl (zA hN9 rfl) ?_
   refine st_fn (vs := [(.int .u16 (d1[i2]!.toNat : Int)), (.int .u16 (d1[a]!.toNat : Int))]) ok132 (⟨(zA hN9 rfl), ⟨(zA hN9 rfl), trivial⟩⟩) (Less16_ret d1[i2]! d1[a]! _) ?_
   refine st_step rfl (fun _ h9 => zc (zA hN9 rfl) (zA hN9 rfl) h9) ?_
   refine st_nil ?_
   refine hK11 _ _ (wp_cond_split (zA hN9 rfl) (fun c43 => ?_) (fun c43 => ?_))
   ·
    refine wp_skip (hK10 _ _ (wp_block ?_))
    refine zH ?_
    refine zG (zC hN9 rfl s9_10) ?_
    refine op_add (zA hN9 rfl) rfl (add64 zx) ?_
    refine zD (zA hN9 rfl) ?_
    refine zB ?_
    refine blk_normal ?_
    -- round 32T 43T
    exact zg _ hN9 hd9 ⟨(i2 + 1), rfl, (zL hN9 rfl s9_0), (zL hN9 rfl s9_1), (zL hN9 rfl s9_8), (zL hN9 rfl s9_9), (zL hN9 rfl s9_11), (zU hN9 rfl).trans (congrArg (Value.int .i64) zx), zx, (hu1.trans (scanUp_go zx c43)), hb, zx, hO5⟩ zx
   refine wp_exit (then_exit (then_exit (blk_hit ?_)))
   refine hK8 _ _ ?_
   exact hJ7 _ _ _ hN9 hd9 ⟨i2, (zL hN9 rfl s9_0), (zL hN9 rfl s9_1), (zL hN9 rfl s9_8), (zL hN9 rfl s9_9), (zL hN9 rfl s9_11), (zL hN9 rfl s9_10), zx, (hu1.trans (scanUp_stop (.inr c43))), (fun _ => c43), hb, zx, hO5⟩
  refine st_step rfl (fun _ h9 => op_cmp (b := false) (zA hN9 rfl) (zA hN9 rfl) (b_leq (decide_eq_false g32)) h9) ?_
  refine st_step rfl (fun _ h9 => zG (zA hN9 rfl) h9) ?_
  refine st_g_false (j := 3) (dj := 33) (b := true) rfl rfl rfl (zA hN9 rfl) rfl rfl ?_
  refine st_g_false (j := 3) (dj := 33) (b := true) rfl rfl rfl (zA hN9 rfl) rfl rfl ?_
  refine st_g_false (j := 3) (dj := 33) (b := true) rfl rfl rfl (zA hN9 rfl) rfl rfl ?_
  refine st_g_false (j := 3) (dj := 33) (b := true) rfl rfl rfl (zA hN9 rfl) rfl rfl ?_
  refine st_g_false (j := 3) (dj := 33) (b := true) rfl rfl rfl (zA hN9 rfl) rfl rfl ?_
  refine st_g_false (j := 3) (dj := 33) (b := true) rfl rfl rfl (zA hN9 rfl) rfl rfl ?_
  refine st_g_false (j := 3) (dj := 33) (b := true) rfl rfl rfl (zA hN9 rfl) rfl rfl ?_
  refine st_g_false (j := 3) (dj := 33) (b := true) rfl rfl rfl (zA hN9 rfl) rfl rfl ?_
  refine st_g_false (j := 3) (dj := 33) (b := true) rfl rfl rfl (zA hN9 rfl) rfl rfl ?_
  refine st_step rfl (fun _ h9 => zd (zA hN9 rfl) rfl h9) ?_
  refine st_nil ?_
  refine hK11 _ _ (wp_cond_false (zA hN9 rfl) (wp_exit (then_exit (then_exit (blk_hit ?_)))))
  refine hK8 _ _ ?_
  exact hJ7 _ _ _ hN9 hd9 ⟨i2, (zL hN9 rfl s9_0), (zL hN9 rfl s9_1), (zL hN9 rfl s9_8), (zL hN9 rfl s9_9), (zL hN9 rfl s9_11), (zL hN9 rfl s9_10), zx, (hu1.trans (scanUp_stop (.inl zx))), (fun hq => absurd hq zx), hb, zx, hO5⟩
 rintro a7 w7 hN7 hd7 ⟨i2, s7_0, s7_1, s7_8, s7_9, s7_11, s7_10, hr2, hu2, hx2, hb, zl_w7, hO5⟩
 have := hb.size
 refine seq_join1 (N := 168) (fun az_ w' => ∃ (j2 : Nat), (az_.tmps.getD 0 undef = v) ∧ (az_.tmps.getD 1 undef = (.int .i64 ((a : Nat) : Int))) ∧ (az_.tmps.getD 8 undef = (.int .i64 0)) ∧ (az_.tmps.getD 9 undef = (.bool false)) ∧ (az_.tmps.getD 10 undef = (.int .i64 ((i2 : Nat) : Int))) ∧ (az_.tmps.getD 11 undef = (.int .i64 ((j2 : Nat) : Int))) ∧ (j2 ≤ b - 1 ∧ i2 ≤ j2 + 1) ∧ (scanDown (fun x => !ltT x d1[a]!) d1 i2 (b - 1) = j2) ∧ (i2 ≠ j2) ∧ (w.grownBy w' v.ownBlock) ∧ (w7.heap.size ≤ w'.heap.size) ∧ (Own w' base 74 1 v n (d1.toList.map u16v))) (fun hJ20 => ?_) ?_
 ·
  refine zF fun K21 hK21 => ?_
  refine wp_block ?_
  refine loop_m (fun mz_ az_ w' => ∃ (j2 : Nat), mz_ = (j2 + 1) ∧ (az_.tmps.getD 0 undef = v) ∧ (az_.tmps.getD 1 undef = (.int .i64 ((a : Nat) : Int))) ∧ (az_.tmps.getD 8 undef = (.int .i64 0)) ∧ (az_.tmps.getD 9 undef = (.bool false)) ∧ (az_.tmps.getD 10 undef = (.int .i64 ((i2 : Nat) : Int))) ∧ (az_.tmps.getD 11 undef = (.int .i64 ((j2 : Nat) : Int))) ∧ (j2 ≤ b - 1 ∧ i2 ≤ j2 + 1) ∧ (scanDown (fun x => !ltT x d1[a]!) d1 i2 (b - 1) = scanDown (fun x => !ltT x d1[a]!) d1 i2 j2) ∧ (w.grownBy w' v.ownBlock) ∧ (w7.heap.size ≤ w'.heap.size) ∧ (Own w' base 74 1 v n (d1.toList.map u16v))) _ hN7 hd7 ⟨(b - 1), rfl, (zL hN7 rfl s7_0), (zL hN7 rfl s7_1), (zL hN7 rfl s7_8), (zL hN7 rfl s7_9), (zL hN7 rfl s7_10), (zL hN7 rfl s7_11).trans (congrArg (Value.int .i64) zx), zx, rfl, hb, (Nat.le_refl _), hO5⟩ ?_
  rintro _ a22 w22 hN22 hd22 ⟨j2, rfl, s22_0, s22_1, s22_8, s22_9, s22_10, s22_11, hr3, hv1, hb, zl_w22, hO5⟩
  have := hb.size
  refine zF fun K23 hK23 => ?_
  refine zF fun K24 hK24 => ?_
  refine reg_still mixed zy ?_
  intro w26 E25
  have := E25.size
  have hO5 := hO5.keep0 E25
  have hb := grow_step0 hb E25
  refine st_step rfl (fun _ h9 => zG (zC hN22 rfl s22_10) h9) ?_
  refine st_step rfl (fun _ h9 => zG (zC hN22 rfl s22_11) h9) ?_
  by_cases g48 : ((i2 : Nat) : Int) ≤ ((j2 : Nat) : Int)
  ·
   refine st_step rfl (fun _ h9 => op_cmp (b := true) (zA hN22 rfl) (zA hN22 rfl) (b_leq (decide_eq_true g48)) h9) ?_
   refine st_step rfl (fun _ h9 => zG (zA hN22 rfl) h9) ?_
   refine st_g_true (j := 3) (dj := 49) (b := true) rfl rfl rfl (zA hN22 rfl) ?_
   refine st_step rfl (fun _ h9 => zG (zC hN22 rfl s22_0) h9) ?_
   refine st_g_true (j := 3) (dj := 49) (b := true) rfl rfl rfl (zA hN22 rfl) ?_
   refine st_step rfl (fun _ h9 => zG (zC hN22 rfl s22_11) h9) ?_
   refine st_g_true (j := 3) (dj := 49) (b := true) rfl rfl rfl (zA hN22 rfl) ?_
   refine st_index_rd slt42 (zA hN22 rfl) hO5.rdw (zA hN22 rfl) zx zx ?_
   intro b27 o28 h0b27 h1b27 hc29
   refine st_g_true (j := 3) (dj := 49) (b := true) rfl rfl rfl (zA hN22 rfl) ?_
   refine st_step rfl (fun _ h9 => zN (v := (Value.int .u16 (d1[j2]!.toNat : Int))) one74 (zA hN22 rfl) (by have := hc29 0 (.int .u16 (d1[j2]!.toNat : Int)) zz (el_arr (i := j2) zx (by first | omega | (simp only [Array.size_setIfInBounds, swp_sz, siftDown_size]; omega))); simpa using this) h9) ?_
   refine st_g_true (j := 3) (dj := 49) (b := true) rfl rfl rfl (zA hN22 rfl) ?_
   refine st_step rfl (fun _ h9 => zG (zC hN22 rfl s22_0) h9) ?_
   refine st_g_true (j := 3) (dj := 49) (b := true) rfl rfl rfl (zA hN22 rfl) ?_
   refine st_step rfl (fun _ h9 => zG (zC hN22 rfl s22_1) h9) ?_
   refine st_g_true (j := 3) (dj := 49) (b := true) rfl rfl rfl (zA hN22 rfl) ?_
   refine st_index_rd slt42 (zA hN22 rfl) hO5.rdw (zA hN22 rfl) zx zx ?_
   intro b30 o31 h0b30 h1b30 hc32
   refine st_g_true (j := 3) (dj := 49) (b := true) rfl rfl rfl (zA hN22 rfl) ?_
   refine st_step rfl (fun _ h9 => zN (v := (Value.int .u16 (d1[a]!.toNat : Int))) one74 (zA hN22 rfl) (by have := hc32 0 (.int .u16 (d1[a]!.toNat : Int)) zz (el_arr (i := a) zx (by first | omega | (simp only [Array.size_setIfInBounds, swp_sz, siftDown_size]; omega))); simpa using this) h9) ?_
   refine st_g_true (j := 3) (dj := 49) (b := true) rfl rfl rfl (zA hN22 rfl) ?_
   refine st_fn (vs := [(.int .u16 (d1[j2]!.toNat : Int)), (.int .u16 (d1[a]!.toNat : Int))]) ok132 (⟨(zA hN22 rfl), ⟨(zA hN22 rfl), trivial⟩⟩) (Less16_ret d1[j2]! d1[a]! _) ?_
   refine st_g_true (j := 3) (dj := 49) (b := true) rfl rfl rfl (zA hN22 rfl) ?_
   refine st_step rfl (fun _ h9 => op_not (zA hN22 rfl) h9) ?_
   refine st_step rfl (fun _ h9 => zc (zA hN22 rfl) (zA hN22 rfl) h9) ?_
   refine st_nil ?_
   refine hK24 _ _ (wp_cond_split (zA hN22 rfl) (fun c60 => ?_) (fun c60 => ?_))
   ·
    refine wp_skip (hK23 _ _ (wp_block ?_))
    refine zH ?_
    refine zG (zC hN22 rfl s22_11) ?_
    refine op_sub (zA hN22 rfl) rfl (sub64 zx) ?_
    refine zD (zA hN22 rfl) ?_
    refine zB ?_
    refine blk_normal ?_
    -- round 48T 60T
    exact zg _ hN22 hd22 ⟨(j2 - 1), rfl, (zL hN22 rfl s22_0), (zL hN22 rfl s22_1), (zL hN22 rfl s22_8), (zL hN22 rfl s22_9), (zL hN22 rfl s22_10), (zU hN22 rfl).trans (congrArg (Value.int .i64) zx), zx, (hv1.trans (scanDown_go zx zx c60)), hb, zx, hO5⟩ zx
   refine wp_exit (then_exit (then_exit (blk_hit ?_)))
   refine hK21 _ _ ?_
   exact hJ20 _ _ _ hN22 hd22 ⟨j2, (zL hN22 rfl s22_0), (zL hN22 rfl s22_1), (zL hN22 rfl s22_8), (zL hN22 rfl s22_9), (zL hN22 rfl s22_10), (zL hN22 rfl s22_11), zx, (hv1.trans (scanDown_stop (.inr c60))), (fun hh => by have h9 := hx2 zx; rw [hh] at h9; rw [h9] at c60; simp at c60), hb, zx, hO5⟩
  refine st_step rfl (fun _ h9 => op_cmp (b := false) (zA hN22 rfl) (zA hN22 rfl) (b_leq (decide_eq_false g48)) h9) ?_
  refine st_step rfl (fun _ h9 => zG (zA hN22 rfl) h9) ?_
  refine st_g_false (j := 3) (dj := 49) (b := true) rfl rfl rfl (zA hN22 rfl) rfl rfl ?_
  refine st_g_false (j := 3) (dj := 49) (b := true) rfl rfl rfl (zA hN22 rfl) rfl rfl ?_
  refine st_g_false (j := 3) (dj := 49) (b := true) rfl rfl rfl (zA hN22 rfl) rfl rfl ?_
  refine st_g_false (j := 3) (dj := 49) (b := true) rfl rfl rfl (zA hN22 rfl) rfl rfl ?_
  refine st_g_false (j := 3) (dj := 49) (b := true) rfl rfl rfl (zA hN22 rfl) rfl rfl ?_
  refine st_g_false (j := 3) (dj := 49) (b := true) rfl rfl rfl (zA hN22 rfl) rfl rfl ?_
  refine st_g_false (j := 3) (dj := 49) (b := true) rfl rfl rfl (zA hN22 rfl) rfl rfl ?_
  refine st_g_false (j := 3) (dj := 49) (b := true) rfl rfl rfl (zA hN22 rfl) rfl rfl ?_
  refine st_g_false (j := 3) (dj := 49) (b := true) rfl rfl rfl (zA hN22 rfl) rfl rfl ?_
  refine st_g_false (j := 3) (dj := 49) (b := true) rfl rfl rfl (zA hN22 rfl) rfl rfl ?_
  refine st_step rfl (fun _ h9 => zd (zA hN22 rfl) rfl h9) ?_
  refine st_nil ?_
  refine hK24 _ _ (wp_cond_false (zA hN22 rfl) (wp_exit (then_exit (then_exit (blk_hit ?_)))))
  refine hK21 _ _ ?_
  exact hJ20 _ _ _ hN22 hd22 ⟨j2, (zL hN22 rfl s22_0), (zL hN22 rfl s22_1), (zL hN22 rfl s22_8), (zL hN22 rfl s22_9), (zL hN22 rfl s22_10), (zL hN22 rfl s22_11), zx, (hv1.trans (scanDown_stop (.inl zx))), zx, hb, zx, hO5⟩
 rintro a20 w20 hN20 hd20 ⟨j2, s20_0, s20_1, s20_8, s20_9, s20_10, s20_11, hr3, hv2, hne, hb, zl_w20, hO5⟩
 have := hb.size
 refine zF fun K33 hK33 => ?_
 refine zF fun K34 hK34 => ?_
 refine zH ?_
 refine zG (zC hN20 rfl s20_10) ?_
 refine zG (zC hN20 rfl s20_11) ?_
 refine op_gtr (zA hN20 rfl) (zA hN20 rfl) (fun c65 => ?_) (fun c65 => ?_)
 ·
  refine zB ?_
  refine hK34 _ _ (wp_cond_true (zA hN20 rfl) (zF fun K35 hK35 => ?_))
  refine reg_mid (e := 74) (sz := 1) (base := base) (n := n) (v := v) (Φ := phiL [(fun uz _ => uz = v), (fun uz _ => uz = (.int .i64 ((j2 : Nat) : Int))), (fun uz _ => uz = v), (fun uz _ => uz = (.int .i64 ((a : Nat) : Int))), (fun uz _ => uz = v), (fun uz _ => uz = (.int .i64 ((a : Nat) : Int))), (fun uz _ => ∃ bz oz, uz = ptr bz oz ∧ AtV v a bz oz), (fun uz _ => uz = (.int .u16 (d1[a]!.toNat : Int))), (fun uz _ => uz = v), (fun uz _ => uz = (.int .i64 ((j2 : Nat) : Int))), (fun uz _ => ∃ bz oz, uz = ptr bz oz ∧ AtV v j2 bz oz), (fun uz _ => uz = (.int .u16 (d1[j2]!.toNat : Int))), (fun uz _ => ∃ bz oz, uz = ptr bz oz ∧ AtV v j2 bz oz), (fun _ _ => True), (fun uz _ => ∃ bz oz, uz = ptr bz oz ∧ AtV v a bz oz), (fun _ _ => True)]) [13, 15] [(d1.toList.map u16v), ((d1.setIfInBounds j2 d1[a]!).toList.map u16v), (((d1.setIfInBounds j2 d1[a]!).setIfInBounds a d1[j2]!).toList.map u16v)] mixed zy zy zy zy hN20 hO5 (StL.get (StL.eq (StL.eq (StL.eq (StL.eq (StL.eq (StL.eq (StL.at (StL.eq (StL.eq (StL.eq (StL.at (StL.eq (StL.at (StL.cons (fun _ _ _ _ h => h) (StL.at (StL.cons (fun _ _ _ _ h => h) (StL.nil _)))))))))))))))))) (ObRs.get (ObRs.cons ?_ (ObRs.cons ?_ (ObRs.cons ?_ (ObRs.cons ?_ (ObRs.cons ?_ (ObRs.cons ?_ (ObRs.cons ?_ (ObRs.cons ?_ (ObRs.cons ?_ (ObRs.cons ?_ (ObRs.cons ?_ (ObRs.cons ?_ (ObRs.cons ?_ (ObRs.pass rfl (ObRs.cons ?_ (ObRs.pass rfl (ObRs.nil)))))))))))))))))) (ObWs.get (ObWs.cons ?_ (ObWs.cons ?_ (ObWs.nil)))) ?_
  ·
   intro aA wA cA hNA hRA hckA hOA hbsA hdpA
   have qA_0 := (hbsA 0 rfl).trans (zL hN20 rfl s20_0)
   clear hbsA hdpA
   refine zG (zC hNA rfl qA_0) ?_
   exact obR_end rfl rfl (grown_refl _ _)
  ·
   intro aA wA cA hNA hRA hckA hOA hbsA hdpA
   have qA_11 := (hbsA 11 rfl).trans (zL hN20 rfl s20_11)
   clear hbsA hdpA
   refine zG (zC hNA rfl qA_11) ?_
   exact obR_end rfl rfl (grown_refl _ _)
  ·
   intro aA wA cA hNA hRA hckA hOA hbsA hdpA
   have qA_0 := (hbsA 0 rfl).trans (zL hN20 rfl s20_0)
   clear hbsA hdpA
   refine zG (zC hNA rfl qA_0) ?_
   exact obR_end rfl rfl (grown_refl _ _)
  ·
   intro aA wA cA hNA hRA hckA hOA hbsA hdpA
   have qA_1 := (hbsA 1 rfl).trans (zL hN20 rfl s20_1)
   clear hbsA hdpA
   refine zG (zC hNA rfl qA_1) ?_
   exact obR_end rfl rfl (grown_refl _ _)
  ·
   intro aA wA cA hNA hRA hckA hOA hbsA hdpA
   have qA_0 := (hbsA 0 rfl).trans (zL hN20 rfl s20_0)
   clear hbsA hdpA
   refine zG (zC hNA rfl qA_0) ?_
   exact obR_end rfl rfl (grown_refl _ _)
  ·
   intro aA wA cA hNA hRA hckA hOA hbsA hdpA
   have qA_1 := (hbsA 1 rfl).trans (zL hN20 rfl s20_1)
   clear hbsA hdpA
   refine zG (zC hNA rfl qA_1) ?_
   exact obR_end rfl rfl (grown_refl _ _)
  ·
   intro aA wA cA hNA hRA hckA hOA hbsA hdpA
   have qA_70 : Sl aA 70 v := hdpA 4 _ 70 zy rfl rfl
   have qA_71 : Sl aA 71 (.int .i64 ((a : Nat) : Int)) := hdpA 5 _ 71 zy rfl rfl
   clear hbsA hdpA
   refine op_index_own (i := a) slt42 (zC hNA rfl qA_70) hOA (zC hNA rfl qA_71) zx zx ?_
   intro b_ o_ _ hA_
   exact obR_end rfl ⟨b_, o_, rfl, by simpa using hA_⟩ (grown_refl _ _)
  ·
   intro aA wA cA hNA hRA hckA hOA hbsA hdpA
   obtain ⟨bA_72, oA_72, qA_72, hAA_72⟩ := hdpA 6 _ 72 zy rfl rfl
   clear hbsA hdpA
   obtain rfl : cA = 0 := Nat.le_zero.1 (hckA 0 13 rfl zy)
   have hOA : Own wA base 74 1 v n (d1.toList.map u16v) := hOA
   refine zN (v := (Value.int .u16 (d1[a]!.toNat : Int))) one74 (zC hNA rfl qA_72) (by have := hOA.cellAt hAA_72 0 _ (el_at (i := a) (by first | omega | (simp only [Array.size_setIfInBounds, swp_sz, siftDown_size]; omega))); simpa using this) ?_
   exact obR_end rfl rfl (grown_refl _ _)
  ·
   intro aA wA cA hNA hRA hckA hOA hbsA hdpA
   have qA_0 := (hbsA 0 rfl).trans (zL hN20 rfl s20_0)
   clear hbsA hdpA
   refine zG (zC hNA rfl qA_0) ?_
   exact obR_end rfl rfl (grown_refl _ _)
  ·
   intro aA wA cA hNA hRA hckA hOA hbsA hdpA
   have qA_11 := (hbsA 11 rfl).trans (zL hN20 rfl s20_11)
   clear hbsA hdpA
   refine zG (zC hNA rfl qA_11) ?_
   exact obR_end rfl rfl (grown_refl _ _)
  ·
   intro aA wA cA hNA hRA hckA hOA hbsA hdpA
   have qA_74 : Sl aA 74 v := hdpA 8 _ 74 zy rfl rfl
   have qA_75 : Sl aA 75 (.int .i64 ((j2 : Nat) : Int)) := hdpA 9 _ 75 zy rfl rfl
   clear hbsA hdpA
   refine op_index_own (i := j2) slt42 (zC hNA rfl qA_74) hOA (zC hNA rfl qA_75) zx zx ?_
   intro b_ o_ _ hA_
   exact obR_end rfl ⟨b_, o_, rfl, by simpa using hA_⟩ (grown_refl _ _)
  ·
   intro aA wA cA hNA hRA hckA hOA hbsA hdpA
   obtain ⟨bA_76, oA_76, qA_76, hAA_76⟩ := hdpA 10 _ 76 zy rfl rfl
   clear hbsA hdpA
   obtain rfl : cA = 0 := Nat.le_zero.1 (hckA 0 13 rfl zy)
   have hOA : Own wA base 74 1 v n (d1.toList.map u16v) := hOA
   refine zN (v := (Value.int .u16 (d1[j2]!.toNat : Int))) one74 (zC hNA rfl qA_76) (by have := hOA.cellAt hAA_76 0 _ (el_at (i := j2) (by first | omega | (simp only [Array.size_setIfInBounds, swp_sz, siftDown_size]; omega))); simpa using this) ?_
   exact obR_end rfl rfl (grown_refl _ _)
  ·
   intro aA wA cA hNA hRA hckA hOA hbsA hdpA
   have qA_66 : Sl aA 66 v := hdpA 0 _ 66 zy rfl rfl
   have qA_67 : Sl aA 67 (.int .i64 ((j2 : Nat) : Int)) := hdpA 1 _ 67 zy rfl rfl
   clear hbsA hdpA
   refine op_index_own (i := j2) slt42 (zC hNA rfl qA_66) hOA (zC hNA rfl qA_67) zx zx ?_
   intro b_ o_ _ hA_
   exact obR_end rfl ⟨b_, o_, rfl, by simpa using hA_⟩ (grown_refl _ _)
  ·
   intro aA wA cA hNA hRA hckA hOA hbsA hdpA
   have qA_68 : Sl aA 68 v := hdpA 2 _ 68 zy rfl rfl
   have qA_69 : Sl aA 69 (.int .i64 ((a : Nat) : Int)) := hdpA 3 _ 69 zy rfl rfl
   clear hbsA hdpA
   refine op_index_own (i := a) slt42 (zC hNA rfl qA_68) hOA (zC hNA rfl qA_69) zx zx ?_
   intro b_ o_ _ hA_
   exact obR_end rfl ⟨b_, o_, rfl, by simpa using hA_⟩ (grown_refl _ _)
  ·
   intro o_ ho_; obtain rfl := zE ho_; intro aA wA hNA hRA hbsA hdpA hOA
   obtain ⟨bA_78, oA_78, qA_78, hAA_78⟩ := hdpA 12 _ 78 zy rfl rfl
   have qA_73 : Sl aA 73 (.int .u16 (d1[a]!.toNat : Int)) := hdpA 7 _ 73 zy rfl rfl
   clear hbsA hdpA
   have hOA : Own wA base 74 1 v n (d1.toList.map u16v) := hOA
   refine op_store_own (vs := [(.int .u16 (d1[a]!.toNat : Int))]) size74 (zC hNA rfl qA_78) (zC hNA rfl qA_73) rfl rfl rfl hOA hAA_78 (by have := hOA.1; simp at this ⊢; omega) ?_
   intro w_ hO_ E_
   exact obW_end rfl (hO_.cast rfl (set_arr (by first | omega | (simp only [Array.size_setIfInBounds, swp_sz, siftDown_size]; omega)))) E_
  ·
   intro o_ ho_; obtain rfl := zE ho_; intro aA wA hNA hRA hbsA hdpA hOA
   obtain ⟨bA_79, oA_79, qA_79, hAA_79⟩ := hdpA 14 _ 79 zy rfl rfl
   have qA_77 : Sl aA 77 (.int .u16 (d1[j2]!.toNat : Int)) := hdpA 11 _ 77 zy rfl rfl
   clear hbsA hdpA
   have hOA : Own wA base 74 1 v n ((d1.setIfInBounds j2 d1[a]!).toList.map u16v) := hOA
   refine op_store_own (vs := [(.int .u16 (d1[j2]!.toNat : Int))]) size74 (zC hNA rfl qA_79) (zC hNA rfl qA_77) rfl rfl rfl hOA hAA_79 (by have := hOA.1; simp at this ⊢; omega) ?_
   intro w_ hO_ E_
   exact obW_end rfl (hO_.cast rfl (set_arr (by first | omega | (simp only [Array.size_setIfInBounds, swp_sz, siftDown_size]; omega)))) E_
  intro a36 w36 hN36 hd36 hbs36 hph36 hO36 E36
  have hd36 := hd36.trans hd20
  have s36_11 := (hbs36 11 rfl).trans (zL hN20 rfl s20_11)
  clear hbs36 hph36
  have hO36 : Own w36 base 74 1 v n (((d1.setIfInBounds j2 d1[a]!).setIfInBounds a d1[j2]!).toList.map u16v) := hO36
  have := E36.size
  have hb := grow_stepX hb E36 rfl
  refine hK35 _ _ (zF fun K37 hK37 => ?_)
  refine zH ?_
  refine zG (zC hN36 rfl s36_11) ?_
  refine zD (zA hN36 rfl) ?_
  refine zD rfl ?_
  refine zB ?_
  refine hK37 _ _ (wp_ret (zO ( ?_)))
  refine ret2 rfl hd36 (zA hN36 rfl) (zA hN36 rfl) ⟨_, rfl, ?_⟩
  have hq := pt_stop hd1 hu2 hv2 zx
  exact ⟨hb, by rw [hq]; rfl, hO36.cast rfl (by rw [hq]; rfl)⟩
 refine zB ?_
 refine hK34 _ _ (wp_cond_false (zA hN20 rfl) (wp_skip (hK33 _ _ (zF fun K38 hK38 => ?_))))
 refine reg_mid (e := 74) (sz := 1) (base := base) (n := n) (v := v) (Φ := phiL [(fun uz _ => uz = v), (fun uz _ => uz = (.int .i64 ((i2 : Nat) : Int))), (fun uz _ => uz = v), (fun uz _ => uz = (.int .i64 ((j2 : Nat) : Int))), (fun uz _ => uz = v), (fun uz _ => uz = (.int .i64 ((j2 : Nat) : Int))), (fun uz _ => ∃ bz oz, uz = ptr bz oz ∧ AtV v j2 bz oz), (fun uz _ => uz = (.int .u16 (d1[j2]!.toNat : Int))), (fun uz _ => uz = v), (fun uz _ => uz = (.int .i64 ((i2 : Nat) : Int))), (fun uz _ => ∃ bz oz, uz = ptr bz oz ∧ AtV v i2 bz oz), (fun uz _ => uz = (.int .u16 (d1[i2]!.toNat : Int))), (fun uz _ => ∃ bz oz, uz = ptr bz oz ∧ AtV v i2 bz oz), (fun _ _ => True), (fun uz _ => ∃ bz oz, uz = ptr bz oz ∧ AtV v j2 bz oz), (fun _ _ => True)]) [13, 15] [(d1.toList.map u16v), ((d1.setIfInBounds i2 d1[j2]!).toList.map u16v), (((d1.setIfInBounds i2 d1[j2]!).setIfInBounds j2 d1[i2]!).toList.map u16v)] mixed zy zy zy zy hN20 hO5 (StL.get (StL.eq (StL.eq (StL.eq (StL.eq (StL.eq (StL.eq (StL.at (StL.eq (StL.eq (StL.eq (StL.at (StL.eq (StL.at (StL.cons (fun _ _ _ _ h => h) (StL.at (StL.cons (fun _ _ _ _ h => h) (StL.nil _)))))))))))))))))) (ObRs.get (ObRs.cons ?_ (ObRs.cons ?_ (ObRs.cons ?_ (ObRs.cons ?_ (ObRs.cons ?_ (ObRs.cons ?_ (ObRs.cons ?_ (ObRs.cons ?_ (ObRs.cons ?_ (ObRs.cons ?_ (ObRs.cons ?_ (ObRs.cons ?_ (ObRs.cons ?_ (ObRs.pass rfl (ObRs.cons ?_ (ObRs.pass rfl (ObRs.nil)))))))))))))))))) (ObWs.get (ObWs.cons ?_ (ObWs.cons ?_ (ObWs.nil)))) ?_
 ·
  intro aA wA cA hNA hRA hckA hOA hbsA hdpA
  have qA_0 := (hbsA 0 rfl).trans (zL hN20 rfl s20_0)
  clear hbsA hdpA
  refine zG (zC hNA rfl qA_0) ?_
  exact obR_end rfl rfl (grown_refl _ _)
 ·
  intro aA wA cA hNA hRA hckA hOA hbsA hdpA
  have qA_10 := (hbsA 10 rfl).trans (zL hN20 rfl s20_10)
  clear hbsA hdpA
  refine zG (zC hNA rfl qA_10) ?_
  exact obR_end rfl rfl (grown_refl _ _)
 ·
  intro aA wA cA hNA hRA hckA hOA hbsA hdpA
  have qA_0 := (hbsA 0 rfl).trans (zL hN20 rfl s20_0)
  clear hbsA hdpA
  refine zG (zC hNA rfl qA_0) ?_
  exact obR_end rfl rfl (grown_refl _ _)
 ·
  intro aA wA cA hNA hRA hckA hOA hbsA hdpA
  have qA_11 := (hbsA 11 rfl).trans (zL hN20 rfl s20_11)
  clear hbsA hdpA
  refine zG (zC hNA rfl qA_11) ?_
  exact obR_end rfl rfl (grown_refl _ _)
 ·
  intro aA wA cA hNA hRA hckA hOA hbsA hdpA
  have qA_0 := (hbsA 0 rfl).trans (zL hN20 rfl s20_0)
  clear hbsA hdpA
  refine zG (zC hNA rfl qA_0) ?_
  exact obR_end rfl rfl (grown_refl _ _)
 ·
  intro aA wA cA hNA hRA hckA hOA hbsA hdpA
  have qA_11 := (hbsA 11 rfl).trans (zL hN20 rfl s20_11)
  clear hbsA hdpA
  refine zG (zC hNA rfl qA_11) ?_
  exact obR_end rfl rfl (grown_refl _ _)
 ·
  intro aA wA cA hNA hRA hckA hOA hbsA hdpA
  have qA_85 : Sl aA 85 v := hdpA 4 _ 85 zy rfl rfl
  have qA_86 : Sl aA 86 (.int .i64 ((j2 : Nat) : Int)) := hdpA 5 _ 86 zy rfl rfl
  clear hbsA hdpA
  refine op_index_own (i := j2) slt42 (zC hNA rfl qA_85) hOA (zC hNA rfl qA_86) zx zx ?_
  intro b_ o_ _ hA_
  exact obR_end rfl ⟨b_, o_, rfl, by simpa using hA_⟩ (grown_refl _ _)
 ·
  intro aA wA cA hNA hRA hckA hOA hbsA hdpA
  obtain ⟨bA_87, oA_87, qA_87, hAA_87⟩ := hdpA 6 _ 87 zy rfl rfl
  clear hbsA hdpA
  obtain rfl : cA = 0 := Nat.le_zero.1 (hckA 0 13 rfl zy)
  have hOA : Own wA base 74 1 v n (d1.toList.map u16v) := hOA
  refine zN (v := (Value.int .u16 (d1[j2]!.toNat : Int))) one74 (zC hNA rfl qA_87) (by have := hOA.cellAt hAA_87 0 _ (el_at (i := j2) (by first | omega | (simp only [Array.size_setIfInBounds, swp_sz, siftDown_size]; omega))); simpa using this) ?_
  exact obR_end rfl rfl (grown_refl _ _)
 ·
  intro aA wA cA hNA hRA hckA hOA hbsA hdpA
  have qA_0 := (hbsA 0 rfl).trans (zL hN20 rfl s20_0)
  clear hbsA hdpA
  refine zG (zC hNA rfl qA_0) ?_
  exact obR_end rfl rfl (grown_refl _ _)
 ·
  intro aA wA cA hNA hRA hckA hOA hbsA hdpA
  have qA_10 := (hbsA 10 rfl).trans (zL hN20 rfl s20_10)
  clear hbsA hdpA
  refine zG (zC hNA rfl qA_10) ?_
  exact obR_end rfl rfl (grown_refl _ _)
 ·
  intro aA wA cA hNA hRA hckA hOA hbsA hdpA
  have qA_89 : Sl aA 89 v := hdpA 8 _ 89 zy rfl rfl
  have qA_90 : Sl aA 90 (.int .i64 ((i2 : Nat) : Int)) := hdpA 9 _ 90 zy rfl rfl
  clear hbsA hdpA
  refine op_index_own (i := i2) slt42 (zC hNA rfl qA_89) hOA (zC hNA rfl qA_90) zx zx ?_
  intro b_ o_ _ hA_
  exact obR_end rfl ⟨b_, o_, rfl, by simpa using hA_⟩ (grown_refl _ _)
 ·
  intro aA wA cA hNA hRA hckA hOA hbsA hdpA
  obtain ⟨bA_91, oA_91, qA_91, hAA_91⟩ := hdpA 10 _ 91 zy rfl rfl
  clear hbsA hdpA
  obtain rfl : cA = 0 := Nat.le_zero.1 (hckA 0 13 rfl zy)
  have hOA : Own wA base 74 1 v n (d1.toList.map u16v) := hOA
  refine zN (v := (Value.int .u16 (d1[i2]!.toNat : Int))) one74 (zC hNA rfl qA_91) (by have := hOA.cellAt hAA_91 0 _ (el_at (i := i2) (by first | omega | (simp only [Array.size_setIfInBounds, swp_sz, siftDown_size]; omega))); simpa using this) ?_
  exact obR_end rfl rfl (grown_refl _ _)
 ·
  intro aA wA cA hNA hRA hckA hOA hbsA hdpA
  have qA_81 : Sl aA 81 v := hdpA 0 _ 81 zy rfl rfl
  have qA_82 : Sl aA 82 (.int .i64 ((i2 : Nat) : Int)) := hdpA 1 _ 82 zy rfl rfl
  clear hbsA hdpA
  refine op_index_own (i := i2) slt42 (zC hNA rfl qA_81) hOA (zC hNA rfl qA_82) zx zx ?_
  intro b_ o_ _ hA_
  exact obR_end rfl ⟨b_, o_, rfl, by simpa using hA_⟩ (grown_refl _ _)
 ·
  intro aA wA cA hNA hRA hckA hOA hbsA hdpA
  have qA_83 : Sl aA 83 v := hdpA 2 _ 83 zy rfl rfl
  have qA_84 : Sl aA 84 (.int .i64 ((j2 : Nat) : Int)) := hdpA 3 _ 84 zy rfl rfl
  clear hbsA hdpA
  refine op_index_own (i := j2) slt42 (zC hNA rfl qA_83) hOA (zC hNA rfl qA_84) zx zx ?_
  intro b_ o_ _ hA_
  exact obR_end rfl ⟨b_, o_, rfl, by simpa using hA_⟩ (grown_refl _ _)
 ·
  intro o_ ho_; obtain rfl := zE ho_; intro aA wA hNA hRA hbsA hdpA hOA
  obtain ⟨bA_93, oA_93, qA_93, hAA_93⟩ := hdpA 12 _ 93 zy rfl rfl
  have qA_88 : Sl aA 88 (.int .u16 (d1[j2]!.toNat : Int)) := hdpA 7 _ 88 zy rfl rfl
  clear hbsA hdpA
  have hOA : Own wA base 74 1 v n (d1.toList.map u16v) := hOA
  refine op_store_own (vs := [(.int .u16 (d1[j2]!.toNat : Int))]) size74 (zC hNA rfl qA_93) (zC hNA rfl qA_88) rfl rfl rfl hOA hAA_93 (by have := hOA.1; simp at this ⊢; omega) ?_
  intro w_ hO_ E_
  exact obW_end rfl (hO_.cast rfl (set_arr (by first | omega | (simp only [Array.size_setIfInBounds, swp_sz, siftDown_size]; omega)))) E_
 ·
  intro o_ ho_; obtain rfl := zE ho_; intro aA wA hNA hRA hbsA hdpA hOA
  obtain ⟨bA_94, oA_94, qA_94, hAA_94⟩ := hdpA 14 _ 94 zy rfl rfl
  have qA_92 : Sl aA 92 (.int .u16 (d1[i2]!.toNat : Int)) := hdpA 11 _ 92 zy rfl rfl
  clear hbsA hdpA
  have hOA : Own wA base 74 1 v n ((d1.setIfInBounds i2 d1[j2]!).toList.map u16v) := hOA
  refine op_store_own (vs := [(.int .u16 (d1[i2]!.toNat : Int))]) size74 (zC hNA rfl qA_94) (zC hNA rfl qA_92) rfl rfl rfl hOA hAA_94 (by have := hOA.1; simp at this ⊢; omega) ?_
  intro w_ hO_ E_
  exact obW_end rfl (hO_.cast rfl (set_arr (by first | omega | (simp only [Array.size_setIfInBounds, swp_sz, siftDown_size]; omega)))) E_
 intro a39 w39 hN39 hd39 hbs39 hph39 hO39 E39
 have hd39 := hd39.trans hd20
 have s39_0 := (hbs39 0 rfl).trans (zL hN20 rfl s20_0)
 have s39_1 := (hbs39 1 rfl).trans (zL hN20 rfl s20_1)
 have s39_8 := (hbs39 8 rfl).trans (zL hN20 rfl s20_8)
 have s39_9 := (hbs39 9 rfl).trans (zL hN20 rfl s20_9)
 have s39_10 := (hbs39 10 rfl).trans (zL hN20 rfl s20_10)
 have s39_11 := (hbs39 11 rfl).trans (zL hN20 rfl s20_11)
 clear hbs39 hph39
 have hO39 : Own w39 base 74 1 v n (((d1.setIfInBounds i2 d1[j2]!).setIfInBounds j2 d1[i2]!).toList.map u16v) := hO39
 have := E39.size
 have hb := grow_stepX hb E39 rfl
 refine hK38 _ _ (zF fun K40 hK40 => ?_)
 refine zH ?_
 refine zG (zC hN39 rfl s39_10) ?_
 refine op_add (zA hN39 rfl) rfl (add64 zx) ?_
 refine zD (zA hN39 rfl) ?_
 refine zB ?_
 refine hK40 _ _ (zF fun K41 hK41 => ?_)
 refine zH ?_
 refine zG (zC hN39 rfl s39_11) ?_
 refine op_sub (r := ((j2 - 1 : Nat) : Int)) (zA hN39 rfl) rfl (by rw [IntKind.wrap_i64]; omega) ?_
 refine zD (zA hN39 rfl) ?_
 refine zB ?_
 refine hK41 _ _ (zF fun K42 hK42 => ?_)
 refine wp_block ?_
 refine loop_m (fun mz_ az_ w' => ∃ (ii jj : Nat) (dk : Ar), mz_ = (jj + 2 - ii) ∧ (az_.tmps.getD 0 undef = v) ∧ (az_.tmps.getD 1 undef = (.int .i64 ((a : Nat) : Int))) ∧ (az_.tmps.getD 8 undef = (.int .i64 0)) ∧ (az_.tmps.getD 9 undef = (.bool false)) ∧ (az_.tmps.getD 10 undef = (.int .i64 ((ii : Nat) : Int))) ∧ (az_.tmps.getD 11 undef = (.int .i64 ((jj : Nat) : Int))) ∧ (dk.size = n) ∧ (a < ii ∧ ii ≤ jj + 1 ∧ jj < b) ∧ (partLoop ltT a (i2 + 1) (j2 - 1) (swp d1 i2 j2) = partLoop ltT a ii jj dk) ∧ (w.grownBy w' v.ownBlock) ∧ (w39.heap.size ≤ w'.heap.size) ∧ (Own w' base 74 1 v n (dk.toList.map u16v))) _ hN39 hd39 ⟨(i2 + 1), (j2 - 1), _, rfl, (zL hN39 rfl s39_0), (zL hN39 rfl s39_1), (zL hN39 rfl s39_8), (zL hN39 rfl s39_9), (zU hN39 rfl).trans (congrArg (Value.int .i64) zx), (zU hN39 rfl).trans (congrArg (Value.int .i64) zx), (by first | assumption | (simp only [Array.size_setIfInBounds, swp_sz, siftDown_size]; assumption)), zx, rfl, hb, (Nat.le_refl _), hO39⟩ ?_
 rintro _ a43 w43 hN43 hd43 ⟨ii, jj, dk, rfl, s43_0, s43_1, s43_8, s43_9, s43_10, s43_11, hdk, hr4, hs, hb, zl_w43, hO44⟩
 have := hb.size
 refine wp_block ?_
 refine seq_join1 (N := 168) (fun az_ w' => ∃ (i3 : Nat), (az_.tmps.getD 0 undef = v) ∧ (az_.tmps.getD 1 undef = (.int .i64 ((a : Nat) : Int))) ∧ (az_.tmps.getD 8 undef = (.int .i64 0)) ∧ (az_.tmps.getD 9 undef = (.bool false)) ∧ (az_.tmps.getD 11 undef = (.int .i64 ((jj : Nat) : Int))) ∧ (az_.tmps.getD 10 undef = (.int .i64 ((i3 : Nat) : Int))) ∧ (ii ≤ i3 ∧ i3 ≤ jj + 1) ∧ (scanUp (fun x => ltT x dk[a]!) dk jj ii = i3) ∧ (i3 ≤ jj → ltT dk[i3]! dk[a]! = false) ∧ (w.grownBy w' v.ownBlock) ∧ (w43.heap.size ≤ w'.heap.size) ∧ (Own w' base 74 1 v n (dk.toList.map u16v))) (fun hJ45 => ?_) ?_
 ·
  refine zF fun K46 hK46 => ?_
  refine wp_block ?_
  refine loop_m (fun mz_ az_ w' => ∃ (i3 : Nat), mz_ = (jj + 1 - i3) ∧ (az_.tmps.getD 0 undef = v) ∧ (az_.tmps.getD 1 undef = (.int .i64 ((a : Nat) : Int))) ∧ (az_.tmps.getD 8 undef = (.int .i64 0)) ∧ (az_.tmps.getD 9 undef = (.bool false)) ∧ (az_.tmps.getD 11 undef = (.int .i64 ((jj : Nat) : Int))) ∧ (az_.tmps.getD 10 undef = (.int .i64 ((i3 : Nat) : Int))) ∧ (ii ≤ i3 ∧ i3 ≤ jj + 1) ∧ (scanUp (fun x => ltT x dk[a]!) dk jj ii = scanUp (fun x => ltT x dk[a]!) dk jj i3) ∧ (w.grownBy w' v.ownBlock) ∧ (w43.heap.size ≤ w'.heap.size) ∧ (Own w' base 74 1 v n (dk.toList.map u16v))) _ hN43 hd43 ⟨ii, rfl, (zL hN43 rfl s43_0), (zL hN43 rfl s43_1), (zL hN43 rfl s43_8), (zL hN43 rfl s43_9), (zL hN43 rfl s43_11), (zL hN43 rfl s43_10).trans (congrArg (Value.int .i64) zx), zx, rfl, hb, (Nat.le_refl _), hO44⟩ ?_
  rintro _ a47 w47 hN47 hd47 ⟨i3, rfl, s47_0, s47_1, s47_8, s47_9, s47_11, s47_10, hr5, hu3, hb, zl_w47, hO44⟩
  have := hb.size
  refine zF fun K48 hK48 => ?_
  refine zF fun K49 hK49 => ?_
  refine reg_still mixed zy ?_
  intro w51 E50
  have := E50.size
  have hO44 := hO44.keep0 E50
  have hb := grow_step0 hb E50
  refine st_step rfl (fun _ h9 => zG (zC hN47 rfl s47_10) h9) ?_
  refine st_step rfl (fun _ h9 => zG (zC hN47 rfl s47_11) h9) ?_
  by_cases g101 : ((i3 : Nat) : Int) ≤ ((jj : Nat) : Int)
  ·
   refine st_step rfl (fun _ h9 => op_cmp (b := true) (zA hN47 rfl) (zA hN47 rfl) (b_leq (decide_eq_true g101)) h9) ?_
   refine st_step rfl (fun _ h9 => zG (zA hN47 rfl) h9) ?_
   refine st_g_true (j := 3) (dj := 102) (b := true) rfl rfl rfl (zA hN47 rfl) ?_
   refine st_step rfl (fun _ h9 => zG (zC hN47 rfl s47_0) h9) ?_
   refine st_g_true (j := 3) (dj := 102) (b := true) rfl rfl rfl (zA hN47 rfl) ?_
   refine st_step rfl (fun _ h9 => zG (zC hN47 rfl s47_10) h9) ?_
   refine st_g_true (j := 3) (dj := 102) (b := true) rfl rfl rfl (zA hN47 rfl) ?_
   refine st_index_rd slt42 (zA hN47 rfl) hO44.rdw (zA hN47 rfl) zx zx ?_
   intro b52 o53 h0b52 h1b52 hc54
   refine st_g_true (j := 3) (dj := 102) (b := true) rfl rfl rfl (zA hN47 rfl) ?_
   refine st_step rfl (fun _ h9 => zN (v := (Value.int .u16 (dk[i3]!.toNat : Int))) one74 (zA hN47 rfl) (by have := hc54 0 (.int .u16 (dk[i3]!.toNat : Int)) zz (el_arr (i := i3) zx (by first | omega | (simp only [Array.size_setIfInBounds, swp_sz, siftDown_size]; omega))); simpa using this) h9) ?_
   refine st_g_true (j := 3) (dj := 102) (b := true) rfl rfl rfl (zA hN47 rfl) ?_
   refine st_step rfl (fun _ h9 => zG (zC hN47 rfl s47_0) h9) ?_
   refine st_g_true (j := 3) (dj := 102) (b := true) rfl rfl rfl (zA hN47 rfl) ?_
   refine st_step rfl (fun _ h9 => zG (zC hN47 rfl s47_1) h9) ?_
   refine st_g_true (j := 3) (dj := 102) (b := true) rfl rfl rfl (zA hN47 rfl) ?_
   refine st_index_rd slt42 (zA hN47 rfl) hO44.rdw (zA hN47 rfl) zx zx ?_
   intro b55 o56 h0b55 h1b55 hc57
   refine st_g_true (j := 3) (dj := 102) (b := true) rfl rfl rfl (zA hN47 rfl) ?_
   refine st_step rfl (fun _ h9 => zN (v := (Value.int .u16 (dk[a]!.toNat : Int))) one74 (zA hN47 rfl) (by have := hc57 0 (.int .u16 (dk[a]!.toNat : Int)) zz (el_arr (i := a) zx (by first | omega | (simp only [Array.size_setIfInBounds, swp_sz, siftDown_size]; omega))); simpa using this) h9) ?_
   refine st_g_true (j := 3) (dj := 102) (b := true) rfl rfl rfl (zA hN47 rfl) ?_
   refine st_fn (vs := [(.int .u16 (dk[i3]!.toNat : Int)), (.int .u16 (dk[a]!.toNat : Int))]) ok132 (⟨(zA hN47 rfl), ⟨(zA hN47 rfl), trivial⟩⟩) (Less16_ret dk[i3]! dk[a]! _) ?_
   refine st_step rfl (fun _ h9 => zc (zA hN47 rfl) (zA hN47 rfl) h9) ?_
   refine st_nil ?_
   refine hK49 _ _ (wp_cond_split (zA hN47 rfl) (fun c112 => ?_) (fun c112 => ?_))
   ·
    refine wp_skip (hK48 _ _ (wp_block ?_))
    refine zH ?_
    refine zG (zC hN47 rfl s47_10) ?_
    refine op_add (zA hN47 rfl) rfl (add64 zx) ?_
    refine zD (zA hN47 rfl) ?_
    refine zB ?_
    refine blk_normal ?_
    -- round 65F 101T 112T
    exact zg _ hN47 hd47 ⟨(i3 + 1), rfl, (zL hN47 rfl s47_0), (zL hN47 rfl s47_1), (zL hN47 rfl s47_8), (zL hN47 rfl s47_9), (zL hN47 rfl s47_11), (zU hN47 rfl).trans (congrArg (Value.int .i64) zx), zx, (hu3.trans (scanUp_go zx c112)), hb, zx, hO44⟩ zx
   refine wp_exit (then_exit (then_exit (blk_hit ?_)))
   refine hK46 _ _ ?_
   exact hJ45 _ _ _ hN47 hd47 ⟨i3, (zL hN47 rfl s47_0), (zL hN47 rfl s47_1), (zL hN47 rfl s47_8), (zL hN47 rfl s47_9), (zL hN47 rfl s47_11), (zL hN47 rfl s47_10), zx, (hu3.trans (scanUp_stop (.inr c112))), (fun _ => c112), hb, zx, hO44⟩
  refine st_step rfl (fun _ h9 => op_cmp (b := false) (zA hN47 rfl) (zA hN47 rfl) (b_leq (decide_eq_false g101)) h9) ?_
  refine st_step rfl (fun _ h9 => zG (zA hN47 rfl) h9) ?_
  refine st_g_false (j := 3) (dj := 102) (b := true) rfl rfl rfl (zA hN47 rfl) rfl rfl ?_
  refine st_g_false (j := 3) (dj := 102) (b := true) rfl rfl rfl (zA hN47 rfl) rfl rfl ?_
  refine st_g_false (j := 3) (dj := 102) (b := true) rfl rfl rfl (zA hN47 rfl) rfl rfl ?_
  refine st_g_false (j := 3) (dj := 102) (b := true) rfl rfl rfl (zA hN47 rfl) rfl rfl ?_
  refine st_g_false (j := 3) (dj := 102) (b := true) rfl rfl rfl (zA hN47 rfl) rfl rfl ?_
  refine st_g_false (j := 3) (dj := 102) (b := true) rfl rfl rfl (zA hN47 rfl) rfl rfl ?_
  refine st_g_false (j := 3) (dj := 102) (b := true) rfl rfl rfl (zA hN47 rfl) rfl rfl ?_
  refine st_g_false (j := 3) (dj := 102) (b := true) rfl rfl rfl (zA hN47 rfl) rfl rfl ?_
  refine st_g_false (j := 3) (dj := 102) (b := true) rfl rfl rfl (zA hN47 rfl) rfl rfl ?_
  refine st_step rfl (fun _ h9 => zd (zA hN47 rfl) rfl h9) ?_
  refine st_nil ?_
  refine hK49 _ _ (wp_cond_false (zA hN47 rfl) (wp_exit (then_exit (then_exit (blk_hit ?_)))))
  refine hK46 _ _ ?_
  exact hJ45 _ _ _ hN47 hd47 ⟨i3, (zL hN47 rfl s47_0), (zL hN47 rfl s47_1), (zL hN47 rfl s47_8), (zL hN47 rfl s47_9), (zL hN47 rfl s47_11), (zL hN47 rfl s47_10), zx, (hu3.trans (scanUp_stop (.inl zx))), (fun hq => absurd hq zx), hb, zx, hO44⟩
 rintro a45 w45 hN45 hd45 ⟨i3, s45_0, s45_1, s45_8, s45_9, s45_11, s45_10, hr5, hu4, hx4, hb, zl_w45, hO44⟩
 have := hb.size
 refine seq_join1 (N := 168) (fun az_ w' => ∃ (j3 : Nat), (az_.tmps.getD 0 undef = v) ∧ (az_.tmps.getD 1 undef = (.int .i64 ((a : Nat) : Int))) ∧ (az_.tmps.getD 8 undef = (.int .i64 0)) ∧ (az_.tmps.getD 9 undef = (.bool false)) ∧ (az_.tmps.getD 10 undef = (.int .i64 ((i3 : Nat) : Int))) ∧ (az_.tmps.getD 11 undef = (.int .i64 ((j3 : Nat) : Int))) ∧ (j3 ≤ jj ∧ i3 ≤ j3 + 1) ∧ (scanDown (fun x => !ltT x dk[a]!) dk i3 jj = j3) ∧ (i3 ≠ j3) ∧ (w.grownBy w' v.ownBlock) ∧ (w45.heap.size ≤ w'.heap.size) ∧ (Own w' base 74 1 v n (dk.toList.map u16v))) (fun hJ58 => ?_) ?_
 ·
  refine zF fun K59 hK59 => ?_
  refine wp_block ?_
  refine loop_m (fun mz_ az_ w' => ∃ (j3 : Nat), mz_ = (j3 + 1) ∧ (az_.tmps.getD 0 undef = v) ∧ (az_.tmps.getD 1 undef = (.int .i64 ((a : Nat) : Int))) ∧ (az_.tmps.getD 8 undef = (.int .i64 0)) ∧ (az_.tmps.getD 9 undef = (.bool false)) ∧ (az_.tmps.getD 10 undef = (.int .i64 ((i3 : Nat) : Int))) ∧ (az_.tmps.getD 11 undef = (.int .i64 ((j3 : Nat) : Int))) ∧ (j3 ≤ jj ∧ i3 ≤ j3 + 1) ∧ (scanDown (fun x => !ltT x dk[a]!) dk i3 jj = scanDown (fun x => !ltT x dk[a]!) dk i3 j3) ∧ (w.grownBy w' v.ownBlock) ∧ (w45.heap.size ≤ w'.heap.size) ∧ (Own w' base 74 1 v n (dk.toList.map u16v))) _ hN45 hd45 ⟨jj, rfl, (zL hN45 rfl s45_0), (zL hN45 rfl s45_1), (zL hN45 rfl s45_8), (zL hN45 rfl s45_9), (zL hN45 rfl s45_10), (zL hN45 rfl s45_11).trans (congrArg (Value.int .i64) zx), zx, rfl, hb, (Nat.le_refl _), hO44⟩ ?_
  rintro _ a60 w60 hN60 hd60 ⟨j3, rfl, s60_0, s60_1, s60_8, s60_9, s60_10, s60_11, hr6, hv3, hb, zl_w60, hO44⟩
  have := hb.size
  refine zF fun K61 hK61 => ?_
  refine zF fun K62 hK62 => ?_
  refine reg_still mixed zy ?_
  intro w64 E63
  have := E63.size
  have hO44 := hO44.keep0 E63
  have hb := grow_step0 hb E63
  refine st_step rfl (fun _ h9 => zG (zC hN60 rfl s60_10) h9) ?_
  refine st_step rfl (fun _ h9 => zG (zC hN60 rfl s60_11) h9) ?_
  by_cases g117 : ((i3 : Nat) : Int) ≤ ((j3 : Nat) : Int)
  ·
   refine st_step rfl (fun _ h9 => op_cmp (b := true) (zA hN60 rfl) (zA hN60 rfl) (b_leq (decide_eq_true g117)) h9) ?_
   refine st_step rfl (fun _ h9 => zG (zA hN60 rfl) h9) ?_
   refine st_g_true (j := 3) (dj := 118) (b := true) rfl rfl rfl (zA hN60 rfl) ?_
   refine st_step rfl (fun _ h9 => zG (zC hN60 rfl s60_0) h9) ?_
   refine st_g_true (j := 3) (dj := 118) (b := true) rfl rfl rfl (zA hN60 rfl) ?_
   refine st_step rfl (fun _ h9 => zG (zC hN60 rfl s60_11) h9) ?_
   refine st_g_true (j := 3) (dj := 118) (b := true) rfl rfl rfl (zA hN60 rfl) ?_
   refine st_index_rd slt42 (zA hN60 rfl) hO44.rdw (zA hN60 rfl) zx zx ?_
   intro b65 o66 h0b65 h1b65 hc67
   refine st_g_true (j := 3) (dj := 118) (b := true) rfl rfl rfl (zA hN60 rfl) ?_
   refine st_step rfl (fun _ h9 => zN (v := (Value.int .u16 (dk[j3]!.toNat : Int))) one74 (zA hN60 rfl) (by have := hc67 0 (.int .u16 (dk[j3]!.toNat : Int)) zz (el_arr (i := j3) zx (by first | omega | (simp only [Array.size_setIfInBounds, swp_sz, siftDown_size]; omega))); simpa using this) h9) ?_
   refine st_g_true (j := 3) (dj := 118) (b := true) rfl rfl rfl (zA hN60 rfl) ?_
   refine st_step rfl (fun _ h9 => zG (zC hN60 rfl s60_0) h9) ?_
   refine st_g_true (j := 3) (dj := 118) (b := true) rfl rfl rfl (zA hN60 rfl) ?_
   refine st_step rfl (fun _ h9 => zG (zC hN60 rfl s60_1) h9) ?_
   refine st_g_true (j := 3) (dj := 118) (b := true) rfl rfl rfl (zA hN60 rfl) ?_
   refine st_index_rd slt42 (zA hN60 rfl) hO44.rdw (zA hN60 rfl) zx zx ?_
   intro b68 o69 h0b68 h1b68 hc70
   refine st_g_true (j := 3) (dj := 118) (b := true) rfl rfl rfl (zA hN60 rfl) ?_
   refine st_step rfl (fun _ h9 => zN (v := (Value.int .u16 (dk[a]!.toNat : Int))) one74 (zA hN60 rfl) (by have := hc70 0 (.int .u16 (dk[a]!.toNat : Int)) zz (el_arr (i := a) zx (by first | omega | (simp only [Array.size_setIfInBounds, swp_sz, siftDown_size]; omega))); simpa using this) h9) ?_
   refine st_g_true (j := 3) (dj := 118) (b := true) rfl rfl rfl (zA hN60 rfl) ?_
   refine st_fn (vs := [(.int .u16 (dk[j3]!.toNat : Int)), (.int .u16 (dk[a]!.toNat : Int))]) ok132 (⟨(zA hN60 rfl), ⟨(zA hN60 rfl), trivial⟩⟩) (Less16_ret dk[j3]! dk[a]! _) ?_
   refine st_g_true (j := 3) (dj := 118) (b := true) rfl rfl rfl (zA hN60 rfl) ?_
   refine st_step rfl (fun _ h9 => op_not (zA hN60 rfl) h9) ?_
   refine st_step rfl (fun _ h9 => zc (zA hN60 rfl) (zA hN60 rfl) h9) ?_
   refine st_nil ?_
   refine hK62 _ _ (wp_cond_split (zA hN60 rfl) (fun c129 => ?_) (fun c129 => ?_))
   ·
    refine wp_skip (hK61 _ _ (wp_block ?_))
    refine zH ?_
    refine zG (zC hN60 rfl s60_11) ?_
    refine op_sub (zA hN60 rfl) rfl (sub64 zx) ?_
    refine zD (zA hN60 rfl) ?_
    refine zB ?_
    refine blk_normal ?_
    -- round 65F 117T 129T
    exact zg _ hN60 hd60 ⟨(j3 - 1), rfl, (zL hN60 rfl s60_0), (zL hN60 rfl s60_1), (zL hN60 rfl s60_8), (zL hN60 rfl s60_9), (zL hN60 rfl s60_10), (zU hN60 rfl).trans (congrArg (Value.int .i64) zx), zx, (hv3.trans (scanDown_go zx zx c129)), hb, zx, hO44⟩ zx
   refine wp_exit (then_exit (then_exit (blk_hit ?_)))
   refine hK59 _ _ ?_
   exact hJ58 _ _ _ hN60 hd60 ⟨j3, (zL hN60 rfl s60_0), (zL hN60 rfl s60_1), (zL hN60 rfl s60_8), (zL hN60 rfl s60_9), (zL hN60 rfl s60_10), (zL hN60 rfl s60_11), zx, (hv3.trans (scanDown_stop (.inr c129))), (fun hh => by have h9 := hx4 zx; rw [hh] at h9; rw [h9] at c129; simp at c129), hb, zx, hO44⟩
  refine st_step rfl (fun _ h9 => op_cmp (b := false) (zA hN60 rfl) (zA hN60 rfl) (b_leq (decide_eq_false g117)) h9) ?_
  refine st_step rfl (fun _ h9 => zG (zA hN60 rfl) h9) ?_
  refine st_g_false (j := 3) (dj := 118) (b := true) rfl rfl rfl (zA hN60 rfl) rfl rfl ?_
  refine st_g_false (j := 3) (dj := 118) (b := true) rfl rfl rfl (zA hN60 rfl) rfl rfl ?_
  refine st_g_false (j := 3) (dj := 118) (b := true) rfl rfl rfl (zA hN60 rfl) rfl rfl ?_
  refine st_g_false (j := 3) (dj := 118) (b := true) rfl rfl rfl (zA hN60 rfl) rfl rfl ?_
  refine st_g_false (j := 3) (dj := 118) (b := true) rfl rfl rfl (zA hN60 rfl) rfl rfl ?_
  refine st_g_false (j := 3) (dj := 118) (b := true) rfl rfl rfl (zA hN60 rfl) rfl rfl ?_
  refine st_g_false (j := 3) (dj := 118) (b := true) rfl rfl rfl (zA hN60 rfl) rfl rfl ?_
  refine st_g_false (j := 3) (dj := 118) (b := true) rfl rfl rfl (zA hN60 rfl) rfl rfl ?_
  refine st_g_false (j := 3) (dj := 118) (b := true) rfl rfl rfl (zA hN60 rfl) rfl rfl ?_
  refine st_g_false (j := 3) (dj := 118) (b := true) rfl rfl rfl (zA hN60 rfl) rfl rfl ?_
  refine st_step rfl (fun _ h9 => zd (zA hN60 rfl) rfl h9) ?_
  refine st_nil ?_
  refine hK62 _ _ (wp_cond_false (zA hN60 rfl) (wp_exit (then_exit (then_exit (blk_hit ?_)))))
  refine hK59 _ _ ?_
  exact hJ58 _ _ _ hN60 hd60 ⟨j3, (zL hN60 rfl s60_0), (zL hN60 rfl s60_1), (zL hN60 rfl s60_8), (zL hN60 rfl s60_9), (zL hN60 rfl s60_10), (zL hN60 rfl s60_11), zx, (hv3.trans (scanDown_stop (.inl zx))), zx, hb, zx, hO44⟩
 rintro a58 w58 hN58 hd58 ⟨j3, s58_0, s58_1, s58_8, s58_9, s58_10, s58_11, hr6, hv4, hne4, hb, zl_w58, hO44⟩
 have := hb.size
 refine zF fun K71 hK71 => ?_
 refine zF fun K72 hK72 => ?_
 refine zH ?_
 refine zG (zC hN58 rfl s58_10) ?_
 refine zG (zC hN58 rfl s58_11) ?_
 refine op_gtr (zA hN58 rfl) (zA hN58 rfl) (fun c134 => ?_) (fun c134 => ?_)
 ·
  refine zB ?_
  refine hK72 _ _ (wp_cond_true (zA hN58 rfl) (wp_exit (then_exit (blk_miss zz (then_exit (blk_hit ?_))))))
  refine hK42 _ _ (zF fun K73 hK73 => ?_)
  refine reg_mid (e := 74) (sz := 1) (base := base) (n := n) (v := v) (Φ := phiL [(fun uz _ => uz = v), (fun uz _ => uz = (.int .i64 ((j3 : Nat) : Int))), (fun uz _ => uz = v), (fun uz _ => uz = (.int .i64 ((a : Nat) : Int))), (fun uz _ => uz = v), (fun uz _ => uz = (.int .i64 ((a : Nat) : Int))), (fun uz _ => ∃ bz oz, uz = ptr bz oz ∧ AtV v a bz oz), (fun uz _ => uz = (.int .u16 (dk[a]!.toNat : Int))), (fun uz _ => uz = v), (fun uz _ => uz = (.int .i64 ((j3 : Nat) : Int))), (fun uz _ => ∃ bz oz, uz = ptr bz oz ∧ AtV v j3 bz oz), (fun uz _ => uz = (.int .u16 (dk[j3]!.toNat : Int))), (fun uz _ => ∃ bz oz, uz = ptr bz oz ∧ AtV v j3 bz oz), (fun _ _ => True), (fun uz _ => ∃ bz oz, uz = ptr bz oz ∧ AtV v a bz oz), (fun _ _ => True)]) [13, 15] [(dk.toList.map u16v), ((dk.setIfInBounds j3 dk[a]!).toList.map u16v), (((dk.setIfInBounds j3 dk[a]!).setIfInBounds a dk[j3]!).toList.map u16v)] mixed zy zy zy zy hN58 hO44 (StL.get (StL.eq (StL.eq (StL.eq (StL.eq (StL.eq (StL.eq (StL.at (StL.eq (StL.eq (StL.eq (StL.at (StL.eq (StL.at (StL.cons (fun _ _ _ _ h => h) (StL.at (StL.cons (fun _ _ _ _ h => h) (StL.nil _)))))))))))))))))) (ObRs.get (ObRs.cons ?_ (ObRs.cons ?_ (ObRs.cons ?_ (ObRs.cons ?_ (ObRs.cons ?_ (ObRs.cons ?_ (ObRs.cons ?_ (ObRs.cons ?_ (ObRs.cons ?_ (ObRs.cons ?_ (ObRs.cons ?_ (ObRs.cons ?_ (ObRs.cons ?_ (ObRs.pass rfl (ObRs.cons ?_ (ObRs.pass rfl (ObRs.nil)))))))))))))))))) (ObWs.get (ObWs.cons ?_ (ObWs.cons ?_ (ObWs.nil)))) ?_
  ·
   intro aA wA cA hNA hRA hckA hOA hbsA hdpA
   have qA_0 := (hbsA 0 rfl).trans (zL hN58 rfl s58_0)
   clear hbsA hdpA
   refine zG (zC hNA rfl qA_0) ?_
   exact obR_end rfl rfl (grown_refl _ _)
  ·
   intro aA wA cA hNA hRA hckA hOA hbsA hdpA
   have qA_11 := (hbsA 11 rfl).trans (zL hN58 rfl s58_11)
   clear hbsA hdpA
   refine zG (zC hNA rfl qA_11) ?_
   exact obR_end rfl rfl (grown_refl _ _)
  ·
   intro aA wA cA hNA hRA hckA hOA hbsA hdpA
   have qA_0 := (hbsA 0 rfl).trans (zL hN58 rfl s58_0)
   clear hbsA hdpA
   refine zG (zC hNA rfl qA_0) ?_
   exact obR_end rfl rfl (grown_refl _ _)
  ·
   intro aA wA cA hNA hRA hckA hOA hbsA hdpA
   have qA_1 := (hbsA 1 rfl).trans (zL hN58 rfl s58_1)
   clear hbsA hdpA
   refine zG (zC hNA rfl qA_1) ?_
   exact obR_end rfl rfl (grown_refl _ _)
  ·
   intro aA wA cA hNA hRA hckA hOA hbsA hdpA
   have qA_0 := (hbsA 0 rfl).trans (zL hN58 rfl s58_0)
   clear hbsA hdpA
   refine zG (zC hNA rfl qA_0) ?_
   exact obR_end rfl rfl (grown_refl _ _)
  ·
   intro aA wA cA hNA hRA hckA hOA hbsA hdpA
   have qA_1 := (hbsA 1 rfl).trans (zL hN58 rfl s58_1)
   clear hbsA hdpA
   refine zG (zC hNA rfl qA_1) ?_
   exact obR_end rfl rfl (grown_refl _ _)
  ·
   intro aA wA cA hNA hRA hckA hOA hbsA hdpA
   have qA_157 : Sl aA 157 v := hdpA 4 _ 157 zy rfl rfl
   have qA_158 : Sl aA 158 (.int .i64 ((a : Nat) : Int)) := hdpA 5 _ 158 zy rfl rfl
   clear hbsA hdpA
   refine op_index_own (i := a) slt42 (zC hNA rfl qA_157) hOA (zC hNA rfl qA_158) zx zx ?_
   intro b_ o_ _ hA_
   exact obR_end rfl ⟨b_, o_, rfl, by simpa using hA_⟩ (grown_refl _ _)
  ·
   intro aA wA cA hNA hRA hckA hOA hbsA hdpA
   obtain ⟨bA_159, oA_159, qA_159, hAA_159⟩ := hdpA 6 _ 159 zy rfl rfl
   clear hbsA hdpA
   obtain rfl : cA = 0 := Nat.le_zero.1 (hckA 0 13 rfl zy)
   have hOA : Own wA base 74 1 v n (dk.toList.map u16v) := hOA
   refine zN (v := (Value.int .u16 (dk[a]!.toNat : Int))) one74 (zC hNA rfl qA_159) (by have := hOA.cellAt hAA_159 0 _ (el_at (i := a) (by first | omega | (simp only [Array.size_setIfInBounds, swp_sz, siftDown_size]; omega))); simpa using this) ?_
   exact obR_end rfl rfl (grown_refl _ _)
  ·
   intro aA wA cA hNA hRA hckA hOA hbsA hdpA
   have qA_0 := (hbsA 0 rfl).trans (zL hN58 rfl s58_0)
   clear hbsA hdpA
   refine zG (zC hNA rfl qA_0) ?_
   exact obR_end rfl rfl (grown_refl _ _)
  ·
   intro aA wA cA hNA hRA hckA hOA hbsA hdpA
   have qA_11 := (hbsA 11 rfl).trans (zL hN58 rfl s58_11)
   clear hbsA hdpA
   refine zG (zC hNA rfl qA_11) ?_
   exact obR_end rfl rfl (grown_refl _ _)
  ·
   intro aA wA cA hNA hRA hckA hOA hbsA hdpA
   have qA_161 : Sl aA 161 v := hdpA 8 _ 161 zy rfl rfl
   have qA_162 : Sl aA 162 (.int .i64 ((j3 : Nat) : Int)) := hdpA 9 _ 162 zy rfl rfl
   clear hbsA hdpA
   refine op_index_own (i := j3) slt42 (zC hNA rfl qA_161) hOA (zC hNA rfl qA_162) zx zx ?_
   intro b_ o_ _ hA_
   exact obR_end rfl ⟨b_, o_, rfl, by simpa using hA_⟩ (grown_refl _ _)
  ·
   intro aA wA cA hNA hRA hckA hOA hbsA hdpA
   obtain ⟨bA_163, oA_163, qA_163, hAA_163⟩ := hdpA 10 _ 163 zy rfl rfl
   clear hbsA hdpA
   obtain rfl : cA = 0 := Nat.le_zero.1 (hckA 0 13 rfl zy)
   have hOA : Own wA base 74 1 v n (dk.toList.map u16v) := hOA
   refine zN (v := (Value.int .u16 (dk[j3]!.toNat : Int))) one74 (zC hNA rfl qA_163) (by have := hOA.cellAt hAA_163 0 _ (el_at (i := j3) (by first | omega | (simp only [Array.size_setIfInBounds, swp_sz, siftDown_size]; omega))); simpa using this) ?_
   exact obR_end rfl rfl (grown_refl _ _)
  ·
   intro aA wA cA hNA hRA hckA hOA hbsA hdpA
   have qA_153 : Sl aA 153 v := hdpA 0 _ 153 zy rfl rfl
   have qA_154 : Sl aA 154 (.int .i64 ((j3 : Nat) : Int)) := hdpA 1 _ 154 zy rfl rfl
   clear hbsA hdpA
   refine op_index_own (i := j3) slt42 (zC hNA rfl qA_153) hOA (zC hNA rfl qA_154) zx zx ?_
   intro b_ o_ _ hA_
   exact obR_end rfl ⟨b_, o_, rfl, by simpa using hA_⟩ (grown_refl _ _)
  ·
   intro aA wA cA hNA hRA hckA hOA hbsA hdpA
   have qA_155 : Sl aA 155 v := hdpA 2 _ 155 zy rfl rfl
   have qA_156 : Sl aA 156 (.int .i64 ((a : Nat) : Int)) := hdpA 3 _ 156 zy rfl rfl
   clear hbsA hdpA
   refine op_index_own (i := a) slt42 (zC hNA rfl qA_155) hOA (zC hNA rfl qA_156) zx zx ?_
   intro b_ o_ _ hA_
   exact obR_end rfl ⟨b_, o_, rfl, by simpa using hA_⟩ (grown_refl _ _)
  ·
   intro o_ ho_; obtain rfl := zE ho_; intro aA wA hNA hRA hbsA hdpA hOA
   obtain ⟨bA_165, oA_165, qA_165, hAA_165⟩ := hdpA 12 _ 165 zy rfl rfl
   have qA_160 : Sl aA 160 (.int .u16 (dk[a]!.toNat : Int)) := hdpA 7 _ 160 zy rfl rfl
   clear hbsA hdpA
   have hOA : Own wA base 74 1 v n (dk.toList.map u16v) := hOA
   refine op_store_own (vs := [(.int .u16 (dk[a]!.toNat : Int))]) size74 (zC hNA rfl qA_165) (zC hNA rfl qA_160) rfl rfl rfl hOA hAA_165 (by have := hOA.1; simp at this ⊢; omega) ?_
   intro w_ hO_ E_
   exact obW_end rfl (hO_.cast rfl (set_arr (by first | omega | (simp only [Array.size_setIfInBounds, swp_sz, siftDown_size]; omega)))) E_
  ·
   intro o_ ho_; obtain rfl := zE ho_; intro aA wA hNA hRA hbsA hdpA hOA
   obtain ⟨bA_166, oA_166, qA_166, hAA_166⟩ := hdpA 14 _ 166 zy rfl rfl
   have qA_164 : Sl aA 164 (.int .u16 (dk[j3]!.toNat : Int)) := hdpA 11 _ 164 zy rfl rfl
   clear hbsA hdpA
   have hOA : Own wA base 74 1 v n ((dk.setIfInBounds j3 dk[a]!).toList.map u16v) := hOA
   refine op_store_own (vs := [(.int .u16 (dk[j3]!.toNat : Int))]) size74 (zC hNA rfl qA_166) (zC hNA rfl qA_164) rfl rfl rfl hOA hAA_166 (by have := hOA.1; simp at this ⊢; omega) ?_
   intro w_ hO_ E_
   exact obW_end rfl (hO_.cast rfl (set_arr (by first | omega | (simp only [Array.size_setIfInBounds, swp_sz, siftDown_size]; omega)))) E_
  intro a74 w74 hN74 hd74 hbs74 hph74 hO74 E74
  have hd74 := hd74.trans hd58
  have s74_11 := (hbs74 11 rfl).trans (zL hN58 rfl s58_11)
  clear hbs74 hph74
  have hO74 : Own w74 base 74 1 v n (((dk.setIfInBounds j3 dk[a]!).setIfInBounds a dk[j3]!).toList.map u16v) := hO74
  have := E74.size
  have hb := grow_stepX hb E74 rfl
  refine hK73 _ _ (zF fun K75 hK75 => ?_)
  refine zH ?_
  refine zG (zC hN74 rfl s74_11) ?_
  refine zD (zA hN74 rfl) ?_
  refine zD rfl ?_
  refine zB ?_
  refine hK75 _ _ (wp_ret ?_)
  refine ret2 rfl hd74 (zA hN74 rfl) (zA hN74 rfl) ⟨_, rfl, ?_⟩
  have hp := hs.trans (pl_stop hu4 hv4 zx)
  have hq := pt_go hd1 hu2 hv2 zx
  rw [hp] at hq
  exact ⟨hb, by rw [hq]; rfl, hO74.cast rfl (by rw [hq]; rfl)⟩
 refine zB ?_
 refine hK72 _ _ (wp_cond_false (zA hN58 rfl) (wp_skip (hK71 _ _ (zF fun K76 hK76 => ?_))))
 refine reg_mid (e := 74) (sz := 1) (base := base) (n := n) (v := v) (Φ := phiL [(fun uz _ => uz = v), (fun uz _ => uz = (.int .i64 ((i3 : Nat) : Int))), (fun uz _ => uz = v), (fun uz _ => uz = (.int .i64 ((j3 : Nat) : Int))), (fun uz _ => uz = v), (fun uz _ => uz = (.int .i64 ((j3 : Nat) : Int))), (fun uz _ => ∃ bz oz, uz = ptr bz oz ∧ AtV v j3 bz oz), (fun uz _ => uz = (.int .u16 (dk[j3]!.toNat : Int))), (fun uz _ => uz = v), (fun uz _ => uz = (.int .i64 ((i3 : Nat) : Int))), (fun uz _ => ∃ bz oz, uz = ptr bz oz ∧ AtV v i3 bz oz), (fun uz _ => uz = (.int .u16 (dk[i3]!.toNat : Int))), (fun uz _ => ∃ bz oz, uz = ptr bz oz ∧ AtV v i3 bz oz), (fun _ _ => True), (fun uz _ => ∃ bz oz, uz = ptr bz oz ∧ AtV v j3 bz oz), (fun _ _ => True)]) [13, 15] [(dk.toList.map u16v), ((dk.setIfInBounds i3 dk[j3]!).toList.map u16v), (((dk.setIfInBounds i3 dk[j3]!).setIfInBounds j3 dk[i3]!).toList.map u16v)] mixed zy zy zy zy hN58 hO44 (StL.get (StL.eq (StL.eq (StL.eq (StL.eq (StL.eq (StL.eq (StL.at (StL.eq (StL.eq (StL.eq (StL.at (StL.eq (StL.at (StL.cons (fun _ _ _ _ h => h) (StL.at (StL.cons (fun _ _ _ _ h => h) (StL.nil _)))))))))))))))))) (ObRs.get (ObRs.cons ?_ (ObRs.cons ?_ (ObRs.cons ?_ (ObRs.cons ?_ (ObRs.cons ?_ (ObRs.cons ?_ (ObRs.cons ?_ (ObRs.cons ?_ (ObRs.cons ?_ (ObRs.cons ?_ (ObRs.cons ?_ (ObRs.cons ?_ (ObRs.cons ?_ (ObRs.pass rfl (ObRs.cons ?_ (ObRs.pass rfl (ObRs.nil)))))))))))))))))) (ObWs.get (ObWs.cons ?_ (ObWs.cons ?_ (ObWs.nil)))) ?_
 ·
  intro aA wA cA hNA hRA hckA hOA hbsA hdpA
  have qA_0 := (hbsA 0 rfl).trans (zL hN58 rfl s58_0)
  clear hbsA hdpA
  refine zG (zC hNA rfl qA_0) ?_
  exact obR_end rfl rfl (grown_refl _ _)
 ·
  intro aA wA cA hNA hRA hckA hOA hbsA hdpA
  have qA_10 := (hbsA 10 rfl).trans (zL hN58 rfl s58_10)
  clear hbsA hdpA
  refine zG (zC hNA rfl qA_10) ?_
  exact obR_end rfl rfl (grown_refl _ _)
 ·
  intro aA wA cA hNA hRA hckA hOA hbsA hdpA
  have qA_0 := (hbsA 0 rfl).trans (zL hN58 rfl s58_0)
  clear hbsA hdpA
  refine zG (zC hNA rfl qA_0) ?_
  exact obR_end rfl rfl (grown_refl _ _)
 ·
  intro aA wA cA hNA hRA hckA hOA hbsA hdpA
  have qA_11 := (hbsA 11 rfl).trans (zL hN58 rfl s58_11)
  clear hbsA hdpA
  refine zG (zC hNA rfl qA_11) ?_
  exact obR_end rfl rfl (grown_refl _ _)
 ·
  intro aA wA cA hNA hRA hckA hOA hbsA hdpA
  have qA_0 := (hbsA 0 rfl).trans (zL hN58 rfl s58_0)
  clear hbsA hdpA
  refine zG (zC hNA rfl qA_0) ?_
  exact obR_end rfl rfl (grown_refl _ _)
 ·
  intro aA wA cA hNA hRA hckA hOA hbsA hdpA
  have qA_11 := (hbsA 11 rfl).trans (zL hN58 rfl s58_11)
  clear hbsA hdpA
  refine zG (zC hNA rfl qA_11) ?_
  exact obR_end rfl rfl (grown_refl _ _)
 ·
  intro aA wA cA hNA hRA hckA hOA hbsA hdpA
  have qA_139 : Sl aA 139 v := hdpA 4 _ 139 zy rfl rfl
  have qA_140 : Sl aA 140 (.int .i64 ((j3 : Nat) : Int)) := hdpA 5 _ 140 zy rfl rfl
  clear hbsA hdpA
  refine op_index_own (i := j3) slt42 (zC hNA rfl qA_139) hOA (zC hNA rfl qA_140) zx zx ?_
  intro b_ o_ _ hA_
  exact obR_end rfl ⟨b_, o_, rfl, by simpa using hA_⟩ (grown_refl _ _)
 ·
  intro aA wA cA hNA hRA hckA hOA hbsA hdpA
  obtain ⟨bA_141, oA_141, qA_141, hAA_141⟩ := hdpA 6 _ 141 zy rfl rfl
  clear hbsA hdpA
  obtain rfl : cA = 0 := Nat.le_zero.1 (hckA 0 13 rfl zy)
  have hOA : Own wA base 74 1 v n (dk.toList.map u16v) := hOA
  refine zN (v := (Value.int .u16 (dk[j3]!.toNat : Int))) one74 (zC hNA rfl qA_141) (by have := hOA.cellAt hAA_141 0 _ (el_at (i := j3) (by first | omega | (simp only [Array.size_setIfInBounds, swp_sz, siftDown_size]; omega))); simpa using this) ?_
  exact obR_end rfl rfl (grown_refl _ _)
 ·
  intro aA wA cA hNA hRA hckA hOA hbsA hdpA
  have qA_0 := (hbsA 0 rfl).trans (zL hN58 rfl s58_0)
  clear hbsA hdpA
  refine zG (zC hNA rfl qA_0) ?_
  exact obR_end rfl rfl (grown_refl _ _)
 ·
  intro aA wA cA hNA hRA hckA hOA hbsA hdpA
  have qA_10 := (hbsA 10 rfl).trans (zL hN58 rfl s58_10)
  clear hbsA hdpA
  refine zG (zC hNA rfl qA_10) ?_
  exact obR_end rfl rfl (grown_refl _ _)
 ·
  intro aA wA cA hNA hRA hckA hOA hbsA hdpA
  have qA_143 : Sl aA 143 v := hdpA 8 _ 143 zy rfl rfl
  have qA_144 : Sl aA 144 (.int .i64 ((i3 : Nat) : Int)) := hdpA 9 _ 144 zy rfl rfl
  clear hbsA hdpA
  refine op_index_own (i := i3) slt42 (zC hNA rfl qA_143) hOA (zC hNA rfl qA_144) zx zx ?_
  intro b_ o_ _ hA_
  exact obR_end rfl ⟨b_, o_, rfl, by simpa using hA_⟩ (grown_refl _ _)
 ·
  intro aA wA cA hNA hRA hckA hOA hbsA hdpA
  obtain ⟨bA_145, oA_145, qA_145, hAA_145⟩ := hdpA 10 _ 145 zy rfl rfl
  clear hbsA hdpA
  obtain rfl : cA = 0 := Nat.le_zero.1 (hckA 0 13 rfl zy)
  have hOA : Own wA base 74 1 v n (dk.toList.map u16v) := hOA
  refine zN (v := (Value.int .u16 (dk[i3]!.toNat : Int))) one74 (zC hNA rfl qA_145) (by have := hOA.cellAt hAA_145 0 _ (el_at (i := i3) (by first | omega | (simp only [Array.size_setIfInBounds, swp_sz, siftDown_size]; omega))); simpa using this) ?_
  exact obR_end rfl rfl (grown_refl _ _)
 ·
  intro aA wA cA hNA hRA hckA hOA hbsA hdpA
  have qA_135 : Sl aA 135 v := hdpA 0 _ 135 zy rfl rfl
  have qA_136 : Sl aA 136 (.int .i64 ((i3 : Nat) : Int)) := hdpA 1 _ 136 zy rfl rfl
  clear hbsA hdpA
  refine op_index_own (i := i3) slt42 (zC hNA rfl qA_135) hOA (zC hNA rfl qA_136) zx zx ?_
  intro b_ o_ _ hA_
  exact obR_end rfl ⟨b_, o_, rfl, by simpa using hA_⟩ (grown_refl _ _)
 ·
  intro aA wA cA hNA hRA hckA hOA hbsA hdpA
  have qA_137 : Sl aA 137 v := hdpA 2 _ 137 zy rfl rfl
  have qA_138 : Sl aA 138 (.int .i64 ((j3 : Nat) : Int)) := hdpA 3 _ 138 zy rfl rfl
  clear hbsA hdpA
  refine op_index_own (i := j3) slt42 (zC hNA rfl qA_137) hOA (zC hNA rfl qA_138) zx zx ?_
  intro b_ o_ _ hA_
  exact obR_end rfl ⟨b_, o_, rfl, by simpa using hA_⟩ (grown_refl _ _)
 ·
  intro o_ ho_; obtain rfl := zE ho_; intro aA wA hNA hRA hbsA hdpA hOA
  obtain ⟨bA_147, oA_147, qA_147, hAA_147⟩ := hdpA 12 _ 147 zy rfl rfl
  have qA_142 : Sl aA 142 (.int .u16 (dk[j3]!.toNat : Int)) := hdpA 7 _ 142 zy rfl rfl
  clear hbsA hdpA
  have hOA : Own wA base 74 1 v n (dk.toList.map u16v) := hOA
  refine op_store_own (vs := [(.int .u16 (dk[j3]!.toNat : Int))]) size74 (zC hNA rfl qA_147) (zC hNA rfl qA_142) rfl rfl rfl hOA hAA_147 (by have := hOA.1; simp at this ⊢; omega) ?_
  intro w_ hO_ E_
  exact obW_end rfl (hO_.cast rfl (set_arr (by first | omega | (simp only [Array.size_setIfInBounds, swp_sz, siftDown_size]; omega)))) E_
 ·
  intro o_ ho_; obtain rfl := zE ho_; intro aA wA hNA hRA hbsA hdpA hOA
  obtain ⟨bA_148, oA_148, qA_148, hAA_148⟩ := hdpA 14 _ 148 zy rfl rfl
  have qA_146 : Sl aA 146 (.int .u16 (dk[i3]!.toNat : Int)) := hdpA 11 _ 146 zy rfl rfl
  clear hbsA hdpA
  have hOA : Own wA base 74 1 v n ((dk.setIfInBounds i3 dk[j3]!).toList.map u16v) := hOA
  refine op_store_own (vs := [(.int .u16 (dk[i3]!.toNat : Int))]) size74 (zC hNA rfl qA_148) (zC hNA rfl qA_146) rfl rfl rfl hOA hAA_148 (by have := hOA.1; simp at this ⊢; omega) ?_
  intro w_ hO_ E_
  exact obW_end rfl (hO_.cast rfl (set_arr (by first | omega | (simp only [Array.size_setIfInBounds, swp_sz, siftDown_size]; omega)))) E_
 intro a77 w77 hN77 hd77 hbs77 hph77 hO77 E77
 have hd77 := hd77.trans hd58
 have s77_0 := (hbs77 0 rfl).trans (zL hN58 rfl s58_0)
 have s77_1 := (hbs77 1 rfl).trans (zL hN58 rfl s58_1)
 have s77_8 := (hbs77 8 rfl).trans (zL hN58 rfl s58_8)
 have s77_9 := (hbs77 9 rfl).trans (zL hN58 rfl s58_9)
 have s77_10 := (hbs77 10 rfl).trans (zL hN58 rfl s58_10)
 have s77_11 := (hbs77 11 rfl).trans (zL hN58 rfl s58_11)
 clear hbs77 hph77
 have hO77 : Own w77 base 74 1 v n (((dk.setIfInBounds i3 dk[j3]!).setIfInBounds j3 dk[i3]!).toList.map u16v) := hO77
 have := E77.size
 have hb := grow_stepX hb E77 rfl
 refine hK76 _ _ (zF fun K78 hK78 => ?_)
 refine zH ?_
 refine zG (zC hN77 rfl s77_10) ?_
 refine op_add (zA hN77 rfl) rfl (add64 zx) ?_
 refine zD (zA hN77 rfl) ?_
 refine zB ?_
 refine hK78 _ _ (zH ?_)
 refine zG (zC hN77 rfl s77_11) ?_
 refine op_sub (zA hN77 rfl) rfl (sub64 zx) ?_
 refine zD (zA hN77 rfl) ?_
 refine zB ?_
 refine blk_normal ?_
 -- round 65F 134F
 exact zg _ hN77 hd77 ⟨(i3 + 1), (j3 - 1), _, rfl, (zL hN77 rfl s77_0), (zL hN77 rfl s77_1), (zL hN77 rfl s77_8), (zL hN77 rfl s77_9), (zU hN77 rfl).trans (congrArg (Value.int .i64) zx), (zU hN77 rfl).trans (congrArg (Value.int .i64) zx), (by first | assumption | (simp only [Array.size_setIfInBounds, swp_sz, siftDown_size]; assumption)), zx, (hs.trans (pl_go hu4 hv4 zx)), hb, zx, hO77⟩ zx
open Go.Sort (insertionSort insOuter insInner swp siftDown heapSort heapBuild heapPop scanUp scanDown partition partLoop partitionEqual partEqLoop scanSorted partialIns bitsLen partialInsertionSort shiftDown shiftUp SortedIn reverseRange reverseLoop fixDown fixUp)
set_option maxHeartbeats 2000000 in
theorem partialW_ret (d : Ar) (v : Value) (n base : Nat) (a b : Nat) (w : World) (hd : d.size = n) (hn : n ≤ 4000000000000000000) (O : Own w base 74 1 v n (d.toList.map u16v)) (hab : a < b) (hbn : b ≤ n) : Ret Try.prog 131 #[v, (.int .i64 ((a : Nat) : Int)), (.int .i64 ((b : Nat) : Int))] w (fun v' w' => w.grownBy w' v.ownBlock ∧ v' = .bool (partialInsertionSort ltT d a b).2 ∧ Own w' base 74 1 v n ((partialInsertionSort ltT d a b).1.toList.map u16v)) := by
 have hb := grown_refl w v.ownBlock
 refine enter (N := 133) Try.func131 rfl rfl (by simp) fun a0 hN hd hA => ?_
 have s0 : a0.tmps.getD 0 undef = v := hA 0 (by simp)
 have s1 : a0.tmps.getD 1 undef = (.int .i64 ((a : Nat) : Int)) := hA 1 (by simp)
 have s2 : a0.tmps.getD 2 undef = (.int .i64 ((b : Nat) : Int)) := hA 2 (by simp)
 clear hA
 refine zF fun K1 hK1 => ?_
 refine zH ?_
 refine zD rfl ?_
 refine zB ?_
 refine hK1 _ _ (zF fun K2 hK2 => ?_)
 refine zH ?_
 refine zG (zC hN rfl s1) ?_
 refine op_add (zA hN rfl) rfl (add64 zx) ?_
 refine zD (zA hN rfl) ?_
 refine zB ?_
 refine hK2 _ _ (zF fun K3 hK3 => ?_)
 refine zF fun K4 hK4 => ?_
 refine zH ?_
 refine zD rfl ?_
 refine zB ?_
 refine hK4 _ _ (wp_block ?_)
 refine loop_m (fun mz_ az_ w' => ∃ (s ii : Nat) (dk : Ar), mz_ = (5 - s) ∧ (az_.tmps.getD 0 undef = v) ∧ (az_.tmps.getD 1 undef = (.int .i64 ((a : Nat) : Int))) ∧ (az_.tmps.getD 2 undef = (.int .i64 ((b : Nat) : Int))) ∧ (az_.tmps.getD 8 undef = (.int .i64 ((s : Nat) : Int))) ∧ (az_.tmps.getD 7 undef = (.int .i64 ((ii : Nat) : Int))) ∧ (dk.size = n) ∧ (s ≤ 5 ∧ a + 1 ≤ ii ∧ ii ≤ b) ∧ (partialIns ltT a b 5 (a + 1) d = partialIns ltT a b (5 - s) ii dk) ∧ (w.grownBy w' v.ownBlock) ∧ (w.heap.size ≤ w'.heap.size) ∧ (Own w' base 74 1 v n (dk.toList.map u16v))) _ hN hd ⟨0, (a + 1), _, rfl, (zL hN rfl s0), (zL hN rfl s1), (zL hN rfl s2), (zU hN rfl).trans (congrArg (Value.int .i64) zx), (zU hN rfl).trans (congrArg (Value.int .i64) zx), (by first | assumption | (simp only [Array.size_setIfInBounds, swp_sz, siftDown_size]; assumption)), zx, rfl, hb, (Nat.le_refl _), O⟩ ?_
 rintro _ a5 w5 hN5 hd5 ⟨s, ii, dk, rfl, s5_0, s5_1, s5_2, s5_8, s5_7, hdk, hr1, hs, hb, zl_w5, hO6⟩
 have := hb.size
 refine zF fun K7 hK7 => ?_
 refine zF fun K8 hK8 => ?_
 refine zH ?_
 refine zG (zC hN5 rfl s5_8) ?_
 refine op_lss (zA hN5 rfl) rfl (fun c14 => ?_) (fun c14 => ?_)
 ·
  refine zB ?_
  refine hK8 _ _ (wp_cond_true (zA hN5 rfl) (wp_skip (hK7 _ _ (zF fun K9 hK9 => ?_))))
  refine wp_block ?_
  refine seq_join1 (N := 133) (fun az_ w' => ∃ (i2 : Nat), (az_.tmps.getD 0 undef = v) ∧ (az_.tmps.getD 1 undef = (.int .i64 ((a : Nat) : Int))) ∧ (az_.tmps.getD 2 undef = (.int .i64 ((b : Nat) : Int))) ∧ (az_.tmps.getD 8 undef = (.int .i64 ((s : Nat) : Int))) ∧ (az_.tmps.getD 7 undef = (.int .i64 ((i2 : Nat) : Int))) ∧ (ii ≤ i2 ∧ i2 ≤ b) ∧ (scanSorted ltT dk b ii = i2) ∧ (w.grownBy w' v.ownBlock) ∧ (w5.heap.size ≤ w'.heap.size) ∧ (Own w' base 74 1 v n (dk.toList.map u16v))) (fun hJ10 => ?_) ?_
  ·
   refine zF fun K11 hK11 => ?_
   refine wp_block ?_
   refine loop_m (fun mz_ az_ w' => ∃ (i2 : Nat), mz_ = (b + 1 - i2) ∧ (az_.tmps.getD 0 undef = v) ∧ (az_.tmps.getD 1 undef = (.int .i64 ((a : Nat) : Int))) ∧ (az_.tmps.getD 2 undef = (.int .i64 ((b : Nat) : Int))) ∧ (az_.tmps.getD 8 undef = (.int .i64 ((s : Nat) : Int))) ∧ (az_.tmps.getD 7 undef = (.int .i64 ((i2 : Nat) : Int))) ∧ (ii ≤ i2 ∧ i2 ≤ b) ∧ (scanSorted ltT dk b ii = scanSorted ltT dk b i2) ∧ (w.grownBy w' v.ownBlock) ∧ (w5.heap.size ≤ w'.heap.size) ∧ (Own w' base 74 1 v n (dk.toList.map u16v))) _ hN5 hd5 ⟨ii, rfl, (zL hN5 rfl s5_0), (zL hN5 rfl s5_1), (zL hN5 rfl s5_2), (zL hN5 rfl s5_8), (zL hN5 rfl s5_7).trans (congrArg (Value.int .i64) zx), zx, rfl, hb, (Nat.le_refl _), hO6⟩ ?_
   rintro _ a12 w12 hN12 hd12 ⟨i2, rfl, s12_0, s12_1, s12_2, s12_8, s12_7, hr2, hq1, hb, zl_w12, hO6⟩
   have := hb.size
   refine zF fun K13 hK13 => ?_
   refine zF fun K14 hK14 => ?_
   refine reg_still mixed zy ?_
   intro w16 E15
   have := E15.size
   have hO6 := hO6.keep0 E15
   have hb := grow_step0 hb E15
   refine st_step rfl (fun _ h9 => zG (zC hN12 rfl s12_7) h9) ?_
   refine st_step rfl (fun _ h9 => zG (zC hN12 rfl s12_2) h9) ?_
   by_cases g19 : ((i2 : Nat) : Int) < ((b : Nat) : Int)
   ·
    refine st_step rfl (fun _ h9 => op_cmp (b := true) (zA hN12 rfl) (zA hN12 rfl) (b_lss (decide_eq_true g19)) h9) ?_
    refine st_step rfl (fun _ h9 => zG (zA hN12 rfl) h9) ?_
    refine st_g_true (j := 3) (dj := 20) (b := true) rfl rfl rfl (zA hN12 rfl) ?_
    refine st_step rfl (fun _ h9 => zG (zC hN12 rfl s12_0) h9) ?_
    refine st_g_true (j := 3) (dj := 20) (b := true) rfl rfl rfl (zA hN12 rfl) ?_
    refine st_step rfl (fun _ h9 => zG (zC hN12 rfl s12_7) h9) ?_
    refine st_g_true (j := 3) (dj := 20) (b := true) rfl rfl rfl (zA hN12 rfl) ?_
    refine st_index_rd slt42 (zA hN12 rfl) hO6.rdw (zA hN12 rfl) zx zx ?_
    intro b17 o18 h0b17 h1b17 hc19
    refine st_g_true (j := 3) (dj := 20) (b := true) rfl rfl rfl (zA hN12 rfl) ?_
    refine st_step rfl (fun _ h9 => zN (v := (Value.int .u16 (dk[i2]!.toNat : Int))) one74 (zA hN12 rfl) (by have := hc19 0 (.int .u16 (dk[i2]!.toNat : Int)) zz (el_arr (i := i2) zx (by first | omega | (simp only [Array.size_setIfInBounds, swp_sz, siftDown_size]; omega))); simpa using this) h9) ?_
    refine st_g_true (j := 3) (dj := 20) (b := true) rfl rfl rfl (zA hN12 rfl) ?_
    refine st_step rfl (fun _ h9 => zG (zC hN12 rfl s12_0) h9) ?_
    refine st_g_true (j := 3) (dj := 20) (b := true) rfl rfl rfl (zA hN12 rfl) ?_
    refine st_step rfl (fun _ h9 => zG (zC hN12 rfl s12_7) h9) ?_
    refine st_g_true (j := 3) (dj := 20) (b := true) rfl rfl rfl (zA hN12 rfl) ?_
    refine st_step rfl (fun _ h9 => op_sub (zA hN12 rfl) rfl (sub64 zx) h9) ?_
    refine st_g_true (j := 3) (dj := 20) (b := true) rfl rfl rfl (zA hN12 rfl) ?_
    refine st_index_rd slt42 (zA hN12 rfl) hO6.rdw (zA hN12 rfl) zx zx ?_
    intro b20 o21 h0b20 h1b20 hc22
    refine st_g_true (j := 3) (dj := 20) (b := true) rfl rfl rfl (zA hN12 rfl) ?_
    refine st_step rfl (fun _ h9 => zN (v := (Value.int .u16 (dk[(i2 - 1)]!.toNat : Int))) one74 (zA hN12 rfl) (by have := hc22 0 (.int .u16 (dk[(i2 - 1)]!.toNat : Int)) zz (el_arr (i := (i2 - 1)) zx (by first | omega | (simp only [Array.size_setIfInBounds, swp_sz, siftDown_size]; omega))); simpa using this) h9) ?_
    refine st_g_true (j := 3) (dj := 20) (b := true) rfl rfl rfl (zA hN12 rfl) ?_
    refine st_fn (vs := [(.int .u16 (dk[i2]!.toNat : Int)), (.int .u16 (dk[(i2 - 1)]!.toNat : Int))]) ok132 (⟨(zA hN12 rfl), ⟨(zA hN12 rfl), trivial⟩⟩) (Less16_ret dk[i2]! dk[(i2 - 1)]! _) ?_
    refine st_g_true (j := 3) (dj := 20) (b := true) rfl rfl rfl (zA hN12 rfl) ?_
    refine st_step rfl (fun _ h9 => op_not (zA hN12 rfl) h9) ?_
    refine st_step rfl (fun _ h9 => zc (zA hN12 rfl) (zA hN12 rfl) h9) ?_
    refine st_nil ?_
    refine hK14 _ _ (wp_cond_split (zA hN12 rfl) (fun c32 => ?_) (fun c32 => ?_))
    ·
     refine wp_skip (hK13 _ _ (wp_block ?_))
     refine zH ?_
     refine zG (zC hN12 rfl s12_7) ?_
     refine op_add (zA hN12 rfl) rfl (add64 zx) ?_
     refine zD (zA hN12 rfl) ?_
     refine zB ?_
     refine blk_normal ?_
     -- round 14T 19T 32T
     exact zg _ hN12 hd12 ⟨(i2 + 1), rfl, (zL hN12 rfl s12_0), (zL hN12 rfl s12_1), (zL hN12 rfl s12_2), (zL hN12 rfl s12_8), (zU hN12 rfl).trans (congrArg (Value.int .i64) zx), zx, (hq1.trans (scanSorted_go zx (not_t c32))), hb, zx, hO6⟩ zx
    refine wp_exit (then_exit (then_exit (blk_hit ?_)))
    refine hK11 _ _ ?_
    exact hJ10 _ _ _ hN12 hd12 ⟨i2, (zL hN12 rfl s12_0), (zL hN12 rfl s12_1), (zL hN12 rfl s12_2), (zL hN12 rfl s12_8), (zL hN12 rfl s12_7), zx, (hq1.trans (scanSorted_stop (.inr (not_f c32)))), hb, zx, hO6⟩
   refine st_step rfl (fun _ h9 => op_cmp (b := false) (zA hN12 rfl) (zA hN12 rfl) (b_lss (decide_eq_false g19)) h9) ?_
   refine st_step rfl (fun _ h9 => zG (zA hN12 rfl) h9) ?_
   refine st_g_false (j := 3) (dj := 20) (b := true) rfl rfl rfl (zA hN12 rfl) rfl rfl ?_
   refine st_g_false (j := 3) (dj := 20) (b := true) rfl rfl rfl (zA hN12 rfl) rfl rfl ?_
   refine st_g_false (j := 3) (dj := 20) (b := true) rfl rfl rfl (zA hN12 rfl) rfl rfl ?_
   refine st_g_false (j := 3) (dj := 20) (b := true) rfl rfl rfl (zA hN12 rfl) rfl rfl ?_
   refine st_g_false (j := 3) (dj := 20) (b := true) rfl rfl rfl (zA hN12 rfl) rfl rfl ?_
   refine st_g_false (j := 3) (dj := 20) (b := true) rfl rfl rfl (zA hN12 rfl) rfl rfl ?_
   refine st_g_false (j := 3) (dj := 20) (b := true) rfl rfl rfl (zA hN12 rfl) rfl rfl ?_
   refine st_g_false (j := 3) (dj := 20) (b := true) rfl rfl rfl (zA hN12 rfl) rfl rfl ?_
   refine st_g_false (j := 3) (dj := 20) (b := true) rfl rfl rfl (zA hN12 rfl) rfl rfl ?_
   refine st_g_false (j := 3) (dj := 20) (b := true) rfl rfl rfl (zA hN12 rfl) rfl rfl ?_
   refine st_g_false (j := 3) (dj := 20) (b := true) rfl rfl rfl (zA hN12 rfl) rfl rfl ?_
   refine st_step rfl (fun _ h9 => zd (zA hN12 rfl) rfl h9) ?_
   refine st_nil ?_
   refine hK14 _ _ (wp_cond_false (zA hN12 rfl) (wp_exit (then_exit (then_exit (blk_hit ?_)))))
   refine hK11 _ _ ?_
   exact hJ10 _ _ _ hN12 hd12 ⟨i2, (zL hN12 rfl s12_0), (zL hN12 rfl s12_1), (zL hN12 rfl s12_2), (zL hN12 rfl s12_8), (zL hN12 rfl s12_7), zx, (hq1.trans (scanSorted_stop (.inl zx))), hb, zx, hO6⟩
  rintro a10 w10 hN10 hd10 ⟨i2, s10_0, s10_1, s10_2, s10_8, s10_7, hr2, hq2, hb, zl_w10, hO6⟩
  have := hb.size
  refine zF fun K23 hK23 => ?_
  refine zF fun K24 hK24 => ?_
  refine zH ?_
  refine zG (zC hN10 rfl s10_7) ?_
  refine zG (zC hN10 rfl s10_2) ?_
  refine op_eql (zA hN10 rfl) (zA hN10 rfl) (fun c37 => ?_) (fun c37 => ?_)
  ·
   refine zB ?_
   refine hK24 _ _ (wp_cond_true (zA hN10 rfl) (zF fun K25 hK25 => ?_))
   refine zH ?_
   refine zD rfl ?_
   refine zB ?_
   refine hK25 _ _ (wp_ret (zO (zb (zO (zO (zb (zO ( ?_))))))))
   refine ret1 rfl hd10 (zA hN10 rfl) ⟨_, rfl, ?_⟩
   have hq : partialInsertionSort ltT d a b = (dk, true) := hs.trans (pi_true zx hq2 zx)
   exact ⟨hb, by rw [hq]; rfl, hO6.cast rfl (by rw [hq])⟩
  refine zB ?_
  refine hK24 _ _ (wp_cond_false (zA hN10 rfl) (wp_skip (hK23 _ _ (zF fun K26 hK26 => ?_))))
  refine zF fun K27 hK27 => ?_
  refine zH ?_
  refine zG (zC hN10 rfl s10_2) ?_
  refine zG (zC hN10 rfl s10_1) ?_
  refine op_sub (zA hN10 rfl) (zA hN10 rfl) (sub64 zx) ?_
  refine op_lss (zA hN10 rfl) rfl (fun c41 => ?_) (fun c41 => ?_)
  ·
   refine zB ?_
   refine hK27 _ _ (wp_cond_true (zA hN10 rfl) (zF fun K28 hK28 => ?_))
   refine zH ?_
   refine zD rfl ?_
   refine zB ?_
   refine hK28 _ _ (wp_ret (zO (zb (zO (zO (zb (zO ( ?_))))))))
   refine ret1 rfl hd10 (zA hN10 rfl) ⟨_, rfl, ?_⟩
   have hq : partialInsertionSort ltT d a b = (dk, false) := hs.trans (pi_short zx hq2 zx zx)
   exact ⟨hb, by rw [hq]; rfl, hO6.cast rfl (by rw [hq])⟩
  refine zB ?_
  refine hK27 _ _ (wp_cond_false (zA hN10 rfl) (wp_skip (hK26 _ _ (zF fun K29 hK29 => ?_))))
  refine reg_mid (e := 74) (sz := 1) (base := base) (n := n) (v := v) (Φ := phiL [(fun uz _ => uz = v), (fun uz _ => uz = (.int .i64 ((i2 : Nat) : Int))), (fun uz _ => uz = v), (fun uz _ => uz = (.int .i64 ((i2 : Nat) : Int))), (fun uz _ => uz = (.int .i64 (((i2 : Nat) : Int) - 1))), (fun uz _ => uz = v), (fun uz _ => uz = (.int .i64 ((i2 : Nat) : Int))), (fun uz _ => uz = (.int .i64 (((i2 : Nat) : Int) - 1))), (fun uz _ => ∃ bz oz, uz = ptr bz oz ∧ AtV v (i2 - 1) bz oz), (fun uz _ => uz = (.int .u16 (dk[(i2 - 1)]!.toNat : Int))), (fun uz _ => uz = v), (fun uz _ => uz = (.int .i64 ((i2 : Nat) : Int))), (fun uz _ => ∃ bz oz, uz = ptr bz oz ∧ AtV v i2 bz oz), (fun uz _ => uz = (.int .u16 (dk[i2]!.toNat : Int))), (fun uz _ => ∃ bz oz, uz = ptr bz oz ∧ AtV v i2 bz oz), (fun _ _ => True), (fun uz _ => ∃ bz oz, uz = ptr bz oz ∧ AtV v (i2 - 1) bz oz), (fun _ _ => True)]) [15, 17] [(dk.toList.map u16v), ((dk.setIfInBounds i2 dk[(i2 - 1)]!).toList.map u16v), (((dk.setIfInBounds i2 dk[(i2 - 1)]!).setIfInBounds (i2 - 1) dk[i2]!).toList.map u16v)] mixed zy zy zy zy hN10 hO6 (StL.get (StL.eq (StL.eq (StL.eq (StL.eq (StL.eq (StL.eq (StL.eq (StL.eq (StL.at (StL.eq (StL.eq (StL.eq (StL.at (StL.eq (StL.at (StL.cons (fun _ _ _ _ h => h) (StL.at (StL.cons (fun _ _ _ _ h => h) (StL.nil _)))))))))))))))))))) (ObRs.get (ObRs.cons ?_ (ObRs.cons ?_ (ObRs.cons ?_ (ObRs.cons ?_ (ObRs.cons ?_ (ObRs.cons ?_ (ObRs.cons ?_ (ObRs.cons ?_ (ObRs.cons ?_ (ObRs.cons ?_ (ObRs.cons ?_ (ObRs.cons ?_ (ObRs.cons ?_ (ObRs.cons ?_ (ObRs.cons ?_ (ObRs.pass rfl (ObRs.cons ?_ (ObRs.pass rfl (ObRs.nil)))))))))))))))))))) (ObWs.get (ObWs.cons ?_ (ObWs.cons ?_ (ObWs.nil)))) ?_
  ·
   intro aA wA cA hNA hRA hckA hOA hbsA hdpA
   have qA_0 := (hbsA 0 rfl).trans (zL hN10 rfl s10_0)
   clear hbsA hdpA
   refine zG (zC hNA rfl qA_0) ?_
   exact obR_end rfl rfl (grown_refl _ _)
  ·
   intro aA wA cA hNA hRA hckA hOA hbsA hdpA
   have qA_7 := (hbsA 7 rfl).trans (zL hN10 rfl s10_7)
   clear hbsA hdpA
   refine zG (zC hNA rfl qA_7) ?_
   exact obR_end rfl rfl (grown_refl _ _)
  ·
   intro aA wA cA hNA hRA hckA hOA hbsA hdpA
   have qA_0 := (hbsA 0 rfl).trans (zL hN10 rfl s10_0)
   clear hbsA hdpA
   refine zG (zC hNA rfl qA_0) ?_
   exact obR_end rfl rfl (grown_refl _ _)
  ·
   intro aA wA cA hNA hRA hckA hOA hbsA hdpA
   have qA_7 := (hbsA 7 rfl).trans (zL hN10 rfl s10_7)
   clear hbsA hdpA
   refine zG (zC hNA rfl qA_7) ?_
   exact obR_end rfl rfl (grown_refl _ _)
  ·
   intro aA wA cA hNA hRA hckA hOA hbsA hdpA
   have qA_45 : Sl aA 45 (.int .i64 ((i2 : Nat) : Int)) := hdpA 3 _ 45 zy rfl rfl
   clear hbsA hdpA
   refine op_sub (zC hNA rfl qA_45) rfl (sub64 zx) ?_
   exact obR_end rfl rfl (grown_refl _ _)
  ·
   intro aA wA cA hNA hRA hckA hOA hbsA hdpA
   have qA_0 := (hbsA 0 rfl).trans (zL hN10 rfl s10_0)
   clear hbsA hdpA
   refine zG (zC hNA rfl qA_0) ?_
   exact obR_end rfl rfl (grown_refl _ _)
  ·
   intro aA wA cA hNA hRA hckA hOA hbsA hdpA
   have qA_7 := (hbsA 7 rfl).trans (zL hN10 rfl s10_7)
   clear hbsA hdpA
   refine zG (zC hNA rfl qA_7) ?_
   exact obR_end rfl rfl (grown_refl _ _)
  ·
   intro aA wA cA hNA hRA hckA hOA hbsA hdpA
   have qA_48 : Sl aA 48 (.int .i64 ((i2 : Nat) : Int)) := hdpA 6 _ 48 zy rfl rfl
   clear hbsA hdpA
   refine op_sub (zC hNA rfl qA_48) rfl (sub64 zx) ?_
   exact obR_end rfl rfl (grown_refl _ _)
  ·
   intro aA wA cA hNA hRA hckA hOA hbsA hdpA
   have qA_47 : Sl aA 47 v := hdpA 5 _ 47 zy rfl rfl
   have qA_49 : Sl aA 49 (.int .i64 (((i2 : Nat) : Int) - 1)) := hdpA 7 _ 49 zy rfl rfl
   clear hbsA hdpA
   refine op_index_own (i := (i2 - 1)) slt42 (zC hNA rfl qA_47) hOA (zC hNA rfl qA_49) zx zx ?_
   intro b_ o_ _ hA_
   exact obR_end rfl ⟨b_, o_, rfl, by simpa using hA_⟩ (grown_refl _ _)
  ·
   intro aA wA cA hNA hRA hckA hOA hbsA hdpA
   obtain ⟨bA_50, oA_50, qA_50, hAA_50⟩ := hdpA 8 _ 50 zy rfl rfl
   clear hbsA hdpA
   obtain rfl : cA = 0 := Nat.le_zero.1 (hckA 0 15 rfl zy)
   have hOA : Own wA base 74 1 v n (dk.toList.map u16v) := hOA
   refine zN (v := (Value.int .u16 (dk[(i2 - 1)]!.toNat : Int))) one74 (zC hNA rfl qA_50) (by have := hOA.cellAt hAA_50 0 _ (el_at (i := (i2 - 1)) (by first | omega | (simp only [Array.size_setIfInBounds, swp_sz, siftDown_size]; omega))); simpa using this) ?_
   exact obR_end rfl rfl (grown_refl _ _)
  ·
   intro aA wA cA hNA hRA hckA hOA hbsA hdpA
   have qA_0 := (hbsA 0 rfl).trans (zL hN10 rfl s10_0)
   clear hbsA hdpA
   refine zG (zC hNA rfl qA_0) ?_
   exact obR_end rfl rfl (grown_refl _ _)
  ·
   intro aA wA cA hNA hRA hckA hOA hbsA hdpA
   have qA_7 := (hbsA 7 rfl).trans (zL hN10 rfl s10_7)
   clear hbsA hdpA
   refine zG (zC hNA rfl qA_7) ?_
   exact obR_end rfl rfl (grown_refl _ _)
  ·
   intro aA wA cA hNA hRA hckA hOA hbsA hdpA
   have qA_52 : Sl aA 52 v := hdpA 10 _ 52 zy rfl rfl
   have qA_53 : Sl aA 53 (.int .i64 ((i2 : Nat) : Int)) := hdpA 11 _ 53 zy rfl rfl
   clear hbsA hdpA
   refine op_index_own (i := i2) slt42 (zC hNA rfl qA_52) hOA (zC hNA rfl qA_53) zx zx ?_
   intro b_ o_ _ hA_
   exact obR_end rfl ⟨b_, o_, rfl, by simpa using hA_⟩ (grown_refl _ _)
  ·
   intro aA wA cA hNA hRA hckA hOA hbsA hdpA
   obtain ⟨bA_54, oA_54, qA_54, hAA_54⟩ := hdpA 12 _ 54 zy rfl rfl
   clear hbsA hdpA
   obtain rfl : cA = 0 := Nat.le_zero.1 (hckA 0 15 rfl zy)
   have hOA : Own wA base 74 1 v n (dk.toList.map u16v) := hOA
   refine zN (v := (Value.int .u16 (dk[i2]!.toNat : Int))) one74 (zC hNA rfl qA_54) (by have := hOA.cellAt hAA_54 0 _ (el_at (i := i2) (by first | omega | (simp only [Array.size_setIfInBounds, swp_sz, siftDown_size]; omega))); simpa using this) ?_
   exact obR_end rfl rfl (grown_refl _ _)
  ·
   intro aA wA cA hNA hRA hckA hOA hbsA hdpA
   have qA_42 : Sl aA 42 v := hdpA 0 _ 42 zy rfl rfl
   have qA_43 : Sl aA 43 (.int .i64 ((i2 : Nat) : Int)) := hdpA 1 _ 43 zy rfl rfl
   clear hbsA hdpA
   refine op_index_own (i := i2) slt42 (zC hNA rfl qA_42) hOA (zC hNA rfl qA_43) zx zx ?_
   intro b_ o_ _ hA_
   exact obR_end rfl ⟨b_, o_, rfl, by simpa using hA_⟩ (grown_refl _ _)
  ·
   intro aA wA cA hNA hRA hckA hOA hbsA hdpA
   have qA_44 : Sl aA 44 v := hdpA 2 _ 44 zy rfl rfl
   have qA_46 : Sl aA 46 (.int .i64 (((i2 : Nat) : Int) - 1)) := hdpA 4 _ 46 zy rfl rfl
   clear hbsA hdpA
   refine op_index_own (i := (i2 - 1)) slt42 (zC hNA rfl qA_44) hOA (zC hNA rfl qA_46) zx zx ?_
   intro b_ o_ _ hA_
   exact obR_end rfl ⟨b_, o_, rfl, by simpa using hA_⟩ (grown_refl _ _)
  ·
   intro o_ ho_; obtain rfl := zE ho_; intro aA wA hNA hRA hbsA hdpA hOA
   obtain ⟨bA_56, oA_56, qA_56, hAA_56⟩ := hdpA 14 _ 56 zy rfl rfl
   have qA_51 : Sl aA 51 (.int .u16 (dk[(i2 - 1)]!.toNat : Int)) := hdpA 9 _ 51 zy rfl rfl
   clear hbsA hdpA
   have hOA : Own wA base 74 1 v n (dk.toList.map u16v) := hOA
   refine op_store_own (vs := [(.int .u16 (dk[(i2 - 1)]!.toNat : Int))]) size74 (zC hNA rfl qA_56) (zC hNA rfl qA_51) rfl rfl rfl hOA hAA_56 (by have := hOA.1; simp at this ⊢; omega) ?_
   intro w_ hO_ E_
   exact obW_end rfl (hO_.cast rfl (set_arr (by first | omega | (simp only [Array.size_setIfInBounds, swp_sz, siftDown_size]; omega)))) E_
  ·
   intro o_ ho_; obtain rfl := zE ho_; intro aA wA hNA hRA hbsA hdpA hOA
   obtain ⟨bA_57, oA_57, qA_57, hAA_57⟩ := hdpA 16 _ 57 zy rfl rfl
   have qA_55 : Sl aA 55 (.int .u16 (dk[i2]!.toNat : Int)) := hdpA 13 _ 55 zy rfl rfl
   clear hbsA hdpA
   have hOA : Own wA base 74 1 v n ((dk.setIfInBounds i2 dk[(i2 - 1)]!).toList.map u16v) := hOA
   refine op_store_own (vs := [(.int .u16 (dk[i2]!.toNat : Int))]) size74 (zC hNA rfl qA_57) (zC hNA rfl qA_55) rfl rfl rfl hOA hAA_57 (by have := hOA.1; simp at this ⊢; omega) ?_
   intro w_ hO_ E_
   exact obW_end rfl (hO_.cast rfl (set_arr (by first | omega | (simp only [Array.size_setIfInBounds, swp_sz, siftDown_size]; omega)))) E_
  intro a30 w30 hN30 hd30 hbs30 hph30 hO30 E30
  have hd30 := hd30.trans hd10
  have s30_0 := (hbs30 0 rfl).trans (zL hN10 rfl s10_0)
  have s30_1 := (hbs30 1 rfl).trans (zL hN10 rfl s10_1)
  have s30_2 := (hbs30 2 rfl).trans (zL hN10 rfl s10_2)
  have s30_7 := (hbs30 7 rfl).trans (zL hN10 rfl s10_7)
  have s30_8 := (hbs30 8 rfl).trans (zL hN10 rfl s10_8)
  clear hbs30 hph30
  have hO30 : Own w30 base 74 1 v n (((dk.setIfInBounds i2 dk[(i2 - 1)]!).setIfInBounds (i2 - 1) dk[i2]!).toList.map u16v) := hO30
  have := E30.size
  have hb := grow_stepX hb E30 rfl
  refine hK29 _ _ (seq_join1 (N := 133) (fun az_ w' => ∃ (d3 : Ar), (az_.tmps.getD 0 undef = v) ∧ (az_.tmps.getD 1 undef = (.int .i64 ((a : Nat) : Int))) ∧ (az_.tmps.getD 2 undef = (.int .i64 ((b : Nat) : Int))) ∧ (az_.tmps.getD 7 undef = (.int .i64 ((i2 : Nat) : Int))) ∧ (az_.tmps.getD 8 undef = (.int .i64 ((s : Nat) : Int))) ∧ (d3 = fixDown ltT a i2 (swp dk i2 (i2 - 1))) ∧ (d3.size = n) ∧ (w.grownBy w' v.ownBlock) ∧ (w30.heap.size ≤ w'.heap.size) ∧ (Own w' base 74 1 v n (d3.toList.map u16v))) (fun hJ31 => ?_) ?_)
  ·
   refine zF fun K33 hK33 => ?_
   refine zF fun K34 hK34 => ?_
   refine zH ?_
   refine zG (zC hN30 rfl s30_7) ?_
   refine zG (zC hN30 rfl s30_1) ?_
   refine op_sub (zA hN30 rfl) (zA hN30 rfl) (sub64 zx) ?_
   refine op_geq (zA hN30 rfl) rfl (fun c61 => ?_) (fun c61 => ?_)
   ·
    refine zB ?_
    refine hK34 _ _ (wp_cond_true (zA hN30 rfl) (zF fun K35 hK35 => ?_))
    refine zH ?_
    refine zG (zC hN30 rfl s30_7) ?_
    refine op_sub (r := ((i2 - 1 : Nat) : Int)) (zA hN30 rfl) rfl (by rw [IntKind.wrap_i64]; omega) ?_
    refine zD (zA hN30 rfl) ?_
    refine zB ?_
    refine hK35 _ _ (wp_block ?_)
    refine loop_m (fun mz_ az_ w' => ∃ (j3 : Nat) (d2 : Ar), mz_ = (j3 + 1) ∧ (az_.tmps.getD 0 undef = v) ∧ (az_.tmps.getD 1 undef = (.int .i64 ((a : Nat) : Int))) ∧ (az_.tmps.getD 2 undef = (.int .i64 ((b : Nat) : Int))) ∧ (az_.tmps.getD 7 undef = (.int .i64 ((i2 : Nat) : Int))) ∧ (az_.tmps.getD 8 undef = (.int .i64 ((s : Nat) : Int))) ∧ (az_.tmps.getD 9 undef = (.int .i64 ((j3 : Nat) : Int))) ∧ (d2.size = n) ∧ (j3 ≤ i2 - 1) ∧ (shiftDown ltT (i2 - 1) (swp dk i2 (i2 - 1)) = shiftDown ltT j3 d2) ∧ (w.grownBy w' v.ownBlock) ∧ (w30.heap.size ≤ w'.heap.size) ∧ (Own w' base 74 1 v n (d2.toList.map u16v))) _ hN30 hd30 ⟨(i2 - 1), _, rfl, (zL hN30 rfl s30_0), (zL hN30 rfl s30_1), (zL hN30 rfl s30_2), (zL hN30 rfl s30_7), (zL hN30 rfl s30_8), (zU hN30 rfl).trans (congrArg (Value.int .i64) zx), (by first | assumption | (simp only [Array.size_setIfInBounds, swp_sz, siftDown_size]; assumption)), zx, rfl, hb, (Nat.le_refl _), hO30⟩ ?_
    rintro _ a36 w36 hN36 hd36 ⟨j3, d2, rfl, s36_0, s36_1, s36_2, s36_7, s36_8, s36_9, hd2, hr3, hdn, hb, zl_w36, hO37⟩
    have := hb.size
    refine zF fun K38 hK38 => ?_
    refine zF fun K39 hK39 => ?_
    refine zH ?_
    refine zG (zC hN36 rfl s36_9) ?_
    refine op_geq (zA hN36 rfl) rfl (fun c65 => ?_) (fun c65 => ?_)
    ·
     refine zB ?_
     refine hK39 _ _ (wp_cond_true (zA hN36 rfl) (wp_skip (hK38 _ _ (zF fun K40 hK40 => ?_))))
     refine wp_block ?_
     refine zF fun K41 hK41 => ?_
     refine zF fun K42 hK42 => ?_
     refine reg_still mixed zy ?_
     intro w44 E43
     have := E43.size
     have hO37 := hO37.keep0 E43
     have hb := grow_step0 hb E43
     refine st_step rfl (fun _ h9 => zG (zC hN36 rfl s36_0) h9) ?_
     refine st_step rfl (fun _ h9 => zG (zC hN36 rfl s36_9) h9) ?_
     refine st_index_rd slt42 (zA hN36 rfl) hO37.rdw (zA hN36 rfl) zx zx ?_
     intro b45 o46 h0b45 h1b45 hc47
     refine st_step rfl (fun _ h9 => zN (v := (Value.int .u16 (d2[j3]!.toNat : Int))) one74 (zA hN36 rfl) (by have := hc47 0 (.int .u16 (d2[j3]!.toNat : Int)) zz (el_arr (i := j3) zx (by first | omega | (simp only [Array.size_setIfInBounds, swp_sz, siftDown_size]; omega))); simpa using this) h9) ?_
     refine st_step rfl (fun _ h9 => zG (zC hN36 rfl s36_0) h9) ?_
     refine st_step rfl (fun _ h9 => zG (zC hN36 rfl s36_9) h9) ?_
     refine st_step rfl (fun _ h9 => op_sub (zA hN36 rfl) rfl (sub64 zx) h9) ?_
     refine st_index_rd slt42 (zA hN36 rfl) hO37.rdw (zA hN36 rfl) zx zx ?_
     intro b48 o49 h0b48 h1b48 hc50
     refine st_step rfl (fun _ h9 => zN (v := (Value.int .u16 (d2[(j3 - 1)]!.toNat : Int))) one74 (zA hN36 rfl) (by have := hc50 0 (.int .u16 (d2[(j3 - 1)]!.toNat : Int)) zz (el_arr (i := (j3 - 1)) zx (by first | omega | (simp only [Array.size_setIfInBounds, swp_sz, siftDown_size]; omega))); simpa using this) h9) ?_
     refine st_fn (vs := [(.int .u16 (d2[j3]!.toNat : Int)), (.int .u16 (d2[(j3 - 1)]!.toNat : Int))]) ok132 (⟨(zA hN36 rfl), ⟨(zA hN36 rfl), trivial⟩⟩) (Less16_ret d2[j3]! d2[(j3 - 1)]! _) ?_
     refine st_step rfl (fun _ h9 => op_not (zA hN36 rfl) h9) ?_
     refine st_nil ?_
     refine hK42 _ _ (wp_cond_split (zA hN36 rfl) (fun c78 => ?_) (fun c78 => ?_))
     ·
      refine wp_exit (then_exit (blk_miss zz (then_exit (then_exit (blk_hit ?_)))))
      refine hK33 _ _ ?_
      exact hJ31 _ _ _ hN36 hd36 ⟨_, (zL hN36 rfl s36_0), (zL hN36 rfl s36_1), (zL hN36 rfl s36_2), (zL hN36 rfl s36_7), (zL hN36 rfl s36_8), ((fixDown_t zx).trans (hdn.trans (shiftDown_stop (.inr (not_t c78))))).symm, (by first | assumption | (simp only [Array.size_setIfInBounds, swp_sz, siftDown_size]; assumption)), hb, zx, hO37⟩
     refine wp_skip (hK41 _ _ ?_)
     refine reg_mid (e := 74) (sz := 1) (base := base) (n := n) (v := v) (Φ := phiL [(fun uz _ => uz = v), (fun uz _ => uz = (.int .i64 ((j3 : Nat) : Int))), (fun uz _ => uz = v), (fun uz _ => uz = (.int .i64 ((j3 : Nat) : Int))), (fun uz _ => uz = (.int .i64 (((j3 : Nat) : Int) - 1))), (fun uz _ => uz = v), (fun uz _ => uz = (.int .i64 ((j3 : Nat) : Int))), (fun uz _ => uz = (.int .i64 (((j3 : Nat) : Int) - 1))), (fun uz _ => ∃ bz oz, uz = ptr bz oz ∧ AtV v (j3 - 1) bz oz), (fun uz _ => uz = (.int .u16 (d2[(j3 - 1)]!.toNat : Int))), (fun uz _ => uz = v), (fun uz _ => uz = (.int .i64 ((j3 : Nat) : Int))), (fun uz _ => ∃ bz oz, uz = ptr bz oz ∧ AtV v j3 bz oz), (fun uz _ => uz = (.int .u16 (d2[j3]!.toNat : Int))), (fun uz _ => ∃ bz oz, uz = ptr bz oz ∧ AtV v j3 bz oz), (fun _ _ => True), (fun uz _ => ∃ bz oz, uz = ptr bz oz ∧ AtV v (j3 - 1) bz oz), (fun _ _ => True)]) [15, 17] [(d2.toList.map u16v), ((d2.setIfInBounds j3 d2[(j3 - 1)]!).toList.map u16v), (((d2.setIfInBounds j3 d2[(j3 - 1)]!).setIfInBounds (j3 - 1) d2[j3]!).toList.map u16v)] mixed zy zy zy zy hN36 hO37 (StL.get (StL.eq (StL.eq (StL.eq (StL.eq (StL.eq (StL.eq (StL.eq (StL.eq (StL.at (StL.eq (StL.eq (StL.eq (StL.at (StL.eq (StL.at (StL.cons (fun _ _ _ _ h => h) (StL.at (StL.cons (fun _ _ _ _ h => h) (StL.nil _)))))))))))))))))))) (ObRs.get (ObRs.cons ?_ (ObRs.cons ?_ (ObRs.cons ?_ (ObRs.cons ?_ (ObRs.cons ?_ (ObRs.cons ?_ (ObRs.cons ?_ (ObRs.cons ?_ (ObRs.cons ?_ (ObRs.cons ?_ (ObRs.cons ?_ (ObRs.cons ?_ (ObRs.cons ?_ (ObRs.cons ?_ (ObRs.cons ?_ (ObRs.pass rfl (ObRs.cons ?_ (ObRs.pass rfl (ObRs.nil)))))))))))))))))))) (ObWs.get (ObWs.cons ?_ (ObWs.cons ?_ (ObWs.nil)))) ?_
     ·
      intro aA wA cA hNA hRA hckA hOA hbsA hdpA
      have qA_0 := (hbsA 0 rfl).trans (zL hN36 rfl s36_0)
      clear hbsA hdpA
      refine zG (zC hNA rfl qA_0) ?_
      exact obR_end rfl rfl (grown_refl _ _)
     ·
      intro aA wA cA hNA hRA hckA hOA hbsA hdpA
      have qA_9 := (hbsA 9 rfl).trans (zL hN36 rfl s36_9)
      clear hbsA hdpA
      refine zG (zC hNA rfl qA_9) ?_
      exact obR_end rfl rfl (grown_refl _ _)
     ·
      intro aA wA cA hNA hRA hckA hOA hbsA hdpA
      have qA_0 := (hbsA 0 rfl).trans (zL hN36 rfl s36_0)
      clear hbsA hdpA
      refine zG (zC hNA rfl qA_0) ?_
      exact obR_end rfl rfl (grown_refl _ _)
     ·
      intro aA wA cA hNA hRA hckA hOA hbsA hdpA
      have qA_9 := (hbsA 9 rfl).trans (zL hN36 rfl s36_9)
      clear hbsA hdpA
      refine zG (zC hNA rfl qA_9) ?_
      exact obR_end rfl rfl (grown_refl _ _)
     ·
      intro aA wA cA hNA hRA hckA hOA hbsA hdpA
      have qA_82 : Sl aA 82 (.int .i64 ((j3 : Nat) : Int)) := hdpA 3 _ 82 zy rfl rfl
      clear hbsA hdpA
      refine op_sub (zC hNA rfl qA_82) rfl (sub64 zx) ?_
      exact obR_end rfl rfl (grown_refl _ _)
     ·
      intro aA wA cA hNA hRA hckA hOA hbsA hdpA
      have qA_0 := (hbsA 0 rfl).trans (zL hN36 rfl s36_0)
      clear hbsA hdpA
      refine zG (zC hNA rfl qA_0) ?_
      exact obR_end rfl rfl (grown_refl _ _)
     ·
      intro aA wA cA hNA hRA hckA hOA hbsA hdpA
      have qA_9 := (hbsA 9 rfl).trans (zL hN36 rfl s36_9)
      clear hbsA hdpA
      refine zG (zC hNA rfl qA_9) ?_
      exact obR_end rfl rfl (grown_refl _ _)
     ·
      intro aA wA cA hNA hRA hckA hOA hbsA hdpA
      have qA_85 : Sl aA 85 (.int .i64 ((j3 : Nat) : Int)) := hdpA 6 _ 85 zy rfl rfl
      clear hbsA hdpA
      refine op_sub (zC hNA rfl qA_85) rfl (sub64 zx) ?_
      exact obR_end rfl rfl (grown_refl _ _)
     ·
      intro aA wA cA hNA hRA hckA hOA hbsA hdpA
      have qA_84 : Sl aA 84 v := hdpA 5 _ 84 zy rfl rfl
      have qA_86 : Sl aA 86 (.int .i64 (((j3 : Nat) : Int) - 1)) := hdpA 7 _ 86 zy rfl rfl
      clear hbsA hdpA
      refine op_index_own (i := (j3 - 1)) slt42 (zC hNA rfl qA_84) hOA (zC hNA rfl qA_86) zx zx ?_
      intro b_ o_ _ hA_
      exact obR_end rfl ⟨b_, o_, rfl, by simpa using hA_⟩ (grown_refl _ _)
     ·
      intro aA wA cA hNA hRA hckA hOA hbsA hdpA
      obtain ⟨bA_87, oA_87, qA_87, hAA_87⟩ := hdpA 8 _ 87 zy rfl rfl
      clear hbsA hdpA
      obtain rfl : cA = 0 := Nat.le_zero.1 (hckA 0 15 rfl zy)
      have hOA : Own wA base 74 1 v n (d2.toList.map u16v) := hOA
      refine zN (v := (Value.int .u16 (d2[(j3 - 1)]!.toNat : Int))) one74 (zC hNA rfl qA_87) (by have := hOA.cellAt hAA_87 0 _ (el_at (i := (j3 - 1)) (by first | omega | (simp only [Array.size_setIfInBounds, swp_sz, siftDown_size]; omega))); simpa using this) ?_
      exact obR_end rfl rfl (grown_refl _ _)
     ·
      intro aA wA cA hNA hRA hckA hOA hbsA hdpA
      have qA_0 := (hbsA 0 rfl).trans (zL hN36 rfl s36_0)
      clear hbsA hdpA
      refine zG (zC hNA rfl qA_0) ?_
      exact obR_end rfl rfl (grown_refl _ _)
     ·
      intro aA wA cA hNA hRA hckA hOA hbsA hdpA
      have qA_9 := (hbsA 9 rfl).trans (zL hN36 rfl s36_9)
      clear hbsA hdpA
      refine zG (zC hNA rfl qA_9) ?_
      exact obR_end rfl rfl (grown_refl _ _)
     ·
      intro aA wA cA hNA hRA hckA hOA hbsA hdpA
      have qA_89 : Sl aA 89 v := hdpA 10 _ 89 zy rfl rfl
      have qA_90 : Sl aA 90 (.int .i64 ((j3 : Nat) : Int)) := hdpA 11 _ 90 zy rfl rfl
      clear hbsA hdpA
      refine op_index_own (i := j3) slt42 (zC hNA rfl qA_89) hOA (zC hNA rfl qA_90) zx zx ?_
      intro b_ o_ _ hA_
      exact obR_end rfl ⟨b_, o_, rfl, by simpa using hA_⟩ (grown_refl _ _)
     ·
      intro aA wA cA hNA hRA hckA hOA hbsA hdpA
      obtain ⟨bA_91, oA_91, qA_91, hAA_91⟩ := hdpA 12 _ 91 zy rfl rfl
      clear hbsA hdpA
      obtain rfl : cA = 0 := Nat.le_zero.1 (hckA 0 15 rfl zy)
      have hOA : Own wA base 74 1 v n (d2.toList.map u16v) := hOA
      refine zN (v := (Value.int .u16 (d2[j3]!.toNat : Int))) one74 (zC hNA rfl qA_91) (by have := hOA.cellAt hAA_91 0 _ (el_at (i := j3) (by first | omega | (simp only [Array.size_setIfInBounds, swp_sz, siftDown_size]; omega))); simpa using this) ?_
      exact obR_end rfl rfl (grown_refl _ _)
     ·
      intro aA wA cA hNA hRA hckA hOA hbsA hdpA
      have qA_79 : Sl aA 79 v := hdpA 0 _ 79 zy rfl rfl
      have qA_80 : Sl aA 80 (.int .i64 ((j3 : Nat) : Int)) := hdpA 1 _ 80 zy rfl rfl
      clear hbsA hdpA
      refine op_index_own (i := j3) slt42 (zC hNA rfl qA_79) hOA (zC hNA rfl qA_80) zx zx ?_
      intro b_ o_ _ hA_
      exact obR_end rfl ⟨b_, o_, rfl, by simpa using hA_⟩ (grown_refl _ _)
     ·
      intro aA wA cA hNA hRA hckA hOA hbsA hdpA
      have qA_81 : Sl aA 81 v := hdpA 2 _ 81 zy rfl rfl
      have qA_83 : Sl aA 83 (.int .i64 (((j3 : Nat) : Int) - 1)) := hdpA 4 _ 83 zy rfl rfl
      clear hbsA hdpA
      refine op_index_own (i := (j3 - 1)) slt42 (zC hNA rfl qA_81) hOA (zC hNA rfl qA_83) zx zx ?_
      intro b_ o_ _ hA_
      exact obR_end rfl ⟨b_, o_, rfl, by simpa using hA_⟩ (grown_refl _ _)
     ·
      intro o_ ho_; obtain rfl := zE ho_; intro aA wA hNA hRA hbsA hdpA hOA
      obtain ⟨bA_93, oA_93, qA_93, hAA_93⟩ := hdpA 14 _ 93 zy rfl rfl
      have qA_88 : Sl aA 88 (.int .u16 (d2[(j3 - 1)]!.toNat : Int)) := hdpA 9 _ 88 zy rfl rfl
      clear hbsA hdpA
      have hOA : Own wA base 74 1 v n (d2.toList.map u16v) := hOA
      refine op_store_own (vs := [(.int .u16 (d2[(j3 - 1)]!.toNat : Int))]) size74 (zC hNA rfl qA_93) (zC hNA rfl qA_88) rfl rfl rfl hOA hAA_93 (by have := hOA.1; simp at this ⊢; omega) ?_
      intro w_ hO_ E_
      exact obW_end rfl (hO_.cast rfl (set_arr (by first | omega | (simp only [Array.size_setIfInBounds, swp_sz, siftDown_size]; omega)))) E_
     ·
      intro o_ ho_; obtain rfl := zE ho_; intro aA wA hNA hRA hbsA hdpA hOA
      obtain ⟨bA_94, oA_94, qA_94, hAA_94⟩ := hdpA 16 _ 94 zy rfl rfl
      have qA_92 : Sl aA 92 (.int .u16 (d2[j3]!.toNat : Int)) := hdpA 13 _ 92 zy rfl rfl
      clear hbsA hdpA
      have hOA : Own wA base 74 1 v n ((d2.setIfInBounds j3 d2[(j3 - 1)]!).toList.map u16v) := hOA
      refine op_store_own (vs := [(.int .u16 (d2[j3]!.toNat : Int))]) size74 (zC hNA rfl qA_94) (zC hNA rfl qA_92) rfl rfl rfl hOA hAA_94 (by have := hOA.1; simp at this ⊢; omega) ?_
      intro w_ hO_ E_
      exact obW_end rfl (hO_.cast rfl (set_arr (by first | omega | (simp only [Array.size_setIfInBounds, swp_sz, siftDown_size]; omega)))) E_
     intro a51 w51 hN51 hd51 hbs51 hph51 hO51 E51
     have hd51 := hd51.trans hd36
     have s51_0 := (hbs51 0 rfl).trans (zL hN36 rfl s36_0)
     have s51_1 := (hbs51 1 rfl).trans (zL hN36 rfl s36_1)
     have s51_2 := (hbs51 2 rfl).trans (zL hN36 rfl s36_2)
     have s51_7 := (hbs51 7 rfl).trans (zL hN36 rfl s36_7)
     have s51_8 := (hbs51 8 rfl).trans (zL hN36 rfl s36_8)
     have s51_9 := (hbs51 9 rfl).trans (zL hN36 rfl s36_9)
     clear hbs51 hph51
     have hO51 : Own w51 base 74 1 v n (((d2.setIfInBounds j3 d2[(j3 - 1)]!).setIfInBounds (j3 - 1) d2[j3]!).toList.map u16v) := hO51
     have := E51.size
     have hb := grow_stepX hb E51 rfl
     refine hK40 _ _ (zH ?_)
     refine zG (zC hN51 rfl s51_9) ?_
     refine op_sub (zA hN51 rfl) rfl (sub64 zx) ?_
     refine zD (zA hN51 rfl) ?_
     refine zB ?_
     -- round 14T 37F 41F 61T 65T 78F
     exact zg _ hN51 hd51 ⟨(j3 - 1), _, rfl, (zL hN51 rfl s51_0), (zL hN51 rfl s51_1), (zL hN51 rfl s51_2), (zL hN51 rfl s51_7), (zL hN51 rfl s51_8), (zU hN51 rfl).trans (congrArg (Value.int .i64) zx), (by first | assumption | (simp only [Array.size_setIfInBounds, swp_sz, siftDown_size]; assumption)), zx, (hdn.trans (shiftDown_go zx (not_f c78))), hb, zx, hO51⟩ zx
    refine zB ?_
    refine hK39 _ _ (wp_cond_false (zA hN36 rfl) (wp_exit (then_exit (then_exit (blk_hit ?_)))))
    refine hK33 _ _ ?_
    exact hJ31 _ _ _ hN36 hd36 ⟨_, (zL hN36 rfl s36_0), (zL hN36 rfl s36_1), (zL hN36 rfl s36_2), (zL hN36 rfl s36_7), (zL hN36 rfl s36_8), ((fixDown_t zx).trans (hdn.trans (shiftDown_stop (.inl zx)))).symm, (by first | assumption | (simp only [Array.size_setIfInBounds, swp_sz, siftDown_size]; assumption)), hb, zx, hO37⟩
   refine zB ?_
   refine hK34 _ _ (wp_cond_false (zA hN30 rfl) (wp_skip (hK33 _ _ ?_)))
   exact hJ31 _ _ _ hN30 hd30 ⟨_, (zL hN30 rfl s30_0), (zL hN30 rfl s30_1), (zL hN30 rfl s30_2), (zL hN30 rfl s30_7), (zL hN30 rfl s30_8), (fixDown_f zx).symm, (by first | assumption | (simp only [Array.size_setIfInBounds, swp_sz, siftDown_size]; assumption)), hb, zx, hO30⟩
  rintro a31 w31 hN31 hd31 ⟨d3, s31_0, s31_1, s31_2, s31_7, s31_8, hdd, hz3, hb, zl_w31, hO32⟩
  have := hb.size
  refine zF fun K52 hK52 => ?_
  refine zH ?_
  refine zG (zC hN31 rfl s31_2) ?_
  refine zG (zC hN31 rfl s31_7) ?_
  refine op_sub (zA hN31 rfl) (zA hN31 rfl) (sub64 zx) ?_
  refine op_geq (zA hN31 rfl) rfl (fun c98 => ?_) (fun c98 => ?_)
  ·
   refine zB ?_
   refine hK52 _ _ (wp_cond_true (zA hN31 rfl) (zF fun K53 hK53 => ?_))
   refine zH ?_
   refine zG (zC hN31 rfl s31_7) ?_
   refine op_add (zA hN31 rfl) rfl (add64 zx) ?_
   refine zD (zA hN31 rfl) ?_
   refine zB ?_
   refine hK53 _ _ (wp_block ?_)
   refine loop_m (fun mz_ az_ w' => ∃ (j4 : Nat) (d4 : Ar), mz_ = (b + 1 - j4) ∧ (az_.tmps.getD 0 undef = v) ∧ (az_.tmps.getD 1 undef = (.int .i64 ((a : Nat) : Int))) ∧ (az_.tmps.getD 2 undef = (.int .i64 ((b : Nat) : Int))) ∧ (az_.tmps.getD 7 undef = (.int .i64 ((i2 : Nat) : Int))) ∧ (az_.tmps.getD 8 undef = (.int .i64 ((s : Nat) : Int))) ∧ (az_.tmps.getD 10 undef = (.int .i64 ((j4 : Nat) : Int))) ∧ (d4.size = n) ∧ (i2 + 1 ≤ j4 ∧ j4 ≤ b) ∧ (shiftUp ltT b (i2 + 1) d3 = shiftUp ltT b j4 d4) ∧ (w.grownBy w' v.ownBlock) ∧ (w31.heap.size ≤ w'.heap.size) ∧ (Own w' base 74 1 v n (d4.toList.map u16v))) _ hN31 hd31 ⟨(i2 + 1), _, rfl, (zL hN31 rfl s31_0), (zL hN31 rfl s31_1), (zL hN31 rfl s31_2), (zL hN31 rfl s31_7), (zL hN31 rfl s31_8), (zU hN31 rfl).trans (congrArg (Value.int .i64) zx), (by first | assumption | (simp only [Array.size_setIfInBounds, swp_sz, siftDown_size]; assumption)), zx, rfl, hb, (Nat.le_refl _), hO32⟩ ?_
   rintro _ a54 w54 hN54 hd54 ⟨j4, d4, rfl, s54_0, s54_1, s54_2, s54_7, s54_8, s54_10, hd4, hr4, hup, hb, zl_w54, hO55⟩
   have := hb.size
   refine zF fun K56 hK56 => ?_
   refine zF fun K57 hK57 => ?_
   refine zH ?_
   refine zG (zC hN54 rfl s54_10) ?_
   refine zG (zC hN54 rfl s54_2) ?_
   refine op_lss (zA hN54 rfl) (zA hN54 rfl) (fun c103 => ?_) (fun c103 => ?_)
   ·
    refine zB ?_
    refine hK57 _ _ (wp_cond_true (zA hN54 rfl) (wp_skip (hK56 _ _ (zF fun K58 hK58 => ?_))))
    refine wp_block ?_
    refine zF fun K59 hK59 => ?_
    refine zF fun K60 hK60 => ?_
    refine reg_still mixed zy ?_
    intro w62 E61
    have := E61.size
    have hO55 := hO55.keep0 E61
    have hb := grow_step0 hb E61
    refine st_step rfl (fun _ h9 => zG (zC hN54 rfl s54_0) h9) ?_
    refine st_step rfl (fun _ h9 => zG (zC hN54 rfl s54_10) h9) ?_
    refine st_index_rd slt42 (zA hN54 rfl) hO55.rdw (zA hN54 rfl) zx zx ?_
    intro b63 o64 h0b63 h1b63 hc65
    refine st_step rfl (fun _ h9 => zN (v := (Value.int .u16 (d4[j4]!.toNat : Int))) one74 (zA hN54 rfl) (by have := hc65 0 (.int .u16 (d4[j4]!.toNat : Int)) zz (el_arr (i := j4) zx (by first | omega | (simp only [Array.size_setIfInBounds, swp_sz, siftDown_size]; omega))); simpa using this) h9) ?_
    refine st_step rfl (fun _ h9 => zG (zC hN54 rfl s54_0) h9) ?_
    refine st_step rfl (fun _ h9 => zG (zC hN54 rfl s54_10) h9) ?_
    refine st_step rfl (fun _ h9 => op_sub (zA hN54 rfl) rfl (sub64 zx) h9) ?_
    refine st_index_rd slt42 (zA hN54 rfl) hO55.rdw (zA hN54 rfl) zx zx ?_
    intro b66 o67 h0b66 h1b66 hc68
    refine st_step rfl (fun _ h9 => zN (v := (Value.int .u16 (d4[(j4 - 1)]!.toNat : Int))) one74 (zA hN54 rfl) (by have := hc68 0 (.int .u16 (d4[(j4 - 1)]!.toNat : Int)) zz (el_arr (i := (j4 - 1)) zx (by first | omega | (simp only [Array.size_setIfInBounds, swp_sz, siftDown_size]; omega))); simpa using this) h9) ?_
    refine st_fn (vs := [(.int .u16 (d4[j4]!.toNat : Int)), (.int .u16 (d4[(j4 - 1)]!.toNat : Int))]) ok132 (⟨(zA hN54 rfl), ⟨(zA hN54 rfl), trivial⟩⟩) (Less16_ret d4[j4]! d4[(j4 - 1)]! _) ?_
    refine st_step rfl (fun _ h9 => op_not (zA hN54 rfl) h9) ?_
    refine st_nil ?_
    refine hK60 _ _ (wp_cond_split (zA hN54 rfl) (fun c116 => ?_) (fun c116 => ?_))
    ·
     refine wp_exit (then_exit (blk_miss zz (then_exit (then_exit (blk_hit ?_)))))
     refine hK9 _ _ (zH ?_)
     refine zG (zC hN54 rfl s54_8) ?_
     refine op_add (zA hN54 rfl) rfl (add64 zx) ?_
     refine zD (zA hN54 rfl) ?_
     refine zB ?_
     -- round 14T 37F 41F 98T 103T 116T
     exact zg _ hN54 hd54 ⟨(s + 1), i2, _, rfl, (zL hN54 rfl s54_0), (zL hN54 rfl s54_1), (zL hN54 rfl s54_2), (zU hN54 rfl).trans (congrArg (Value.int .i64) zx), (zL hN54 rfl s54_7).trans (congrArg (Value.int .i64) zx), (by first | assumption | (simp only [Array.size_setIfInBounds, swp_sz, siftDown_size]; assumption)), zx, (hs.trans (pi_go zx hq2 zx zx hdd ((fixUp_t zx).trans (hup.trans (shiftUp_stop (.inr (not_t c116))))).symm)), hb, zx, hO55⟩ zx
    refine wp_skip (hK59 _ _ ?_)
    refine reg_mid (e := 74) (sz := 1) (base := base) (n := n) (v := v) (Φ := phiL [(fun uz _ => uz = v), (fun uz _ => uz = (.int .i64 ((j4 : Nat) : Int))), (fun uz _ => uz = v), (fun uz _ => uz = (.int .i64 ((j4 : Nat) : Int))), (fun uz _ => uz = (.int .i64 (((j4 : Nat) : Int) - 1))), (fun uz _ => uz = v), (fun uz _ => uz = (.int .i64 ((j4 : Nat) : Int))), (fun uz _ => uz = (.int .i64 (((j4 : Nat) : Int) - 1))), (fun uz _ => ∃ bz oz, uz = ptr bz oz ∧ AtV v (j4 - 1) bz oz), (fun uz _ => uz = (.int .u16 (d4[(j4 - 1)]!.toNat : Int))), (fun uz _ => uz = v), (fun uz _ => uz = (.int .i64 ((j4 : Nat) : Int))), (fun uz _ => ∃ bz oz, uz = ptr bz oz ∧ AtV v j4 bz oz), (fun uz _ => uz = (.int .u16 (d4[j4]!.toNat : Int))), (fun uz _ => ∃ bz oz, uz = ptr bz oz ∧ AtV v j4 bz oz), (fun _ _ => True), (fun uz _ => ∃ bz oz, uz = ptr bz oz ∧ AtV v (j4 - 1) bz oz), (fun _ _ => True)]) [15, 17] [(d4.toList.map u16v), ((d4.setIfInBounds j4 d4[(j4 - 1)]!).toList.map u16v), (((d4.setIfInBounds j4 d4[(j4 - 1)]!).setIfInBounds (j4 - 1) d4[j4]!).toList.map u16v)] mixed zy zy zy zy hN54 hO55 (StL.get (StL.eq (StL.eq (StL.eq (StL.eq (StL.eq (StL.eq (StL.eq (StL.eq (StL.at (StL.eq (StL.eq (StL.eq (StL.at (StL.eq (StL.at (StL.cons (fun _ _ _ _ h => h) (StL.at (StL.cons (fun _ _ _ _ h => h) (StL.nil _)))))))))))))))))))) (ObRs.get (ObRs.cons ?_ (ObRs.cons ?_ (ObRs.cons ?_ (ObRs.cons ?_ (ObRs.cons ?_ (ObRs.cons ?_ (ObRs.cons ?_ (ObRs.cons ?_ (ObRs.cons ?_ (ObRs.cons ?_ (ObRs.cons ?_ (ObRs.cons ?_ (ObRs.cons ?_ (ObRs.cons ?_ (ObRs.cons ?_ (ObRs.pass rfl (ObRs.cons ?_ (ObRs.pass rfl (ObRs.nil)))))))))))))))))))) (ObWs.get (ObWs.cons ?_ (ObWs.cons ?_ (ObWs.nil)))) ?_
    ·
     intro aA wA cA hNA hRA hckA hOA hbsA hdpA
     have qA_0 := (hbsA 0 rfl).trans (zL hN54 rfl s54_0)
     clear hbsA hdpA
     refine zG (zC hNA rfl qA_0) ?_
     exact obR_end rfl rfl (grown_refl _ _)
    ·
     intro aA wA cA hNA hRA hckA hOA hbsA hdpA
     have qA_10 := (hbsA 10 rfl).trans (zL hN54 rfl s54_10)
     clear hbsA hdpA
     refine zG (zC hNA rfl qA_10) ?_
     exact obR_end rfl rfl (grown_refl _ _)
    ·
     intro aA wA cA hNA hRA hckA hOA hbsA hdpA
     have qA_0 := (hbsA 0 rfl).trans (zL hN54 rfl s54_0)
     clear hbsA hdpA
     refine zG (zC hNA rfl qA_0) ?_
     exact obR_end rfl rfl (grown_refl _ _)
    ·
     intro aA wA cA hNA hRA hckA hOA hbsA hdpA
     have qA_10 := (hbsA 10 rfl).trans (zL hN54 rfl s54_10)
     clear hbsA hdpA
     refine zG (zC hNA rfl qA_10) ?_
     exact obR_end rfl rfl (grown_refl _ _)
    ·
     intro aA wA cA hNA hRA hckA hOA hbsA hdpA
     have qA_120 : Sl aA 120 (.int .i64 ((j4 : Nat) : Int)) := hdpA 3 _ 120 zy rfl rfl
     clear hbsA hdpA
     refine op_sub (zC hNA rfl qA_120) rfl (sub64 zx) ?_
     exact obR_end rfl rfl (grown_refl _ _)
    ·
     intro aA wA cA hNA hRA hckA hOA hbsA hdpA
     have qA_0 := (hbsA 0 rfl).trans (zL hN54 rfl s54_0)
     clear hbsA hdpA
     refine zG (zC hNA rfl qA_0) ?_
     exact obR_end rfl rfl (grown_refl _ _)
    ·
     intro aA wA cA hNA hRA hckA hOA hbsA hdpA
     have qA_10 := (hbsA 10 rfl).trans (zL hN54 rfl s54_10)
     clear hbsA hdpA
     refine zG (zC hNA rfl qA_10) ?_
     exact obR_end rfl rfl (grown_refl _ _)
    ·
     intro aA wA cA hNA hRA hckA hOA hbsA hdpA
     have qA_123 : Sl aA 123 (.int .i64 ((j4 : Nat) : Int)) := hdpA 6 _ 123 zy rfl rfl
     clear hbsA hdpA
     refine op_sub (zC hNA rfl qA_123) rfl (sub64 zx) ?_
     exact obR_end rfl rfl (grown_refl _ _)
    ·
     intro aA wA cA hNA hRA hckA hOA hbsA hdpA
     have qA_122 : Sl aA 122 v := hdpA 5 _ 122 zy rfl rfl
     have qA_124 : Sl aA 124 (.int .i64 (((j4 : Nat) : Int) - 1)) := hdpA 7 _ 124 zy rfl rfl
     clear hbsA hdpA
     refine op_index_own (i := (j4 - 1)) slt42 (zC hNA rfl qA_122) hOA (zC hNA rfl qA_124) zx zx ?_
     intro b_ o_ _ hA_
     exact obR_end rfl ⟨b_, o_, rfl, by simpa using hA_⟩ (grown_refl _ _)
    ·
     intro aA wA cA hNA hRA hckA hOA hbsA hdpA
     obtain ⟨bA_125, oA_125, qA_125, hAA_125⟩ := hdpA 8 _ 125 zy rfl rfl
     clear hbsA hdpA
     obtain rfl : cA = 0 := Nat.le_zero.1 (hckA 0 15 rfl zy)
     have hOA : Own wA base 74 1 v n (d4.toList.map u16v) := hOA
     refine zN (v := (Value.int .u16 (d4[(j4 - 1)]!.toNat : Int))) one74 (zC hNA rfl qA_125) (by have := hOA.cellAt hAA_125 0 _ (el_at (i := (j4 - 1)) (by first | omega | (simp only [Array.size_setIfInBounds, swp_sz, siftDown_size]; omega))); simpa using this) ?_
     exact obR_end rfl rfl (grown_refl _ _)
    ·
     intro aA wA cA hNA hRA hckA hOA hbsA hdpA
     have qA_0 := (hbsA 0 rfl).trans (zL hN54 rfl s54_0)
     clear hbsA hdpA
     refine zG (zC hNA rfl qA_0) ?_
     exact obR_end rfl rfl (grown_refl _ _)
    ·
     intro aA wA cA hNA hRA hckA hOA hbsA hdpA
     have qA_10 := (hbsA 10 rfl).trans (zL hN54 rfl s54_10)
     clear hbsA hdpA
     refine zG (zC hNA rfl qA_10) ?_
     exact obR_end rfl rfl (grown_refl _ _)
    ·
     intro aA wA cA hNA hRA hckA hOA hbsA hdpA
     have qA_127 : Sl aA 127 v := hdpA 10 _ 127 zy rfl rfl
     have qA_128 : Sl aA 128 (.int .i64 ((j4 : Nat) : Int)) := hdpA 11 _ 128 zy rfl rfl
     clear hbsA hdpA
     refine op_index_own (i := j4) slt42 (zC hNA rfl qA_127) hOA (zC hNA rfl qA_128) zx zx ?_
     intro b_ o_ _ hA_
     exact obR_end rfl ⟨b_, o_, rfl, by simpa using hA_⟩ (grown_refl _ _)
    ·
     intro aA wA cA hNA hRA hckA hOA hbsA hdpA
     obtain ⟨bA_129, oA_129, qA_129, hAA_129⟩ := hdpA 12 _ 129 zy rfl rfl
     clear hbsA hdpA
     obtain rfl : cA = 0 := Nat.le_zero.1 (hckA 0 15 rfl zy)
     have hOA : Own wA base 74 1 v n (d4.toList.map u16v) := hOA
     refine zN (v := (Value.int .u16 (d4[j4]!.toNat : Int))) one74 (zC hNA rfl qA_129) (by have := hOA.cellAt hAA_129 0 _ (el_at (i := j4) (by first | omega | (simp only [Array.size_setIfInBounds, swp_sz, siftDown_size]; omega))); simpa using this) ?_
     exact obR_end rfl rfl (grown_refl _ _)
    ·
     intro aA wA cA hNA hRA hckA hOA hbsA hdpA
     have qA_117 : Sl aA 117 v := hdpA 0 _ 117 zy rfl rfl
     have qA_118 : Sl aA 118 (.int .i64 ((j4 : Nat) : Int)) := hdpA 1 _ 118 zy rfl rfl
     clear hbsA hdpA
     refine op_index_own (i := j4) slt42 (zC hNA rfl qA_117) hOA (zC hNA rfl qA_118) zx zx ?_
     intro b_ o_ _ hA_
     exact obR_end rfl ⟨b_, o_, rfl, by simpa using hA_⟩ (grown_refl _ _)
    ·
     intro aA wA cA hNA hRA hckA hOA hbsA hdpA
     have qA_119 : Sl aA 119 v := hdpA 2 _ 119 zy rfl rfl
     have qA_121 : Sl aA 121 (.int .i64 (((j4 : Nat) : Int) - 1)) := hdpA 4 _ 121 zy rfl rfl
     clear hbsA hdpA
     refine op_index_own (i := (j4 - 1)) slt42 (zC hNA rfl qA_119) hOA (zC hNA rfl qA_121) zx zx ?_
     intro b_ o_ _ hA_
     exact obR_end rfl ⟨b_, o_, rfl, by simpa using hA_⟩ (grown_refl _ _)
    ·
     intro o_ ho_; obtain rfl := zE ho_; intro aA wA hNA hRA hbsA hdpA hOA
     obtain ⟨bA_131, oA_131, qA_131, hAA_131⟩ := hdpA 14 _ 131 zy rfl rfl
     have qA_126 : Sl aA 126 (.int .u16 (d4[(j4 - 1)]!.toNat : Int)) := hdpA 9 _ 126 zy rfl rfl
     clear hbsA hdpA
     have hOA : Own wA base 74 1 v n (d4.toList.map u16v) := hOA
     refine op_store_own (vs := [(.int .u16 (d4[(j4 - 1)]!.toNat : Int))]) size74 (zC hNA rfl qA_131) (zC hNA rfl qA_126) rfl rfl rfl hOA hAA_131 (by have := hOA.1; simp at this ⊢; omega) ?_
     intro w_ hO_ E_
     exact obW_end rfl (hO_.cast rfl (set_arr (by first | omega | (simp only [Array.size_setIfInBounds, swp_sz, siftDown_size]; omega)))) E_
    ·
     intro o_ ho_; obtain rfl := zE ho_; intro aA wA hNA hRA hbsA hdpA hOA
     obtain ⟨bA_132, oA_132, qA_132, hAA_132⟩ := hdpA 16 _ 132 zy rfl rfl
     have qA_130 : Sl aA 130 (.int .u16 (d4[j4]!.toNat : Int)) := hdpA 13 _ 130 zy rfl rfl
     clear hbsA hdpA
     have hOA : Own wA base 74 1 v n ((d4.setIfInBounds j4 d4[(j4 - 1)]!).toList.map u16v) := hOA
     refine op_store_own (vs := [(.int .u16 (d4[j4]!.toNat : Int))]) size74 (zC hNA rfl qA_132) (zC hNA rfl qA_130) rfl rfl rfl hOA hAA_132 (by have := hOA.1; simp at this ⊢; omega) ?_
     intro w_ hO_ E_
     exact obW_end rfl (hO_.cast rfl (set_arr (by first | omega | (simp only [Array.size_setIfInBounds, swp_sz, siftDown_size]; omega)))) E_
    intro a69 w69 hN69 hd69 hbs69 hph69 hO69 E69
    have hd69 := hd69.trans hd54
    have s69_0 := (hbs69 0 rfl).trans (zL hN54 rfl s54_0)
    have s69_1 := (hbs69 1 rfl).trans (zL hN54 rfl s54_1)
    have s69_2 := (hbs69 2 rfl).trans (zL hN54 rfl s54_2)
    have s69_7 := (hbs69 7 rfl).trans (zL hN54 rfl s54_7)
    have s69_8 := (hbs69 8 rfl).trans (zL hN54 rfl s54_8)
    have s69_10 := (hbs69 10 rfl).trans (zL hN54 rfl s54_10)
    clear hbs69 hph69
    have hO69 : Own w69 base 74 1 v n (((d4.setIfInBounds j4 d4[(j4 - 1)]!).setIfInBounds (j4 - 1) d4[j4]!).toList.map u16v) := hO69
    have := E69.size
    have hb := grow_stepX hb E69 rfl
    refine hK58 _ _ (zH ?_)
    refine zG (zC hN69 rfl s69_10) ?_
    refine op_add (zA hN69 rfl) rfl (add64 zx) ?_
    refine zD (zA hN69 rfl) ?_
    refine zB ?_
    -- round 14T 37F 41F 98T 103T 116F
    exact zg _ hN69 hd69 ⟨(j4 + 1), _, rfl, (zL hN69 rfl s69_0), (zL hN69 rfl s69_1), (zL hN69 rfl s69_2), (zL hN69 rfl s69_7), (zL hN69 rfl s69_8), (zU hN69 rfl).trans (congrArg (Value.int .i64) zx), (by first | assumption | (simp only [Array.size_setIfInBounds, swp_sz, siftDown_size]; assumption)), zx, (hup.trans (shiftUp_go zx (not_f c116))), hb, zx, hO69⟩ zx
   refine zB ?_
   refine hK57 _ _ (wp_cond_false (zA hN54 rfl) (wp_exit (then_exit (then_exit (blk_hit ?_)))))
   refine hK9 _ _ (zH ?_)
   refine zG (zC hN54 rfl s54_8) ?_
   refine op_add (zA hN54 rfl) rfl (add64 zx) ?_
   refine zD (zA hN54 rfl) ?_
   refine zB ?_
   -- round 14T 37F 41F 98T 103F
   exact zg _ hN54 hd54 ⟨(s + 1), i2, _, rfl, (zL hN54 rfl s54_0), (zL hN54 rfl s54_1), (zL hN54 rfl s54_2), (zU hN54 rfl).trans (congrArg (Value.int .i64) zx), (zL hN54 rfl s54_7).trans (congrArg (Value.int .i64) zx), (by first | assumption | (simp only [Array.size_setIfInBounds, swp_sz, siftDown_size]; assumption)), zx, (hs.trans (pi_go zx hq2 zx zx hdd ((fixUp_t zx).trans (hup.trans (shiftUp_stop (.inl zx)))).symm)), hb, zx, hO55⟩ zx
  refine zB ?_
  refine hK52 _ _ (wp_cond_false (zA hN31 rfl) (wp_skip (hK9 _ _ (zH ?_))))
  refine zG (zC hN31 rfl s31_8) ?_
  refine op_add (zA hN31 rfl) rfl (add64 zx) ?_
  refine zD (zA hN31 rfl) ?_
  refine zB ?_
  -- round 14T 37F 41F 98F
  exact zg _ hN31 hd31 ⟨(s + 1), i2, _, rfl, (zL hN31 rfl s31_0), (zL hN31 rfl s31_1), (zL hN31 rfl s31_2), (zU hN31 rfl).trans (congrArg (Value.int .i64) zx), (zL hN31 rfl s31_7).trans (congrArg (Value.int .i64) zx), (by first | assumption | (simp only [Array.size_setIfInBounds, swp_sz, siftDown_size]; assumption)), zx, (hs.trans (pi_go zx hq2 zx zx hdd (fixUp_f zx).symm)), hb, zx, hO32⟩ zx
 refine zB ?_
 refine hK8 _ _ (wp_cond_false (zA hN5 rfl) (wp_exit (then_exit (then_exit (blk_hit ?_)))))
 refine hK3 _ _ (zF fun K70 hK70 => ?_)
 refine zH ?_
 refine zD rfl ?_
 refine zB ?_
 refine hK70 _ _ (wp_ret ?_)
 refine ret1 rfl hd5 (zA hN5 rfl) ⟨_, rfl, ?_⟩
 have hq : partialInsertionSort ltT d a b = (dk, false) := hs.trans (by rw [show 5 - s = 0 by omega]; rfl)
 exact ⟨hb, by rw [hq]; rfl, hO6.cast rfl (by rw [hq])⟩

end Go.Proofs.Ythflnkfghogaoaa
