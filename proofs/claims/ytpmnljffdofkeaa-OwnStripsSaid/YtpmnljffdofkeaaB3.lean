/- Walks, written by a program: what each function of the translation hands back. -/
import Derived.Test.YtpmnljffdofkeaaB2
namespace Go.Proofs.Ytpmnljffdofkeaa
open Go.Gx Go.RowKit
attribute [local irreducible] wpList wpStill Code.wp Calls
open Go.Sort (insertionSort insOuter insInner swp siftDown heapSort heapBuild heapPop scanUp scanDown partition partLoop partitionEqual partEqLoop scanSorted partialIns bitsLen partialInsertionSort shiftDown shiftUp SortedIn reverseRange reverseLoop fixDown fixUp)
theorem len64W_ret (n : Nat) (w : World) (hn : n < 18446744073709551616) : Ret Try.prog 76 #[(Value.int .u64 ((n : Nat) : Int))] w (fun v' w' => Below w.heap.size w w' ∧ v' = .int .i64 (bitsLen n : Int)) := by
 have hb := Below.refl w.heap.size w
 refine enter (N := 25) Try.func76 rfl rfl (by simp) fun a0 hN hd hA => ?_
 have s0 : a0.tmps.getD 0 undef = (Value.int .u64 ((n : Nat) : Int)) := hA 0 (by simp)
 clear hA
 refine seq_any fun K409 hK409 => ?_
 refine one_reg ?_
 refine op_assign rfl ?_
 refine reg_nil ?_
 refine hK409 _ _ ?_
 refine seq_join1 (N := 25) (fun az_ w' => ∃ (x1 k1 : Nat), (az_.tmps.getD 0 undef = (Value.int .u64 ((x1 : Nat) : Int))) ∧ (az_.tmps.getD 2 undef = (Value.int .i64 ((k1 : Nat) : Int))) ∧ (bitsLen n = k1 + bitsLen x1 ∧ x1 < 4294967296 ∧ k1 ≤ 32) ∧ (Below w.heap.size w w') ∧ (w.heap.size ≤ w'.heap.size)) (fun hJ410 => ?_) ?_
 ·
  refine seq_any fun K411 hK411 => ?_
  refine seq_any fun K412 hK412 => ?_
  refine one_reg ?_
  refine op_move (ev_base hN rfl s0) ?_
  refine op_geq (ev_hit hN rfl) rfl (fun c4 => ?_) (fun c4 => ?_)
  · -- 4T
   refine reg_nil ?_
   refine hK412 _ _ ?_
   refine wp_cond_true (ev_hit hN rfl) ?_
   refine seq_any fun K413 hK413 => ?_
   refine one_reg ?_
   refine op_move (ev_base hN rfl s0) ?_
   refine op_shr (r := ((n / 4294967296 : Nat) : Int)) (ev_hit hN rfl) rfl (by decide) (shr_nat (j := 32) (by omega) (by decide)) ?_
   refine op_assign (ev_hit hN rfl) ?_
   refine reg_nil ?_
   refine hK413 _ _ ?_
   refine one_reg ?_
   refine op_assign rfl ?_
   refine reg_nil ?_
   refine hK411 _ _ ?_
   exact hJ410 _ _ _ hN hd ⟨(n / 4294967296), (0 + 32), (sl_hit hN rfl).trans (congrArg (Value.int .u64) (by omega)), (sl_hit hN rfl).trans (congrArg (Value.int .i64) (by omega)), (by have hz := bits_32 (n := n) (by omega); omega), hb, (by omega)⟩
  · -- 4F
   refine reg_nil ?_
   refine hK412 _ _ ?_
   refine wp_cond_false (ev_hit hN rfl) ?_
   refine wp_skip ?_
   refine hK411 _ _ ?_
   exact hJ410 _ _ _ hN hd ⟨n, 0, (sl_base hN rfl s0).trans (congrArg (Value.int .u64) (by omega)), (sl_hit hN rfl).trans (congrArg (Value.int .i64) (by omega)), (by omega), hb, (by omega)⟩
 ·
  rintro a410 w410 hN410 hd410 ⟨x1, k1, s410_0, s410_2, hx1, hb, zl_w410⟩
  have z_w410 := hb.size
  refine seq_join1 (N := 25) (fun az_ w' => ∃ (x2 k2 : Nat), (az_.tmps.getD 0 undef = (Value.int .u64 ((x2 : Nat) : Int))) ∧ (az_.tmps.getD 2 undef = (Value.int .i64 ((k2 : Nat) : Int))) ∧ (bitsLen n = k2 + bitsLen x2 ∧ x2 < 65536 ∧ k2 ≤ 48) ∧ (Below w.heap.size w w') ∧ (w410.heap.size ≤ w'.heap.size)) (fun hJ414 => ?_) ?_
  ·
   refine seq_any fun K415 hK415 => ?_
   refine seq_any fun K416 hK416 => ?_
   refine one_reg ?_
   refine op_move (ev_base hN410 rfl s410_0) ?_
   refine op_geq (ev_hit hN410 rfl) rfl (fun c8 => ?_) (fun c8 => ?_)
   · -- 8T
    refine reg_nil ?_
    refine hK416 _ _ ?_
    refine wp_cond_true (ev_hit hN410 rfl) ?_
    refine seq_any fun K417 hK417 => ?_
    refine one_reg ?_
    refine op_move (ev_base hN410 rfl s410_0) ?_
    refine op_shr (r := ((x1 / 65536 : Nat) : Int)) (ev_hit hN410 rfl) rfl (by decide) (shr_nat (j := 16) (by omega) (by decide)) ?_
    refine op_assign (ev_hit hN410 rfl) ?_
    refine reg_nil ?_
    refine hK417 _ _ ?_
    refine one_reg ?_
    refine op_move (ev_base hN410 rfl s410_2) ?_
    refine op_add (ev_hit hN410 rfl) rfl (add64 (by omega)) ?_
    refine op_assign (ev_hit hN410 rfl) ?_
    refine reg_nil ?_
    refine hK415 _ _ ?_
    exact hJ414 _ _ _ hN410 hd410 ⟨(x1 / 65536), (k1 + 16), (sl_hit hN410 rfl).trans (congrArg (Value.int .u64) (by omega)), (sl_hit hN410 rfl).trans (congrArg (Value.int .i64) (by omega)), (by have hz := bits_16 (n := x1) (by omega); omega), hb, (by omega)⟩
   · -- 8F
    refine reg_nil ?_
    refine hK416 _ _ ?_
    refine wp_cond_false (ev_hit hN410 rfl) ?_
    refine wp_skip ?_
    refine hK415 _ _ ?_
    exact hJ414 _ _ _ hN410 hd410 ⟨x1, k1, (sl_base hN410 rfl s410_0).trans (congrArg (Value.int .u64) (by omega)), (sl_base hN410 rfl s410_2).trans (congrArg (Value.int .i64) (by omega)), (by omega), hb, (by omega)⟩
  ·
   rintro a414 w414 hN414 hd414 ⟨x2, k2, s414_0, s414_2, hx2, hb, zl_w414⟩
   have z_w414 := hb.size
   refine seq_join1 (N := 25) (fun az_ w' => ∃ (x3 k3 : Nat), (az_.tmps.getD 0 undef = (Value.int .u64 ((x3 : Nat) : Int))) ∧ (az_.tmps.getD 2 undef = (Value.int .i64 ((k3 : Nat) : Int))) ∧ (bitsLen n = k3 + bitsLen x3 ∧ x3 < 256 ∧ k3 ≤ 56) ∧ (Below w.heap.size w w') ∧ (w414.heap.size ≤ w'.heap.size)) (fun hJ418 => ?_) ?_
   ·
    refine seq_any fun K419 hK419 => ?_
    refine seq_any fun K420 hK420 => ?_
    refine one_reg ?_
    refine op_move (ev_base hN414 rfl s414_0) ?_
    refine op_geq (ev_hit hN414 rfl) rfl (fun c14 => ?_) (fun c14 => ?_)
    · -- 14T
     refine reg_nil ?_
     refine hK420 _ _ ?_
     refine wp_cond_true (ev_hit hN414 rfl) ?_
     refine seq_any fun K421 hK421 => ?_
     refine one_reg ?_
     refine op_move (ev_base hN414 rfl s414_0) ?_
     refine op_shr (r := ((x2 / 256 : Nat) : Int)) (ev_hit hN414 rfl) rfl (by decide) (shr_nat (j := 8) (by omega) (by decide)) ?_
     refine op_assign (ev_hit hN414 rfl) ?_
     refine reg_nil ?_
     refine hK421 _ _ ?_
     refine one_reg ?_
     refine op_move (ev_base hN414 rfl s414_2) ?_
     refine op_add (ev_hit hN414 rfl) rfl (add64 (by omega)) ?_
     refine op_assign (ev_hit hN414 rfl) ?_
     refine reg_nil ?_
     refine hK419 _ _ ?_
     exact hJ418 _ _ _ hN414 hd414 ⟨(x2 / 256), (k2 + 8), (sl_hit hN414 rfl).trans (congrArg (Value.int .u64) (by omega)), (sl_hit hN414 rfl).trans (congrArg (Value.int .i64) (by omega)), (by have hz := bits_8 (n := x2) (by omega); omega), hb, (by omega)⟩
    · -- 14F
     refine reg_nil ?_
     refine hK420 _ _ ?_
     refine wp_cond_false (ev_hit hN414 rfl) ?_
     refine wp_skip ?_
     refine hK419 _ _ ?_
     exact hJ418 _ _ _ hN414 hd414 ⟨x2, k2, (sl_base hN414 rfl s414_0).trans (congrArg (Value.int .u64) (by omega)), (sl_base hN414 rfl s414_2).trans (congrArg (Value.int .i64) (by omega)), (by omega), hb, (by omega)⟩
   ·
    rintro a418 w418 hN418 hd418 ⟨x3, k3, s418_0, s418_2, hx3, hb, zl_w418⟩
    have z_w418 := hb.size
    refine seq_any fun K422 hK422 => ?_
    refine one_reg ?_
    refine op_move (ev_base hN418 rfl s418_2) ?_
    refine op_move (ev_base hN418 rfl s418_0) ?_
    refine op_conv (r := ((x3 : Nat) : Int)) (ev_hit hN418 rfl) us81 Try.underlying5 (wrap_u8 (by omega)) ?_
    have ht8 := tab8_sz
    have h8 := tab8_len (z := x3) (by omega)
    have ht9 : x3 < tab8.length := by omega
    have ht10 : bitsLen x3 ≤ 8 := (Go.Sort.bitsLen_le_iff x3 8).2 (by omega)
    refine op_index_str (b := (tab8.getD x3 0)) Try.underlying9 rfl (ev_hit hN418 rfl) (Int.natCast_nonneg _) (el_str (i := x3) rfl ht9) ?_
    refine op_conv (r := ((tab8.getD x3 0).toNat : Int)) (ev_hit hN418 rfl) us5 Try.underlying3 (wrap_i64 (by have := ((tab8.getD x3 0)).toNat_lt; omega)) ?_
    refine op_add (ev_hit hN418 rfl) (ev_hit hN418 rfl) (add64 (by omega)) ?_
    refine op_assign (ev_hit hN418 rfl) ?_
    refine reg_nil ?_
    refine hK422 _ _ ?_
    refine wp_ret ?_
    refine ret1 rfl hd418 (ev_hit hN418 rfl) ⟨_, rfl, ?_⟩
    -- path
    exact ⟨hb, congrArg (Value.int .i64) (by omega)⟩

theorem lenW_ret (n : Nat) (w : World) (hn : n < 18446744073709551616) : Ret Try.prog 64 #[(Value.int .u64 ((n : Nat) : Int))] w (fun v' w' => Below w.heap.size w w' ∧ v' = .int .i64 (bitsLen n : Int)) := by
 have hb := Below.refl w.heap.size w
 refine enter (N := 8) Try.func64 rfl rfl (by simp) fun a0 hN hd hA => ?_
 have s0 : a0.tmps.getD 0 undef = (Value.int .u64 ((n : Nat) : Int)) := hA 0 (by simp)
 clear hA
 refine seq_any fun K423 hK423 => ?_
 refine one_reg ?_
 refine op_assign rfl ?_
 refine reg_nil ?_
 refine hK423 _ _ ?_
 refine seq_any fun K424 hK424 => ?_
 refine wp_cond_false rfl ?_
 refine wp_skip ?_
 refine hK424 _ _ ?_
 refine seq_any fun K425 hK425 => ?_
 refine one_reg ?_
 refine op_move (ev_base hN rfl s0) ?_
 refine op_fn (vs := [(Value.int .u64 ((n : Nat) : Int))]) ok76 ⟨(ev_hit hN rfl), trivial⟩ (len64W_ret n _ (by omega)) ?_
 rintro _ w426 ⟨E427, rfl⟩
 have E427 := grown_of_below E427
 have z_w426 := E427.size
 have hb := below_step0 hb E427 hb.size
 refine op_assign (ev_hit hN rfl) ?_
 refine reg_nil ?_
 refine hK425 _ _ ?_
 refine wp_ret ?_
 refine ret1 rfl hd (ev_hit hN rfl) ⟨_, rfl, ?_⟩
 -- path
 exact ⟨hb, rfl⟩

theorem npW_ret (n : Nat) (w : World) (hn : 0 < n ∧ n ≤ 4000000000000000000) : Ret Try.prog 78 #[(Value.int .i64 ((n : Nat) : Int))] w (fun v' w' => Below w.heap.size w w' ∧ ∃ m : Nat, v' = .int .u64 (m : Int) ∧ 1 ≤ m ∧ m ≤ 2 * n) := by
 have hb := Below.refl w.heap.size w
 refine enter (N := 7) Try.func78 rfl rfl (by simp) fun a0 hN hd hA => ?_
 have s0 : a0.tmps.getD 0 undef = (Value.int .i64 ((n : Nat) : Int)) := hA 0 (by simp)
 clear hA
 refine seq_any fun K428 hK428 => ?_
 refine one_reg ?_
 refine op_assign rfl ?_
 refine reg_nil ?_
 refine hK428 _ _ ?_
 refine seq_any fun K429 hK429 => ?_
 refine one_reg ?_
 refine op_move (ev_base hN rfl s0) ?_
 refine op_conv (r := ((n : Nat) : Int)) (ev_hit hN rfl) us3 Try.underlying60 (wrap_u64 (by omega)) ?_
 refine op_fn (vs := [(Value.int .u64 ((n : Nat) : Int))]) ok64 ⟨(ev_hit hN rfl), trivial⟩ (lenW_ret n _ (by omega)) ?_
 rintro _ w430 ⟨E431, rfl⟩
 have E431 := grown_of_below E431
 have z_w430 := E431.size
 have hb := below_step0 hb E431 hb.size
 have hbl : bitsLen n ≤ 62 := (Go.Sort.bitsLen_le_iff n 62).2 (by omega)
 have hp2 := Go.Sort.two_pow_bitsLen_le (n := n) hn.1
 have hp1 := Nat.two_pow_pos (bitsLen n)
 refine op_shl (r := ((2 ^ bitsLen n : Nat) : Int)) rfl (ev_hit hN rfl) (by omega) (shl_one (by omega)) ?_
 refine op_assign (ev_hit hN rfl) ?_
 refine reg_nil ?_
 refine hK429 _ _ ?_
 refine wp_ret ?_
 refine ret1 rfl hd (ev_hit hN rfl) ⟨_, rfl, ?_⟩
 -- path
 exact ⟨hb, _, rfl, by omega, by omega⟩

theorem xnextW_ret (s : Nat) (m : Int) (w : World) (hs : Bx w s 82 [.int .u64 m]) : Ret Try.prog 79 #[(ptr s 0)] w (fun v' w' => w.grownBy w' (some s) ∧ ∃ r : Nat, v' = .int .u64 (r : Int) ∧ r < 18446744073709551616 ∧ Bx w' s 82 [.int .u64 (r : Int)]) := by
 have hs_lt := hs.lt
 have hb := grown_refl w (some s)
 refine enter (N := 33) Try.func79 rfl rfl (by simp) fun a0 hN hd hA => ?_
 have s0 : a0.tmps.getD 0 undef = (ptr s 0) := hA 0 (by simp)
 clear hA
 refine seq_any fun K432 hK432 => ?_
 refine one_reg ?_
 refine op_assign rfl ?_
 refine reg_nil ?_
 refine hK432 _ _ ?_
 refine seq_any fun K433 hK433 => ?_
 refine reg_still_tail (hd := [_, _, _, _, _, _, _, _, _]) (tl := _) 9 mixed (by kernel_rfl) rfl rfl ?_
 intro w435 E434
 have z_w435 := E434.size
 have hs := hs.keep0 E434
 have hb := grow_step0 hb E434
 refine st_step rfl (fun _ h9 => op_move (ev_base hN rfl s0) h9) ?_
 refine st_step rfl (fun _ h9 => op_nil (ev_hit hN rfl) h9) ?_
 refine st_step rfl (fun _ h9 => op_load1 (v := (Value.int .u64 m)) one82 (ev_hit hN rfl) (hs.cell rfl) h9) ?_
 refine st_step rfl (fun _ h9 => op_move (ev_base hN rfl s0) h9) ?_
 refine st_step rfl (fun _ h9 => op_nil (ev_hit hN rfl) h9) ?_
 refine st_step rfl (fun _ h9 => op_load1 (v := (Value.int .u64 m)) one82 (ev_hit hN rfl) (hs.cell rfl) h9) ?_
 refine st_step rfl (fun _ h9 => op_shl (r := (IntKind.u64.wrap (m * 2 ^ (min (13 : Int).toNat (IntKind.bits .u64))))) (ev_hit hN rfl) rfl (by decide) rfl h9) ?_
 refine st_step rfl (fun _ h9 => op_xor (r := (bits .xor .u64 (m) ((IntKind.u64.wrap (m * 2 ^ (min (13 : Int).toNat (IntKind.bits .u64))))))) (ev_hit hN rfl) (ev_hit hN rfl) rfl h9) ?_
 refine st_step rfl (fun _ h9 => op_nil (ev_hit hN rfl) h9) ?_
 refine st_nil ?_
 have hs_old := hs
 refine op_store (vs := [(Value.int .u64 (bits .xor .u64 (m) ((IntKind.u64.wrap (m * 2 ^ (min (13 : Int).toNat (IntKind.bits .u64)))))))]) (cs' := [(Value.int .u64 (bits .xor .u64 (m) ((IntKind.u64.wrap (m * 2 ^ (min (13 : Int).toNat (IntKind.bits .u64)))))))]) size82 (ev_hit hN rfl) (ev_hit hN rfl) rfl rfl rfl hs (Nat.le_of_ble_eq_true rfl) rfl ?_
 intro w438 hs E439
 have z_w438 := E439.size
 have hb := grown_trans hb E439
 refine reg_nil ?_
 refine hK433 _ _ ?_
 refine seq_any fun K440 hK440 => ?_
 refine reg_still_tail (hd := [_, _, _, _, _, _, _, _, _]) (tl := _) 9 mixed (by kernel_rfl) rfl rfl ?_
 intro w442 E441
 have z_w442 := E441.size
 have hs := hs.keep0 E441
 have hb := grow_step0 hb E441
 refine st_step rfl (fun _ h9 => op_move (ev_base hN rfl s0) h9) ?_
 refine st_step rfl (fun _ h9 => op_nil (ev_hit hN rfl) h9) ?_
 refine st_step rfl (fun _ h9 => op_load1 (v := (Value.int .u64 (bits .xor .u64 (m) ((IntKind.u64.wrap (m * 2 ^ (min (13 : Int).toNat (IntKind.bits .u64)))))))) one82 (ev_hit hN rfl) (hs.cell rfl) h9) ?_
 refine st_step rfl (fun _ h9 => op_move (ev_base hN rfl s0) h9) ?_
 refine st_step rfl (fun _ h9 => op_nil (ev_hit hN rfl) h9) ?_
 refine st_step rfl (fun _ h9 => op_load1 (v := (Value.int .u64 (bits .xor .u64 (m) ((IntKind.u64.wrap (m * 2 ^ (min (13 : Int).toNat (IntKind.bits .u64)))))))) one82 (ev_hit hN rfl) (hs.cell rfl) h9) ?_
 refine st_step rfl (fun _ h9 => op_shr (r := (((bits .xor .u64 (m) ((IntKind.u64.wrap (m * 2 ^ (min (13 : Int).toNat (IntKind.bits .u64))))))).fdiv (2 ^ (min (7 : Int).toNat (IntKind.bits .u64))))) (ev_hit hN rfl) rfl (by decide) rfl h9) ?_
 refine st_step rfl (fun _ h9 => op_xor (r := (bits .xor .u64 ((bits .xor .u64 (m) ((IntKind.u64.wrap (m * 2 ^ (min (13 : Int).toNat (IntKind.bits .u64))))))) ((((bits .xor .u64 (m) ((IntKind.u64.wrap (m * 2 ^ (min (13 : Int).toNat (IntKind.bits .u64))))))).fdiv (2 ^ (min (7 : Int).toNat (IntKind.bits .u64))))))) (ev_hit hN rfl) (ev_hit hN rfl) rfl h9) ?_
 refine st_step rfl (fun _ h9 => op_nil (ev_hit hN rfl) h9) ?_
 refine st_nil ?_
 have hs_old := hs
 refine op_store (vs := [(Value.int .u64 (bits .xor .u64 ((bits .xor .u64 (m) ((IntKind.u64.wrap (m * 2 ^ (min (13 : Int).toNat (IntKind.bits .u64))))))) ((((bits .xor .u64 (m) ((IntKind.u64.wrap (m * 2 ^ (min (13 : Int).toNat (IntKind.bits .u64))))))).fdiv (2 ^ (min (7 : Int).toNat (IntKind.bits .u64)))))))]) (cs' := [(Value.int .u64 (bits .xor .u64 ((bits .xor .u64 (m) ((IntKind.u64.wrap (m * 2 ^ (min (13 : Int).toNat (IntKind.bits .u64))))))) ((((bits .xor .u64 (m) ((IntKind.u64.wrap (m * 2 ^ (min (13 : Int).toNat (IntKind.bits .u64))))))).fdiv (2 ^ (min (7 : Int).toNat (IntKind.bits .u64)))))))]) size82 (ev_hit hN rfl) (ev_hit hN rfl) rfl rfl rfl hs (Nat.le_of_ble_eq_true rfl) rfl ?_
 intro w445 hs E446
 have z_w445 := E446.size
 have hb := grown_trans hb E446
 refine reg_nil ?_
 refine hK440 _ _ ?_
 refine seq_any fun K447 hK447 => ?_
 refine reg_still_tail (hd := [_, _, _, _, _, _, _, _, _]) (tl := _) 9 mixed (by kernel_rfl) rfl rfl ?_
 intro w449 E448
 have z_w449 := E448.size
 have hs := hs.keep0 E448
 have hb := grow_step0 hb E448
 refine st_step rfl (fun _ h9 => op_move (ev_base hN rfl s0) h9) ?_
 refine st_step rfl (fun _ h9 => op_nil (ev_hit hN rfl) h9) ?_
 refine st_step rfl (fun _ h9 => op_load1 (v := (Value.int .u64 (bits .xor .u64 ((bits .xor .u64 (m) ((IntKind.u64.wrap (m * 2 ^ (min (13 : Int).toNat (IntKind.bits .u64))))))) ((((bits .xor .u64 (m) ((IntKind.u64.wrap (m * 2 ^ (min (13 : Int).toNat (IntKind.bits .u64))))))).fdiv (2 ^ (min (7 : Int).toNat (IntKind.bits .u64)))))))) one82 (ev_hit hN rfl) (hs.cell rfl) h9) ?_
 refine st_step rfl (fun _ h9 => op_move (ev_base hN rfl s0) h9) ?_
 refine st_step rfl (fun _ h9 => op_nil (ev_hit hN rfl) h9) ?_
 refine st_step rfl (fun _ h9 => op_load1 (v := (Value.int .u64 (bits .xor .u64 ((bits .xor .u64 (m) ((IntKind.u64.wrap (m * 2 ^ (min (13 : Int).toNat (IntKind.bits .u64))))))) ((((bits .xor .u64 (m) ((IntKind.u64.wrap (m * 2 ^ (min (13 : Int).toNat (IntKind.bits .u64))))))).fdiv (2 ^ (min (7 : Int).toNat (IntKind.bits .u64)))))))) one82 (ev_hit hN rfl) (hs.cell rfl) h9) ?_
 refine st_step rfl (fun _ h9 => op_shl (r := (IntKind.u64.wrap ((bits .xor .u64 ((bits .xor .u64 (m) ((IntKind.u64.wrap (m * 2 ^ (min (13 : Int).toNat (IntKind.bits .u64))))))) ((((bits .xor .u64 (m) ((IntKind.u64.wrap (m * 2 ^ (min (13 : Int).toNat (IntKind.bits .u64))))))).fdiv (2 ^ (min (7 : Int).toNat (IntKind.bits .u64)))))) * 2 ^ (min (17 : Int).toNat (IntKind.bits .u64))))) (ev_hit hN rfl) rfl (by decide) rfl h9) ?_
 refine st_step rfl (fun _ h9 => op_xor (r := (bits .xor .u64 ((bits .xor .u64 ((bits .xor .u64 (m) ((IntKind.u64.wrap (m * 2 ^ (min (13 : Int).toNat (IntKind.bits .u64))))))) ((((bits .xor .u64 (m) ((IntKind.u64.wrap (m * 2 ^ (min (13 : Int).toNat (IntKind.bits .u64))))))).fdiv (2 ^ (min (7 : Int).toNat (IntKind.bits .u64))))))) ((IntKind.u64.wrap ((bits .xor .u64 ((bits .xor .u64 (m) ((IntKind.u64.wrap (m * 2 ^ (min (13 : Int).toNat (IntKind.bits .u64))))))) ((((bits .xor .u64 (m) ((IntKind.u64.wrap (m * 2 ^ (min (13 : Int).toNat (IntKind.bits .u64))))))).fdiv (2 ^ (min (7 : Int).toNat (IntKind.bits .u64)))))) * 2 ^ (min (17 : Int).toNat (IntKind.bits .u64))))))) (ev_hit hN rfl) (ev_hit hN rfl) rfl h9) ?_
 refine st_step rfl (fun _ h9 => op_nil (ev_hit hN rfl) h9) ?_
 refine st_nil ?_
 have hs_old := hs
 refine op_store (vs := [(Value.int .u64 (bits .xor .u64 ((bits .xor .u64 ((bits .xor .u64 (m) ((IntKind.u64.wrap (m * 2 ^ (min (13 : Int).toNat (IntKind.bits .u64))))))) ((((bits .xor .u64 (m) ((IntKind.u64.wrap (m * 2 ^ (min (13 : Int).toNat (IntKind.bits .u64))))))).fdiv (2 ^ (min (7 : Int).toNat (IntKind.bits .u64))))))) ((IntKind.u64.wrap ((bits .xor .u64 ((bits .xor .u64 (m) ((IntKind.u64.wrap (m * 2 ^ (min (13 : Int).toNat (IntKind.bits .u64))))))) ((((bits .xor .u64 (m) ((IntKind.u64.wrap (m * 2 ^ (min (13 : Int).toNat (IntKind.bits .u64))))))).fdiv (2 ^ (min (7 : Int).toNat (IntKind.bits .u64)))))) * 2 ^ (min (17 : Int).toNat (IntKind.bits .u64)))))))]) (cs' := [(Value.int .u64 (bits .xor .u64 ((bits .xor .u64 ((bits .xor .u64 (m) ((IntKind.u64.wrap (m * 2 ^ (min (13 : Int).toNat (IntKind.bits .u64))))))) ((((bits .xor .u64 (m) ((IntKind.u64.wrap (m * 2 ^ (min (13 : Int).toNat (IntKind.bits .u64))))))).fdiv (2 ^ (min (7 : Int).toNat (IntKind.bits .u64))))))) ((IntKind.u64.wrap ((bits .xor .u64 ((bits .xor .u64 (m) ((IntKind.u64.wrap (m * 2 ^ (min (13 : Int).toNat (IntKind.bits .u64))))))) ((((bits .xor .u64 (m) ((IntKind.u64.wrap (m * 2 ^ (min (13 : Int).toNat (IntKind.bits .u64))))))).fdiv (2 ^ (min (7 : Int).toNat (IntKind.bits .u64)))))) * 2 ^ (min (17 : Int).toNat (IntKind.bits .u64)))))))]) size82 (ev_hit hN rfl) (ev_hit hN rfl) rfl rfl rfl hs (Nat.le_of_ble_eq_true rfl) rfl ?_
 intro w452 hs E453
 have z_w452 := E453.size
 have hb := grown_trans hb E453
 refine reg_nil ?_
 refine hK447 _ _ ?_
 refine seq_any fun K454 hK454 => ?_
 refine one_reg ?_
 refine op_move (ev_base hN rfl s0) ?_
 refine op_nil (ev_hit hN rfl) ?_
 refine op_load1 (v := (Value.int .u64 (bits .xor .u64 ((bits .xor .u64 ((bits .xor .u64 (m) ((IntKind.u64.wrap (m * 2 ^ (min (13 : Int).toNat (IntKind.bits .u64))))))) ((((bits .xor .u64 (m) ((IntKind.u64.wrap (m * 2 ^ (min (13 : Int).toNat (IntKind.bits .u64))))))).fdiv (2 ^ (min (7 : Int).toNat (IntKind.bits .u64))))))) ((IntKind.u64.wrap ((bits .xor .u64 ((bits .xor .u64 (m) ((IntKind.u64.wrap (m * 2 ^ (min (13 : Int).toNat (IntKind.bits .u64))))))) ((((bits .xor .u64 (m) ((IntKind.u64.wrap (m * 2 ^ (min (13 : Int).toNat (IntKind.bits .u64))))))).fdiv (2 ^ (min (7 : Int).toNat (IntKind.bits .u64)))))) * 2 ^ (min (17 : Int).toNat (IntKind.bits .u64)))))))) one82 (ev_hit hN rfl) (hs.cell rfl) ?_
 refine op_assign (ev_hit hN rfl) ?_
 refine reg_nil ?_
 refine hK454 _ _ ?_
 refine wp_ret ?_
 refine ret1 rfl hd (ev_hit hN rfl) ⟨_, rfl, ?_⟩
 -- path
 have hrr := xor_rng (((bits .xor .u64 ((bits .xor .u64 (m) ((IntKind.u64.wrap (m * 2 ^ (min (13 : Int).toNat (IntKind.bits .u64))))))) ((((bits .xor .u64 (m) ((IntKind.u64.wrap (m * 2 ^ (min (13 : Int).toNat (IntKind.bits .u64))))))).fdiv (2 ^ (min (7 : Int).toNat (IntKind.bits .u64)))))))) (((IntKind.u64.wrap ((bits .xor .u64 ((bits .xor .u64 (m) ((IntKind.u64.wrap (m * 2 ^ (min (13 : Int).toNat (IntKind.bits .u64))))))) ((((bits .xor .u64 (m) ((IntKind.u64.wrap (m * 2 ^ (min (13 : Int).toNat (IntKind.bits .u64))))))).fdiv (2 ^ (min (7 : Int).toNat (IntKind.bits .u64)))))) * 2 ^ (min (17 : Int).toNat (IntKind.bits .u64))))))
 obtain ⟨rr, hrr2⟩ : ∃ r : Nat, (bits .xor .u64 ((bits .xor .u64 ((bits .xor .u64 (m) ((IntKind.u64.wrap (m * 2 ^ (min (13 : Int).toNat (IntKind.bits .u64))))))) ((((bits .xor .u64 (m) ((IntKind.u64.wrap (m * 2 ^ (min (13 : Int).toNat (IntKind.bits .u64))))))).fdiv (2 ^ (min (7 : Int).toNat (IntKind.bits .u64))))))) ((IntKind.u64.wrap ((bits .xor .u64 ((bits .xor .u64 (m) ((IntKind.u64.wrap (m * 2 ^ (min (13 : Int).toNat (IntKind.bits .u64))))))) ((((bits .xor .u64 (m) ((IntKind.u64.wrap (m * 2 ^ (min (13 : Int).toNat (IntKind.bits .u64))))))).fdiv (2 ^ (min (7 : Int).toNat (IntKind.bits .u64)))))) * 2 ^ (min (17 : Int).toNat (IntKind.bits .u64)))))) = (r : Int) := ⟨((bits .xor .u64 ((bits .xor .u64 ((bits .xor .u64 (m) ((IntKind.u64.wrap (m * 2 ^ (min (13 : Int).toNat (IntKind.bits .u64))))))) ((((bits .xor .u64 (m) ((IntKind.u64.wrap (m * 2 ^ (min (13 : Int).toNat (IntKind.bits .u64))))))).fdiv (2 ^ (min (7 : Int).toNat (IntKind.bits .u64))))))) ((IntKind.u64.wrap ((bits .xor .u64 ((bits .xor .u64 (m) ((IntKind.u64.wrap (m * 2 ^ (min (13 : Int).toNat (IntKind.bits .u64))))))) ((((bits .xor .u64 (m) ((IntKind.u64.wrap (m * 2 ^ (min (13 : Int).toNat (IntKind.bits .u64))))))).fdiv (2 ^ (min (7 : Int).toNat (IntKind.bits .u64)))))) * 2 ^ (min (17 : Int).toNat (IntKind.bits .u64))))))).toNat, by omega⟩
 rw [hrr2] at hrr
 exact ⟨hb, rr, congrArg (Value.int .u64) hrr2, by omega, by have hz := hs; rw [hrr2] at hz; exact hz⟩

end Go.Proofs.Ytpmnljffdofkeaa

/- Walks, written by a program: what each function of the translation hands back. -/
namespace Go.Proofs.Ytpmnljffdofkeaa
open Go.Gx Go.RowKit
attribute [local irreducible] wpList wpStill Code.wp Calls
open Go.Sort (insertionSort insOuter insInner swp siftDown heapSort heapBuild heapPop scanUp scanDown partition partLoop partitionEqual partEqLoop scanSorted partialIns bitsLen partialInsertionSort shiftDown shiftUp SortedIn reverseRange reverseLoop fixDown fixUp)
theorem order2W_ret (d : Ar) (v : Value) (n B s m : Nat) (a b : Nat) (w : World) (hd : d.size = n) (hn : n ≤ 4000000000000000000) (hv : RdC w 0 B 1 v n (d.toList.map u16v)) (hBs : B ≤ s) (hs : Bx w s 3 [.int .i64 (m : Int)]) (hm : m ≤ 100000) (ha : a < n) (hb2 : b < n) : Ret Try.prog 82 #[v, (Value.int .i64 ((a : Nat) : Int)), (Value.int .i64 ((b : Nat) : Int)), (ptr s 0)] w (fun v' w' => w.grownBy w' (some s) ∧ ∃ x y m' : Nat, v' = .tuple #[.int .i64 (x : Int), .int .i64 (y : Int)] ∧ ((x = a ∧ y = b) ∨ (x = b ∧ y = a)) ∧ m' ≤ m + 1 ∧ Bx w' s 3 [.int .i64 (m' : Int)]) := by
 have hs_lt := hs.lt
 have hb := grown_refl w (some s)
 refine enter (N := 28) Try.func82 rfl rfl (by simp) fun a0 hN hd hA => ?_
 have s0 : a0.tmps.getD 0 undef = v := hA 0 (by simp)
 have s1 : a0.tmps.getD 1 undef = (Value.int .i64 ((a : Nat) : Int)) := hA 1 (by simp)
 have s2 : a0.tmps.getD 2 undef = (Value.int .i64 ((b : Nat) : Int)) := hA 2 (by simp)
 have s3 : a0.tmps.getD 3 undef = (ptr s 0) := hA 3 (by simp)
 clear hA
 refine seq_any fun K326 hK326 => ?_
 refine one_reg ?_
 refine op_assign rfl ?_
 refine op_assign rfl ?_
 refine reg_nil ?_
 refine hK326 _ _ ?_
 refine seq_any fun K327 hK327 => ?_
 refine seq_any fun K328 hK328 => ?_
 refine reg_still mixed (by kernel_rfl) ?_
 intro w330 E329
 have z_w330 := E329.size
 have hv := hv.keep0 E329
 have hs := hs.keep0 E329
 have hb := grow_step0 hb E329
 refine st_step rfl (fun _ h9 => op_move (ev_base hN rfl s0) h9) ?_
 refine st_step rfl (fun _ h9 => op_move (ev_base hN rfl s2) h9) ?_
 refine st_index_rd slt22 (ev_hit hN rfl) hv (ev_hit hN rfl) (by omega) (by omega) ?_
 intro b331 o332 h0b331 h1b331 hc333
 refine st_step rfl (fun _ h9 => op_load1 (v := (Value.int .u16 (d[b]!.toNat : Int))) one35 (ev_hit hN rfl) (by have := hc333 0 (Value.int .u16 (d[b]!.toNat : Int)) (by decide) (el_arr (i := b) (by omega) (by first | omega | (simp only [Array.size_setIfInBounds, swp_sz, siftDown_size]; omega))); simpa using this) h9) ?_
 refine st_step rfl (fun _ h9 => op_move (ev_base hN rfl s0) h9) ?_
 refine st_step rfl (fun _ h9 => op_move (ev_base hN rfl s1) h9) ?_
 refine st_index_rd slt22 (ev_hit hN rfl) hv (ev_hit hN rfl) (by omega) (by omega) ?_
 intro b334 o335 h0b334 h1b334 hc336
 refine st_step rfl (fun _ h9 => op_load1 (v := (Value.int .u16 (d[a]!.toNat : Int))) one35 (ev_hit hN rfl) (by have := hc336 0 (Value.int .u16 (d[a]!.toNat : Int)) (by decide) (el_arr (i := a) (by omega) (by first | omega | (simp only [Array.size_setIfInBounds, swp_sz, siftDown_size]; omega))); simpa using this) h9) ?_
 refine st_fn (vs := [(Value.int .u16 (d[b]!.toNat : Int)), (Value.int .u16 (d[a]!.toNat : Int))]) ok72 (⟨(ev_hit hN rfl), ⟨(ev_hit hN rfl), trivial⟩⟩) (Less16_ret d[b]! d[a]! _) ?_
 refine st_nil ?_
 refine hK328 _ _ ?_
 refine wp_cond_split (ev_hit hN rfl) (fun c18 => ?_) (fun c18 => ?_)
 · -- 18T
  refine seq_any fun K337 hK337 => ?_
  refine one_reg ?_
  refine op_move (ev_base hN rfl s3) ?_
  refine op_nil (ev_hit hN rfl) ?_
  refine op_load1 (v := (Value.int .i64 ((m : Nat) : Int))) one3 (ev_hit hN rfl) (hs.cell rfl) ?_
  refine op_add (r := ((m + 1 : Nat) : Int)) (ev_hit hN rfl) rfl (by rw [IntKind.wrap_i64]; omega) ?_
  refine op_nil (ev_hit hN rfl) ?_
  have hs_old := hs
  refine op_store (vs := [(Value.int .i64 ((m + 1 : Nat) : Int))]) (cs' := [(Value.int .i64 ((m + 1 : Nat) : Int))]) size3 (ev_hit hN rfl) (ev_hit hN rfl) rfl rfl rfl hs (Nat.le_of_ble_eq_true rfl) rfl ?_
  intro w340 hs E341
  have z_w340 := E341.size
  have hv := hv.keep E341 (fun k hk => .inr (by simp at hk; omega))
  have hb := grown_trans hb E341
  refine reg_nil ?_
  refine hK337 _ _ ?_
  refine seq_any fun K342 hK342 => ?_
  refine one_reg ?_
  refine op_move (ev_base hN rfl s2) ?_
  refine op_move (ev_base hN rfl s1) ?_
  refine op_assign (ev_hit hN rfl) ?_
  refine op_assign (ev_hit hN rfl) ?_
  refine reg_nil ?_
  refine hK342 _ _ ?_
  refine wp_ret (then_ret ( ?_))
  refine ret2 rfl hd (ev_hit hN rfl) (ev_hit hN rfl) ⟨_, rfl, ?_⟩
  -- path 18T
  exact ⟨hb, _, _, _, rfl, .inr ⟨rfl, rfl⟩, by omega, hs⟩
 · -- 18F
  refine wp_skip ?_
  refine hK327 _ _ ?_
  refine seq_any fun K343 hK343 => ?_
  refine one_reg ?_
  refine op_move (ev_base hN rfl s1) ?_
  refine op_move (ev_base hN rfl s2) ?_
  refine op_assign (ev_hit hN rfl) ?_
  refine op_assign (ev_hit hN rfl) ?_
  refine reg_nil ?_
  refine hK343 _ _ ?_
  refine wp_ret ?_
  refine ret2 rfl hd (ev_hit hN rfl) (ev_hit hN rfl) ⟨_, rfl, ?_⟩
  -- path 18F
  exact ⟨hb, _, _, _, rfl, .inl ⟨rfl, rfl⟩, by omega, hs⟩

theorem medianW_ret (d : Ar) (v : Value) (n B s m : Nat) (a b c : Nat) (w : World) (hd : d.size = n) (hn : n ≤ 4000000000000000000) (hv : RdC w 0 B 1 v n (d.toList.map u16v)) (hBs : B ≤ s) (hs : Bx w s 3 [.int .i64 (m : Int)]) (hm : m ≤ 90000) (ha : a < n) (hb2 : b < n) (hc2 : c < n) : Ret Try.prog 81 #[v, (Value.int .i64 ((a : Nat) : Int)), (Value.int .i64 ((b : Nat) : Int)), (Value.int .i64 ((c : Nat) : Int)), (ptr s 0)] w (fun v' w' => w.grownBy w' (some s) ∧ ∃ x m' : Nat, v' = .int .i64 (x : Int) ∧ (x = a ∨ x = b ∨ x = c) ∧ m' ≤ m + 3 ∧ Bx w' s 3 [.int .i64 (m' : Int)]) := by
 have hs_lt := hs.lt
 have hb := grown_refl w (some s)
 refine enter (N := 36) Try.func81 rfl rfl (by simp) fun a0 hN hd hA => ?_
 have s0 : a0.tmps.getD 0 undef = v := hA 0 (by simp)
 have s1 : a0.tmps.getD 1 undef = (Value.int .i64 ((a : Nat) : Int)) := hA 1 (by simp)
 have s2 : a0.tmps.getD 2 undef = (Value.int .i64 ((b : Nat) : Int)) := hA 2 (by simp)
 have s3 : a0.tmps.getD 3 undef = (Value.int .i64 ((c : Nat) : Int)) := hA 3 (by simp)
 have s4 : a0.tmps.getD 4 undef = (ptr s 0) := hA 4 (by simp)
 clear hA
 refine seq_any fun K344 hK344 => ?_
 refine one_reg ?_
 refine op_assign rfl ?_
 refine reg_nil ?_
 refine hK344 _ _ ?_
 refine seq_any fun K345 hK345 => ?_
 refine one_reg ?_
 refine op_move (ev_base hN rfl s0) ?_
 refine op_move (ev_base hN rfl s1) ?_
 refine op_move (ev_base hN rfl s2) ?_
 refine op_move (ev_base hN rfl s4) ?_
 refine op_fn (vs := [v, (Value.int .i64 ((a : Nat) : Int)), (Value.int .i64 ((b : Nat) : Int)), (ptr s 0)]) ok82 ⟨(ev_hit hN rfl), ⟨(ev_hit hN rfl), ⟨(ev_hit hN rfl), ⟨(ev_hit hN rfl), trivial⟩⟩⟩⟩ (order2W_ret d v _ B s m a b _ (by first | assumption | (simp only [Array.size_setIfInBounds, swp_sz, siftDown_size]; assumption)) (by omega) hv (by omega) hs (by omega) (by omega) (by omega)) ?_
 rintro _ w347 ⟨E348, x346, y346, m346, rfl, hx346, hm346, hs346⟩
 have hs_old := hs
 have z_w347 := E348.size
 have hv := hv.keep E348 (fun k hk => .inr (by simp at hk; omega))
 have hb := grown_trans hb E348
 refine op_move (ev_hit hN rfl) ?_
 refine op_extract (ev_hit hN rfl) rfl ?_
 refine op_extract (ev_hit hN rfl) rfl ?_
 refine op_assign (ev_hit hN rfl) ?_
 refine op_assign (ev_hit hN rfl) ?_
 refine reg_nil ?_
 refine hK345 _ _ ?_
 refine seq_any fun K349 hK349 => ?_
 refine one_reg ?_
 refine op_move (ev_base hN rfl s0) ?_
 refine op_move (ev_hit hN rfl) ?_
 refine op_move (ev_base hN rfl s3) ?_
 refine op_move (ev_base hN rfl s4) ?_
 refine op_fn (vs := [v, (Value.int .i64 ((y346 : Nat) : Int)), (Value.int .i64 ((c : Nat) : Int)), (ptr s 0)]) ok82 ⟨(ev_hit hN rfl), ⟨(ev_hit hN rfl), ⟨(ev_hit hN rfl), ⟨(ev_hit hN rfl), trivial⟩⟩⟩⟩ (order2W_ret d v _ B s m346 y346 c _ (by first | assumption | (simp only [Array.size_setIfInBounds, swp_sz, siftDown_size]; assumption)) (by omega) hv (by omega) hs346 (by omega) (by omega) (by omega)) ?_
 rintro _ w351 ⟨E352, x350, y350, m350, rfl, hx350, hm350, hs350⟩
 have hs346_old := hs346
 have z_w351 := E352.size
 have hv := hv.keep E352 (fun k hk => .inr (by simp at hk; omega))
 have hb := grown_trans hb E352
 refine op_move (ev_hit hN rfl) ?_
 refine op_extract (ev_hit hN rfl) rfl ?_
 refine op_extract (ev_hit hN rfl) rfl ?_
 refine op_assign (ev_hit hN rfl) ?_
 refine op_assign (ev_hit hN rfl) ?_
 refine reg_nil ?_
 refine hK349 _ _ ?_
 refine seq_any fun K353 hK353 => ?_
 refine one_reg ?_
 refine op_move (ev_base hN rfl s0) ?_
 refine op_move (ev_hit hN rfl) ?_
 refine op_move (ev_hit hN rfl) ?_
 refine op_move (ev_base hN rfl s4) ?_
 refine op_fn (vs := [v, (Value.int .i64 ((x346 : Nat) : Int)), (Value.int .i64 ((x350 : Nat) : Int)), (ptr s 0)]) ok82 ⟨(ev_hit hN rfl), ⟨(ev_hit hN rfl), ⟨(ev_hit hN rfl), ⟨(ev_hit hN rfl), trivial⟩⟩⟩⟩ (order2W_ret d v _ B s m350 x346 x350 _ (by first | assumption | (simp only [Array.size_setIfInBounds, swp_sz, siftDown_size]; assumption)) (by omega) hv (by omega) hs350 (by omega) (by omega) (by omega)) ?_
 rintro _ w355 ⟨E356, x354, y354, m354, rfl, hx354, hm354, hs354⟩
 have hs350_old := hs350
 have z_w355 := E356.size
 have hv := hv.keep E356 (fun k hk => .inr (by simp at hk; omega))
 have hb := grown_trans hb E356
 refine op_move (ev_hit hN rfl) ?_
 refine op_extract (ev_hit hN rfl) rfl ?_
 refine op_extract (ev_hit hN rfl) rfl ?_
 refine op_assign (ev_hit hN rfl) ?_
 refine op_assign (ev_hit hN rfl) ?_
 refine reg_nil ?_
 refine hK353 _ _ ?_
 refine seq_any fun K357 hK357 => ?_
 refine one_reg ?_
 refine op_move (ev_hit hN rfl) ?_
 refine op_assign (ev_hit hN rfl) ?_
 refine reg_nil ?_
 refine hK357 _ _ ?_
 refine wp_ret ?_
 refine ret1 rfl hd (ev_hit hN rfl) ⟨_, rfl, ?_⟩
 -- path
 exact ⟨hb, _, _, rfl, by omega, by omega, hs354⟩

theorem medAdjW_ret (d : Ar) (v : Value) (n B s m : Nat) (a : Nat) (w : World) (hd : d.size = n) (hn : n ≤ 4000000000000000000) (hv : RdC w 0 B 1 v n (d.toList.map u16v)) (hBs : B ≤ s) (hs : Bx w s 3 [.int .i64 (m : Int)]) (hm : m ≤ 80000) (h1 : 1 ≤ a) (ha : a + 1 < n) : Ret Try.prog 80 #[v, (Value.int .i64 ((a : Nat) : Int)), (ptr s 0)] w (fun v' w' => w.grownBy w' (some s) ∧ ∃ x m' : Nat, v' = .int .i64 (x : Int) ∧ (x = a - 1 ∨ x = a ∨ x = a + 1) ∧ m' ≤ m + 3 ∧ Bx w' s 3 [.int .i64 (m' : Int)]) := by
 have hs_lt := hs.lt
 have hb := grown_refl w (some s)
 refine enter (N := 15) Try.func80 rfl rfl (by simp) fun a0 hN hd hA => ?_
 have s0 : a0.tmps.getD 0 undef = v := hA 0 (by simp)
 have s1 : a0.tmps.getD 1 undef = (Value.int .i64 ((a : Nat) : Int)) := hA 1 (by simp)
 have s2 : a0.tmps.getD 2 undef = (ptr s 0) := hA 2 (by simp)
 clear hA
 refine seq_any fun K358 hK358 => ?_
 refine one_reg ?_
 refine op_assign rfl ?_
 refine reg_nil ?_
 refine hK358 _ _ ?_
 refine seq_any fun K359 hK359 => ?_
 refine one_reg ?_
 refine op_move (ev_base hN rfl s0) ?_
 refine op_move (ev_base hN rfl s1) ?_
 refine op_sub (r := ((a - 1 : Nat) : Int)) (ev_hit hN rfl) rfl (by rw [IntKind.wrap_i64]; omega) ?_
 refine op_move (ev_base hN rfl s1) ?_
 refine op_move (ev_base hN rfl s1) ?_
 refine op_add (ev_hit hN rfl) rfl (add64 (by omega)) ?_
 refine op_move (ev_base hN rfl s2) ?_
 refine op_fn (vs := [v, (Value.int .i64 ((a - 1 : Nat) : Int)), (Value.int .i64 ((a : Nat) : Int)), (Value.int .i64 (((a : Nat) : Int) + 1)), (ptr s 0)]) ok81 ⟨(ev_hit hN rfl), ⟨(ev_hit hN rfl), ⟨(ev_hit hN rfl), ⟨(ev_hit hN rfl), ⟨(ev_hit hN rfl), trivial⟩⟩⟩⟩⟩ (medianW_ret d v _ B s m (a - 1) a (a + 1) _ (by first | assumption | (simp only [Array.size_setIfInBounds, swp_sz, siftDown_size]; assumption)) (by omega) hv (by omega) hs (by omega) (by omega) (by omega) (by omega)) ?_
 rintro _ w361 ⟨E362, x360, m360, rfl, hx360, hm360, hs360⟩
 have hs_old := hs
 have z_w361 := E362.size
 have hv := hv.keep E362 (fun k hk => .inr (by simp at hk; omega))
 have hb := grown_trans hb E362
 refine op_assign (ev_hit hN rfl) ?_
 refine reg_nil ?_
 refine hK359 _ _ ?_
 refine wp_ret ?_
 refine ret1 rfl hd (ev_hit hN rfl) ⟨_, rfl, ?_⟩
 -- path
 exact ⟨hb, _, _, rfl, by omega, by omega, hs360⟩

set_option maxHeartbeats 2000000 in
theorem choosePW_ret (d : Ar) (v : Value) (n a b : Nat) (w : World) (hd : d.size = n) (hn : n ≤ 4000000000000000000) (hv : RdC w 0 w.heap.size 1 v n (d.toList.map u16v)) (hab : a < b) (hbn : b ≤ n) : Ret Try.prog 69 #[v, (Value.int .i64 ((a : Nat) : Int)), (Value.int .i64 ((b : Nat) : Int))] w (fun v' w' => Below w.heap.size w w' ∧ ∃ (x : Nat) (h : Int), v' = .tuple #[.int .i64 (x : Int), .int .i64 h] ∧ a ≤ x ∧ x < b) := by
 have hb := Below.refl w.heap.size w
 refine enter (N := 57) Try.func69 rfl rfl (by simp) fun a0 hN hd hA => ?_
 have s0 : a0.tmps.getD 0 undef = v := hA 0 (by simp)
 have s1 : a0.tmps.getD 1 undef = (Value.int .i64 ((a : Nat) : Int)) := hA 1 (by simp)
 have s2 : a0.tmps.getD 2 undef = (Value.int .i64 ((b : Nat) : Int)) := hA 2 (by simp)
 clear hA
 refine seq_any fun K363 hK363 => ?_
 refine one_reg ?_
 refine op_assign rfl ?_
 refine op_assign rfl ?_
 refine reg_nil ?_
 refine hK363 _ _ ?_
 refine seq_any fun K364 hK364 => ?_
 refine one_reg ?_
 refine op_move (ev_base hN rfl s2) ?_
 refine op_move (ev_base hN rfl s1) ?_
 refine op_sub (r := ((b - a : Nat) : Int)) (ev_hit hN rfl) (ev_hit hN rfl) (by rw [IntKind.wrap_i64]; omega) ?_
 refine op_assign (ev_hit hN rfl) ?_
 refine reg_nil ?_
 refine hK364 _ _ ?_
 refine seq_any fun K365 hK365 => ?_
 refine one_reg ?_
 refine op_alloc (cs := [(Value.int .i64 0)]) zero3 rfl ?_
 intro w366 b367 lo_b367 hi_b367 hB369 E368
 have z_w366 := E368.size
 have hv := hv.keep0 E368
 have hb := below_step0 hb E368 hb.size
 refine reg_nil ?_
 refine hK365 _ _ ?_
 refine seq_any fun K370 hK370 => ?_
 refine one_reg ?_
 refine op_move (ev_base hN rfl s1) ?_
 refine op_move (ev_hit hN rfl) ?_
 refine op_quo (r := ((((b - a) / 4) : Nat) : Int)) (ev_hit hN rfl) rfl (by decide) (by rw [IntKind.wrap_i64, Int.tdiv_eq_ediv_of_nonneg (by omega)]; omega) ?_
 refine op_mul (ev_hit hN rfl) rfl (mul64 (by omega)) ?_
 refine op_add (ev_hit hN rfl) (ev_hit hN rfl) (add64 (by omega)) ?_
 refine op_assign (ev_hit hN rfl) ?_
 refine reg_nil ?_
 refine hK370 _ _ ?_
 refine seq_any fun K371 hK371 => ?_
 refine one_reg ?_
 refine op_move (ev_base hN rfl s1) ?_
 refine op_move (ev_hit hN rfl) ?_
 refine op_quo (r := ((((b - a) / 4) : Nat) : Int)) (ev_hit hN rfl) rfl (by decide) (by rw [IntKind.wrap_i64, Int.tdiv_eq_ediv_of_nonneg (by omega)]; omega) ?_
 refine op_mul (ev_hit hN rfl) rfl (mul64 (by omega)) ?_
 refine op_add (ev_hit hN rfl) (ev_hit hN rfl) (add64 (by omega)) ?_
 refine op_assign (ev_hit hN rfl) ?_
 refine reg_nil ?_
 refine hK371 _ _ ?_
 refine seq_any fun K372 hK372 => ?_
 refine one_reg ?_
 refine op_move (ev_base hN rfl s1) ?_
 refine op_move (ev_hit hN rfl) ?_
 refine op_quo (r := ((((b - a) / 4) : Nat) : Int)) (ev_hit hN rfl) rfl (by decide) (by rw [IntKind.wrap_i64, Int.tdiv_eq_ediv_of_nonneg (by omega)]; omega) ?_
 refine op_mul (ev_hit hN rfl) rfl (mul64 (by omega)) ?_
 refine op_add (ev_hit hN rfl) (ev_hit hN rfl) (add64 (by omega)) ?_
 refine op_assign (ev_hit hN rfl) ?_
 refine reg_nil ?_
 refine hK372 _ _ ?_
 refine seq_any fun K373 hK373 => ?_
 refine seq_any fun K374 hK374 => ?_
 refine one_reg ?_
 refine op_move (ev_hit hN rfl) ?_
 refine op_geq (ev_hit hN rfl) rfl (fun c32 => ?_) (fun c32 => ?_)
 · -- 32T
  refine reg_nil ?_
  refine hK374 _ _ ?_
  refine wp_cond_true (ev_hit hN rfl) ?_
  refine seq_any fun K375 hK375 => ?_
  refine seq_any fun K376 hK376 => ?_
  refine one_reg ?_
  refine op_move (ev_hit hN rfl) ?_
  refine op_geq (ev_hit hN rfl) rfl (fun c34 => ?_) (fun c34 => ?_)
  · -- 34T
   refine reg_nil ?_
   refine hK376 _ _ ?_
   refine wp_cond_true (ev_hit hN rfl) ?_
   refine seq_any fun K377 hK377 => ?_
   refine one_reg ?_
   refine op_move (ev_base hN rfl s0) ?_
   refine op_move (ev_hit hN rfl) ?_
   refine op_fn (vs := [v, (Value.int .i64 (((a : Nat) : Int) + (((((b - a) / 4) : Nat) : Int) * 1))), (ptr b367 0)]) ok80 ⟨(ev_hit hN rfl), ⟨(ev_hit hN rfl), ⟨(ev_hit hN rfl), trivial⟩⟩⟩ (medAdjW_ret d v _ w.heap.size b367 0 (a + (((b - a) / 4) * 1)) _ (by first | assumption | (simp only [Array.size_setIfInBounds, swp_sz, siftDown_size]; assumption)) (by omega) hv (by omega) hB369 (by omega) (by omega) (by omega)) ?_
   rintro _ w379 ⟨E380, x378, m378, rfl, hx378, hm378, hs378⟩
   have hB369_old := hB369
   have z_w379 := E380.size
   have hv := hv.keep E380 (fun k hk => .inr (by simp at hk; omega))
   have hb := below_step1 hb E380 hb.size (by omega)
   refine op_assign (ev_hit hN rfl) ?_
   refine reg_nil ?_
   refine hK377 _ _ ?_
   refine seq_any fun K381 hK381 => ?_
   refine one_reg ?_
   refine op_move (ev_base hN rfl s0) ?_
   refine op_move (ev_hit hN rfl) ?_
   refine op_fn (vs := [v, (Value.int .i64 (((a : Nat) : Int) + (((((b - a) / 4) : Nat) : Int) * 2))), (ptr b367 0)]) ok80 ⟨(ev_hit hN rfl), ⟨(ev_hit hN rfl), ⟨(ev_hit hN rfl), trivial⟩⟩⟩ (medAdjW_ret d v _ w.heap.size b367 m378 (a + (((b - a) / 4) * 2)) _ (by first | assumption | (simp only [Array.size_setIfInBounds, swp_sz, siftDown_size]; assumption)) (by omega) hv (by omega) hs378 (by omega) (by omega) (by omega)) ?_
   rintro _ w383 ⟨E384, x382, m382, rfl, hx382, hm382, hs382⟩
   have hs378_old := hs378
   have z_w383 := E384.size
   have hv := hv.keep E384 (fun k hk => .inr (by simp at hk; omega))
   have hb := below_step1 hb E384 hb.size (by omega)
   refine op_assign (ev_hit hN rfl) ?_
   refine reg_nil ?_
   refine hK381 _ _ ?_
   refine one_reg ?_
   refine op_move (ev_base hN rfl s0) ?_
   refine op_move (ev_hit hN rfl) ?_
   refine op_fn (vs := [v, (Value.int .i64 (((a : Nat) : Int) + (((((b - a) / 4) : Nat) : Int) * 3))), (ptr b367 0)]) ok80 ⟨(ev_hit hN rfl), ⟨(ev_hit hN rfl), ⟨(ev_hit hN rfl), trivial⟩⟩⟩ (medAdjW_ret d v _ w.heap.size b367 m382 (a + (((b - a) / 4) * 3)) _ (by first | assumption | (simp only [Array.size_setIfInBounds, swp_sz, siftDown_size]; assumption)) (by omega) hv (by omega) hs382 (by omega) (by omega) (by omega)) ?_
   rintro _ w386 ⟨E387, x385, m385, rfl, hx385, hm385, hs385⟩
   have hs382_old := hs382
   have z_w386 := E387.size
   have hv := hv.keep E387 (fun k hk => .inr (by simp at hk; omega))
   have hb := below_step1 hb E387 hb.size (by omega)
   refine op_assign (ev_hit hN rfl) ?_
   refine reg_nil ?_
   refine hK375 _ _ ?_
   refine one_reg ?_
   refine op_move (ev_base hN rfl s0) ?_
   refine op_move (ev_hit hN rfl) ?_
   refine op_move (ev_hit hN rfl) ?_
   refine op_move (ev_hit hN rfl) ?_
   refine op_fn (vs := [v, (Value.int .i64 ((x378 : Nat) : Int)), (Value.int .i64 ((x382 : Nat) : Int)), (Value.int .i64 ((x385 : Nat) : Int)), (ptr b367 0)]) ok81 ⟨(ev_hit hN rfl), ⟨(ev_hit hN rfl), ⟨(ev_hit hN rfl), ⟨(ev_hit hN rfl), ⟨(ev_hit hN rfl), trivial⟩⟩⟩⟩⟩ (medianW_ret d v _ w.heap.size b367 m385 x378 x382 x385 _ (by first | assumption | (simp only [Array.size_setIfInBounds, swp_sz, siftDown_size]; assumption)) (by omega) hv (by omega) hs385 (by omega) (by omega) (by omega) (by omega)) ?_
   rintro _ w389 ⟨E390, x388, m388, rfl, hx388, hm388, hs388⟩
   have hs385_old := hs385
   have z_w389 := E390.size
   have hv := hv.keep E390 (fun k hk => .inr (by simp at hk; omega))
   have hb := below_step1 hb E390 hb.size (by omega)
   refine op_assign (ev_hit hN rfl) ?_
   refine reg_nil ?_
   refine hK373 _ _ ?_
   refine seq_any fun K391 hK391 => ?_
   refine one_reg ?_
   refine op_load1 (v := (Value.int .i64 ((m388 : Nat) : Int))) one3 (ev_hit hN rfl) (hs388.cell rfl) ?_
   refine reg_nil ?_
   refine hK391 _ _ ?_
   refine wp_block ?_
   refine seq_any fun K392 hK392 => ?_
   refine one_reg ?_
   refine op_eql (ev_hit hN rfl) rfl (fun c52 => ?_) (fun c52 => ?_)
   · -- 52T
    refine op_assign (ev_hit hN rfl) ?_
    refine reg_nil ?_
    refine hK392 _ _ ?_
    refine wp_cond_true (ev_hit hN rfl) ?_
    refine seq_any fun K393 hK393 => ?_
    refine one_reg ?_
    refine op_move (ev_hit hN rfl) ?_
    refine op_assign (ev_hit hN rfl) ?_
    refine op_assign rfl ?_
    refine reg_nil ?_
    refine hK393 _ _ ?_
    refine wp_ret (blk_ret ( ?_))
    refine ret2 rfl hd (ev_hit hN rfl) (ev_hit hN rfl) ⟨_, rfl, ?_⟩
    -- path 32T 34T 52T
    exact ⟨hb, x388, _, congrArg (fun q : Int => Value.tuple #[.int .i64 q, _]) (by omega), by omega, by omega⟩
   · -- 52F
    refine op_assign (ev_hit hN rfl) ?_
    refine reg_nil ?_
    refine hK392 _ _ ?_
    refine wp_cond_false (ev_hit hN rfl) ?_
    refine seq_any fun K394 hK394 => ?_
    refine one_reg ?_
    refine op_eql (ev_hit hN rfl) rfl (fun c55 => ?_) (fun c55 => ?_)
    · -- 55T
     refine op_assign (ev_hit hN rfl) ?_
     refine reg_nil ?_
     refine hK394 _ _ ?_
     refine wp_cond_true (ev_hit hN rfl) ?_
     refine seq_any fun K395 hK395 => ?_
     refine one_reg ?_
     refine op_move (ev_hit hN rfl) ?_
     refine op_assign (ev_hit hN rfl) ?_
     refine op_assign rfl ?_
     refine reg_nil ?_
     refine hK395 _ _ ?_
     refine wp_ret (blk_ret ( ?_))
     refine ret2 rfl hd (ev_hit hN rfl) (ev_hit hN rfl) ⟨_, rfl, ?_⟩
     -- path 32T 34T 52F 55T
     exact ⟨hb, x388, _, congrArg (fun q : Int => Value.tuple #[.int .i64 q, _]) (by omega), by omega, by omega⟩
    · -- 55F
     refine op_assign (ev_hit hN rfl) ?_
     refine reg_nil ?_
     refine hK394 _ _ ?_
     refine wp_cond_false (ev_hit hN rfl) ?_
     refine seq_any fun K396 hK396 => ?_
     refine one_reg ?_
     refine op_move (ev_hit hN rfl) ?_
     refine op_assign (ev_hit hN rfl) ?_
     refine op_assign rfl ?_
     refine reg_nil ?_
     refine hK396 _ _ ?_
     refine wp_ret (blk_ret ( ?_))
     refine ret2 rfl hd (ev_hit hN rfl) (ev_hit hN rfl) ⟨_, rfl, ?_⟩
     -- path 32T 34T 52F 55F
     exact ⟨hb, x388, _, congrArg (fun q : Int => Value.tuple #[.int .i64 q, _]) (by omega), by omega, by omega⟩
  · -- 34F
   refine reg_nil ?_
   refine hK376 _ _ ?_
   refine wp_cond_false (ev_hit hN rfl) ?_
   refine wp_skip ?_
   refine hK375 _ _ ?_
   refine one_reg ?_
   refine op_move (ev_base hN rfl s0) ?_
   refine op_move (ev_hit hN rfl) ?_
   refine op_move (ev_hit hN rfl) ?_
   refine op_move (ev_hit hN rfl) ?_
   refine op_fn (vs := [v, (Value.int .i64 (((a : Nat) : Int) + (((((b - a) / 4) : Nat) : Int) * 1))), (Value.int .i64 (((a : Nat) : Int) + (((((b - a) / 4) : Nat) : Int) * 2))), (Value.int .i64 (((a : Nat) : Int) + (((((b - a) / 4) : Nat) : Int) * 3))), (ptr b367 0)]) ok81 ⟨(ev_hit hN rfl), ⟨(ev_hit hN rfl), ⟨(ev_hit hN rfl), ⟨(ev_hit hN rfl), ⟨(ev_hit hN rfl), trivial⟩⟩⟩⟩⟩ (medianW_ret d v _ w.heap.size b367 0 (a + (((b - a) / 4) * 1)) (a + (((b - a) / 4) * 2)) (a + (((b - a) / 4) * 3)) _ (by first | assumption | (simp only [Array.size_setIfInBounds, swp_sz, siftDown_size]; assumption)) (by omega) hv (by omega) hB369 (by omega) (by omega) (by omega) (by omega)) ?_
   rintro _ w398 ⟨E399, x397, m397, rfl, hx397, hm397, hs397⟩
   have hB369_old := hB369
   have z_w398 := E399.size
   have hv := hv.keep E399 (fun k hk => .inr (by simp at hk; omega))
   have hb := below_step1 hb E399 hb.size (by omega)
   refine op_assign (ev_hit hN rfl) ?_
   refine reg_nil ?_
   refine hK373 _ _ ?_
   refine seq_any fun K400 hK400 => ?_
   refine one_reg ?_
   refine op_load1 (v := (Value.int .i64 ((m397 : Nat) : Int))) one3 (ev_hit hN rfl) (hs397.cell rfl) ?_
   refine reg_nil ?_
   refine hK400 _ _ ?_
   refine wp_block ?_
   refine seq_any fun K401 hK401 => ?_
   refine one_reg ?_
   refine op_eql (ev_hit hN rfl) rfl (fun c52 => ?_) (fun c52 => ?_)
   · -- 52T
    refine op_assign (ev_hit hN rfl) ?_
    refine reg_nil ?_
    refine hK401 _ _ ?_
    refine wp_cond_true (ev_hit hN rfl) ?_
    refine seq_any fun K402 hK402 => ?_
    refine one_reg ?_
    refine op_move (ev_hit hN rfl) ?_
    refine op_assign (ev_hit hN rfl) ?_
    refine op_assign rfl ?_
    refine reg_nil ?_
    refine hK402 _ _ ?_
    refine wp_ret (blk_ret ( ?_))
    refine ret2 rfl hd (ev_hit hN rfl) (ev_hit hN rfl) ⟨_, rfl, ?_⟩
    -- path 32T 34F 52T
    exact ⟨hb, x397, _, congrArg (fun q : Int => Value.tuple #[.int .i64 q, _]) (by omega), by omega, by omega⟩
   · -- 52F
    refine op_assign (ev_hit hN rfl) ?_
    refine reg_nil ?_
    refine hK401 _ _ ?_
    refine wp_cond_false (ev_hit hN rfl) ?_
    refine seq_any fun K403 hK403 => ?_
    refine one_reg ?_
    refine op_eql (ev_hit hN rfl) rfl (fun c55 => ?_) (fun c55 => ?_)
    · -- 55T
     refine op_assign (ev_hit hN rfl) ?_
     refine reg_nil ?_
     refine hK403 _ _ ?_
     refine wp_cond_true (ev_hit hN rfl) ?_
     refine seq_any fun K404 hK404 => ?_
     refine one_reg ?_
     refine op_move (ev_hit hN rfl) ?_
     refine op_assign (ev_hit hN rfl) ?_
     refine op_assign rfl ?_
     refine reg_nil ?_
     refine hK404 _ _ ?_
     refine wp_ret (blk_ret ( ?_))
     refine ret2 rfl hd (ev_hit hN rfl) (ev_hit hN rfl) ⟨_, rfl, ?_⟩
     -- path 32T 34F 52F 55T
     exact ⟨hb, x397, _, congrArg (fun q : Int => Value.tuple #[.int .i64 q, _]) (by omega), by omega, by omega⟩
    · -- 55F
     refine op_assign (ev_hit hN rfl) ?_
     refine reg_nil ?_
     refine hK403 _ _ ?_
     refine wp_cond_false (ev_hit hN rfl) ?_
     refine seq_any fun K405 hK405 => ?_
     refine one_reg ?_
     refine op_move (ev_hit hN rfl) ?_
     refine op_assign (ev_hit hN rfl) ?_
     refine op_assign rfl ?_
     refine reg_nil ?_
     refine hK405 _ _ ?_
     refine wp_ret (blk_ret ( ?_))
     refine ret2 rfl hd (ev_hit hN rfl) (ev_hit hN rfl) ⟨_, rfl, ?_⟩
     -- path 32T 34F 52F 55F
     exact ⟨hb, x397, _, congrArg (fun q : Int => Value.tuple #[.int .i64 q, _]) (by omega), by omega, by omega⟩
 · -- 32F
  refine reg_nil ?_
  refine hK374 _ _ ?_
  refine wp_cond_false (ev_hit hN rfl) ?_
  refine wp_skip ?_
  refine hK373 _ _ ?_
  refine seq_any fun K406 hK406 => ?_
  refine one_reg ?_
  refine op_load1 (v := (Value.int .i64 0)) one3 (ev_hit hN rfl) (hB369.cell rfl) ?_
  refine reg_nil ?_
  refine hK406 _ _ ?_
  refine wp_block ?_
  refine seq_any fun K407 hK407 => ?_
  refine one_reg ?_
  refine op_bin (v := .bool true) (ev_hit hN rfl) rfl (by rw [binOp_eql]; rfl) ?_
  refine op_assign (ev_hit hN rfl) ?_
  refine reg_nil ?_
  refine hK407 _ _ ?_
  refine wp_cond_true (ev_hit hN rfl) ?_
  refine seq_any fun K408 hK408 => ?_
  refine one_reg ?_
  refine op_move (ev_hit hN rfl) ?_
  refine op_assign (ev_hit hN rfl) ?_
  refine op_assign rfl ?_
  refine reg_nil ?_
  refine hK408 _ _ ?_
  refine wp_ret (blk_ret ( ?_))
  refine ret2 rfl hd (ev_hit hN rfl) (ev_hit hN rfl) ⟨_, rfl, ?_⟩
  -- path 32F
  exact ⟨hb, (a + (((b - a) / 4) * 2)), _, congrArg (fun q : Int => Value.tuple #[.int .i64 q, _]) (by omega), by omega, by omega⟩

end Go.Proofs.Ytpmnljffdofkeaa

/- Walks, written by a program: what each function of the translation hands back. -/
namespace Go.Proofs.Ytpmnljffdofkeaa
open Go.Gx Go.RowKit
attribute [local irreducible] wpList wpStill Code.wp Calls
open Go.Sort (insertionSort insOuter insInner swp siftDown heapSort heapBuild heapPop scanUp scanDown partition partLoop partitionEqual partEqLoop scanSorted partialIns bitsLen partialInsertionSort shiftDown shiftUp SortedIn reverseRange reverseLoop fixDown fixUp)
set_option maxHeartbeats 2000000 in
theorem partEqW_ret (d : Ar) (v : Value) (n base : Nat) (a b pv : Nat) (w : World) (hd : d.size = n) (hn : n ≤ 4000000000000000000) (O : Own w base 35 1 v n (d.toList.map u16v)) (hap : a ≤ pv) (hpb : pv < b) (hbn : b ≤ n) : Ret Try.prog 73 #[v, (Value.int .i64 ((a : Nat) : Int)), (Value.int .i64 ((b : Nat) : Int)), (Value.int .i64 ((pv : Nat) : Int))] w (fun v' w' => w.grownBy w' v.ownBlock ∧ v' = .int .i64 ((partitionEqual ltT d a b pv).1 : Int) ∧ Own w' base 35 1 v n ((partitionEqual ltT d a b pv).2.toList.map u16v)) := by
 have hb := grown_refl w v.ownBlock
 refine enter (N := 84) Try.func73 rfl rfl (by simp) fun a0 hN hd hA => ?_
 have s0 : a0.tmps.getD 0 undef = v := hA 0 (by simp)
 have s1 : a0.tmps.getD 1 undef = (Value.int .i64 ((a : Nat) : Int)) := hA 1 (by simp)
 have s2 : a0.tmps.getD 2 undef = (Value.int .i64 ((b : Nat) : Int)) := hA 2 (by simp)
 have s3 : a0.tmps.getD 3 undef = (Value.int .i64 ((pv : Nat) : Int)) := hA 3 (by simp)
 clear hA
 refine seq_any fun K111 hK111 => ?_
 refine one_reg ?_
 refine op_assign rfl ?_
 refine reg_nil ?_
 refine hK111 _ _ ?_
 refine seq_any fun K112 hK112 => ?_
 refine reg_mid (e := 35) (sz := 1) (base := base) (n := n) (v := v) (Φ := phiL [(fun uz _ => uz = v), (fun uz _ => uz = (Value.int .i64 ((a : Nat) : Int))), (fun uz _ => uz = v), (fun uz _ => uz = (Value.int .i64 ((pv : Nat) : Int))), (fun uz _ => uz = v), (fun uz _ => uz = (Value.int .i64 ((pv : Nat) : Int))), (fun uz _ => ∃ bz oz, uz = ptr bz oz ∧ AtV v pv bz oz), (fun uz _ => uz = (Value.int .u16 (d[pv]!.toNat : Int))), (fun uz _ => uz = v), (fun uz _ => uz = (Value.int .i64 ((a : Nat) : Int))), (fun uz _ => ∃ bz oz, uz = ptr bz oz ∧ AtV v a bz oz), (fun uz _ => uz = (Value.int .u16 (d[a]!.toNat : Int))), (fun uz _ => ∃ bz oz, uz = ptr bz oz ∧ AtV v a bz oz), (fun _ _ => True), (fun uz _ => ∃ bz oz, uz = ptr bz oz ∧ AtV v pv bz oz), (fun _ _ => True)]) [13, 15] [(d.toList.map u16v), ((d.setIfInBounds a d[pv]!).toList.map u16v), (((d.setIfInBounds a d[pv]!).setIfInBounds pv d[a]!).toList.map u16v)] mixed (by kernel_rfl) (by kernel_rfl) (by kernel_rfl) (by kernel_rfl) hN O (StL.get (StL.eq (StL.eq (StL.eq (StL.eq (StL.eq (StL.eq (StL.at (StL.eq (StL.eq (StL.eq (StL.at (StL.eq (StL.at (StL.cons (fun _ _ _ _ h => h) (StL.at (StL.cons (fun _ _ _ _ h => h) (StL.nil _)))))))))))))))))) (ObRs.get (ObRs.cons ?_ (ObRs.cons ?_ (ObRs.cons ?_ (ObRs.cons ?_ (ObRs.cons ?_ (ObRs.cons ?_ (ObRs.cons ?_ (ObRs.cons ?_ (ObRs.cons ?_ (ObRs.cons ?_ (ObRs.cons ?_ (ObRs.cons ?_ (ObRs.cons ?_ (ObRs.pass rfl (ObRs.cons ?_ (ObRs.pass rfl (ObRs.nil)))))))))))))))))) (ObWs.get (ObWs.cons ?_ (ObWs.cons ?_ (ObWs.nil)))) ?_
 ·
  intro aA wA cA hNA hRA hckA hOA hbsA hdpA
  have qA_0 := (hbsA 0 rfl).trans (sl_base hN rfl s0)
  clear hbsA hdpA
  refine op_move (ev_base hNA rfl qA_0) ?_
  exact obR_end rfl rfl (grown_refl _ _)
 ·
  intro aA wA cA hNA hRA hckA hOA hbsA hdpA
  have qA_1 := (hbsA 1 rfl).trans (sl_base hN rfl s1)
  clear hbsA hdpA
  refine op_move (ev_base hNA rfl qA_1) ?_
  exact obR_end rfl rfl (grown_refl _ _)
 ·
  intro aA wA cA hNA hRA hckA hOA hbsA hdpA
  have qA_0 := (hbsA 0 rfl).trans (sl_base hN rfl s0)
  clear hbsA hdpA
  refine op_move (ev_base hNA rfl qA_0) ?_
  exact obR_end rfl rfl (grown_refl _ _)
 ·
  intro aA wA cA hNA hRA hckA hOA hbsA hdpA
  have qA_3 := (hbsA 3 rfl).trans (sl_base hN rfl s3)
  clear hbsA hdpA
  refine op_move (ev_base hNA rfl qA_3) ?_
  exact obR_end rfl rfl (grown_refl _ _)
 ·
  intro aA wA cA hNA hRA hckA hOA hbsA hdpA
  have qA_0 := (hbsA 0 rfl).trans (sl_base hN rfl s0)
  clear hbsA hdpA
  refine op_move (ev_base hNA rfl qA_0) ?_
  exact obR_end rfl rfl (grown_refl _ _)
 ·
  intro aA wA cA hNA hRA hckA hOA hbsA hdpA
  have qA_3 := (hbsA 3 rfl).trans (sl_base hN rfl s3)
  clear hbsA hdpA
  refine op_move (ev_base hNA rfl qA_3) ?_
  exact obR_end rfl rfl (grown_refl _ _)
 ·
  intro aA wA cA hNA hRA hckA hOA hbsA hdpA
  have qA_15 : Sl aA 15 v := hdpA 4 _ 15 (by kernel_rfl) rfl rfl
  have qA_16 : Sl aA 16 (Value.int .i64 ((pv : Nat) : Int)) := hdpA 5 _ 16 (by kernel_rfl) rfl rfl
  clear hbsA hdpA
  refine op_index_own (i := pv) slt22 (ev_base hNA rfl qA_15) hOA (ev_base hNA rfl qA_16) (by omega) (by omega) ?_
  intro b_ o_ _ hA_
  exact obR_end rfl ⟨b_, o_, rfl, by simpa using hA_⟩ (grown_refl _ _)
 ·
  intro aA wA cA hNA hRA hckA hOA hbsA hdpA
  obtain ⟨bA_17, oA_17, qA_17, hAA_17⟩ := hdpA 6 _ 17 (by kernel_rfl) rfl rfl
  clear hbsA hdpA
  obtain rfl : cA = 0 := Nat.le_zero.1 (hckA 0 13 rfl (by kernel_rfl))
  have hOA : Own wA base 35 1 v n (d.toList.map u16v) := hOA
  refine op_load1 (v := (Value.int .u16 (d[pv]!.toNat : Int))) one35 (ev_base hNA rfl qA_17) (by have := hOA.cellAt hAA_17 0 _ (el_at (i := pv) (by first | omega | (simp only [Array.size_setIfInBounds, swp_sz, siftDown_size]; omega))); simpa using this) ?_
  exact obR_end rfl rfl (grown_refl _ _)
 ·
  intro aA wA cA hNA hRA hckA hOA hbsA hdpA
  have qA_0 := (hbsA 0 rfl).trans (sl_base hN rfl s0)
  clear hbsA hdpA
  refine op_move (ev_base hNA rfl qA_0) ?_
  exact obR_end rfl rfl (grown_refl _ _)
 ·
  intro aA wA cA hNA hRA hckA hOA hbsA hdpA
  have qA_1 := (hbsA 1 rfl).trans (sl_base hN rfl s1)
  clear hbsA hdpA
  refine op_move (ev_base hNA rfl qA_1) ?_
  exact obR_end rfl rfl (grown_refl _ _)
 ·
  intro aA wA cA hNA hRA hckA hOA hbsA hdpA
  have qA_19 : Sl aA 19 v := hdpA 8 _ 19 (by kernel_rfl) rfl rfl
  have qA_20 : Sl aA 20 (Value.int .i64 ((a : Nat) : Int)) := hdpA 9 _ 20 (by kernel_rfl) rfl rfl
  clear hbsA hdpA
  refine op_index_own (i := a) slt22 (ev_base hNA rfl qA_19) hOA (ev_base hNA rfl qA_20) (by omega) (by omega) ?_
  intro b_ o_ _ hA_
  exact obR_end rfl ⟨b_, o_, rfl, by simpa using hA_⟩ (grown_refl _ _)
 ·
  intro aA wA cA hNA hRA hckA hOA hbsA hdpA
  obtain ⟨bA_21, oA_21, qA_21, hAA_21⟩ := hdpA 10 _ 21 (by kernel_rfl) rfl rfl
  clear hbsA hdpA
  obtain rfl : cA = 0 := Nat.le_zero.1 (hckA 0 13 rfl (by kernel_rfl))
  have hOA : Own wA base 35 1 v n (d.toList.map u16v) := hOA
  refine op_load1 (v := (Value.int .u16 (d[a]!.toNat : Int))) one35 (ev_base hNA rfl qA_21) (by have := hOA.cellAt hAA_21 0 _ (el_at (i := a) (by first | omega | (simp only [Array.size_setIfInBounds, swp_sz, siftDown_size]; omega))); simpa using this) ?_
  exact obR_end rfl rfl (grown_refl _ _)
 ·
  intro aA wA cA hNA hRA hckA hOA hbsA hdpA
  have qA_11 : Sl aA 11 v := hdpA 0 _ 11 (by kernel_rfl) rfl rfl
  have qA_12 : Sl aA 12 (Value.int .i64 ((a : Nat) : Int)) := hdpA 1 _ 12 (by kernel_rfl) rfl rfl
  clear hbsA hdpA
  refine op_index_own (i := a) slt22 (ev_base hNA rfl qA_11) hOA (ev_base hNA rfl qA_12) (by omega) (by omega) ?_
  intro b_ o_ _ hA_
  exact obR_end rfl ⟨b_, o_, rfl, by simpa using hA_⟩ (grown_refl _ _)
 ·
  intro aA wA cA hNA hRA hckA hOA hbsA hdpA
  have qA_13 : Sl aA 13 v := hdpA 2 _ 13 (by kernel_rfl) rfl rfl
  have qA_14 : Sl aA 14 (Value.int .i64 ((pv : Nat) : Int)) := hdpA 3 _ 14 (by kernel_rfl) rfl rfl
  clear hbsA hdpA
  refine op_index_own (i := pv) slt22 (ev_base hNA rfl qA_13) hOA (ev_base hNA rfl qA_14) (by omega) (by omega) ?_
  intro b_ o_ _ hA_
  exact obR_end rfl ⟨b_, o_, rfl, by simpa using hA_⟩ (grown_refl _ _)
 ·
  intro o_ ho_; obtain rfl := Option.some.inj ho_; intro aA wA hNA hRA hbsA hdpA hOA
  obtain ⟨bA_23, oA_23, qA_23, hAA_23⟩ := hdpA 12 _ 23 (by kernel_rfl) rfl rfl
  have qA_18 : Sl aA 18 (Value.int .u16 (d[pv]!.toNat : Int)) := hdpA 7 _ 18 (by kernel_rfl) rfl rfl
  clear hbsA hdpA
  have hOA : Own wA base 35 1 v n (d.toList.map u16v) := hOA
  refine op_store_own (vs := [(Value.int .u16 (d[pv]!.toNat : Int))]) size35 (ev_base hNA rfl qA_23) (ev_base hNA rfl qA_18) rfl rfl rfl hOA hAA_23 (by have := hOA.1; simp at this ⊢; omega) ?_
  intro w_ hO_ E_
  exact obW_end rfl (hO_.cast rfl (set_arr (by first | omega | (simp only [Array.size_setIfInBounds, swp_sz, siftDown_size]; omega)))) E_
 ·
  intro o_ ho_; obtain rfl := Option.some.inj ho_; intro aA wA hNA hRA hbsA hdpA hOA
  obtain ⟨bA_24, oA_24, qA_24, hAA_24⟩ := hdpA 14 _ 24 (by kernel_rfl) rfl rfl
  have qA_22 : Sl aA 22 (Value.int .u16 (d[a]!.toNat : Int)) := hdpA 11 _ 22 (by kernel_rfl) rfl rfl
  clear hbsA hdpA
  have hOA : Own wA base 35 1 v n ((d.setIfInBounds a d[pv]!).toList.map u16v) := hOA
  refine op_store_own (vs := [(Value.int .u16 (d[a]!.toNat : Int))]) size35 (ev_base hNA rfl qA_24) (ev_base hNA rfl qA_22) rfl rfl rfl hOA hAA_24 (by have := hOA.1; simp at this ⊢; omega) ?_
  intro w_ hO_ E_
  exact obW_end rfl (hO_.cast rfl (set_arr (by first | omega | (simp only [Array.size_setIfInBounds, swp_sz, siftDown_size]; omega)))) E_
 ·
  intro a113 w113 hN113 hd113 hbs113 hph113 hO113 E113
  have hd113 := hd113.trans hd
  have s113_0 := (hbs113 0 rfl).trans (sl_base hN rfl s0)
  have s113_1 := (hbs113 1 rfl).trans (sl_base hN rfl s1)
  have s113_2 := (hbs113 2 rfl).trans (sl_base hN rfl s2)
  have s113_8 := (hbs113 8 rfl).trans (sl_hit hN rfl)
  clear hbs113 hph113
  have hO113 : Own w113 base 35 1 v n (((d.setIfInBounds a d[pv]!).setIfInBounds pv d[a]!).toList.map u16v) := hO113
  have z_w113 := E113.size
  have hb := grow_stepX hb E113 rfl
  refine hK112 _ _ ?_
  refine seq_any fun K114 hK114 => ?_
  refine one_reg ?_
  refine op_move (ev_base hN113 rfl s113_1) ?_
  refine op_add (ev_hit hN113 rfl) rfl (add64 (by omega)) ?_
  refine op_move (ev_base hN113 rfl s113_2) ?_
  refine op_sub (r := ((b - 1 : Nat) : Int)) (ev_hit hN113 rfl) rfl (by rw [IntKind.wrap_i64]; omega) ?_
  refine op_assign (ev_hit hN113 rfl) ?_
  refine op_assign (ev_hit hN113 rfl) ?_
  refine reg_nil ?_
  refine hK114 _ _ ?_
  refine seq_any fun K115 hK115 => ?_
  refine wp_block ?_
  refine loop_m (fun mz_ az_ w' => ∃ (ii jj : Nat) (dk : Ar), mz_ = (jj + 2 - ii) ∧ (az_.tmps.getD 0 undef = v) ∧ (az_.tmps.getD 1 undef = (Value.int .i64 ((a : Nat) : Int))) ∧ (az_.tmps.getD 8 undef = (Value.int .i64 0)) ∧ (az_.tmps.getD 9 undef = (Value.int .i64 ((ii : Nat) : Int))) ∧ (az_.tmps.getD 10 undef = (Value.int .i64 ((jj : Nat) : Int))) ∧ (dk.size = n) ∧ (a < ii ∧ ii ≤ jj + 1 ∧ jj < b) ∧ (partEqLoop ltT a (a + 1) (b - 1) (swp d a pv) = partEqLoop ltT a ii jj dk) ∧ (w.grownBy w' v.ownBlock) ∧ (w113.heap.size ≤ w'.heap.size) ∧ (Own w' base 35 1 v n (dk.toList.map u16v))) _ hN113 hd113 ⟨(a + 1), (b - 1), _, rfl, (sl_base hN113 rfl s113_0), (sl_base hN113 rfl s113_1), (sl_base hN113 rfl s113_8), (sl_hit hN113 rfl).trans (congrArg (Value.int .i64) (by omega)), (sl_hit hN113 rfl).trans (congrArg (Value.int .i64) (by omega)), (by first | assumption | (simp only [Array.size_setIfInBounds, swp_sz, siftDown_size]; assumption)), (by omega), rfl, hb, (Nat.le_refl _), hO113⟩ ?_
  rintro _ a116 w116 hN116 hd116 ⟨ii, jj, dk, rfl, s116_0, s116_1, s116_8, s116_9, s116_10, hdk, hr1, hs, hb, zl_w116, hO117⟩
  have z_w116 := hb.size
  refine wp_block ?_
  refine seq_any fun K118 hK118 => ?_
  refine wp_block ?_
  refine loop_m (fun mz_ az_ w' => ∃ (i2 : Nat), mz_ = (jj + 1 - i2) ∧ (az_.tmps.getD 0 undef = v) ∧ (az_.tmps.getD 1 undef = (Value.int .i64 ((a : Nat) : Int))) ∧ (az_.tmps.getD 8 undef = (Value.int .i64 0)) ∧ (az_.tmps.getD 10 undef = (Value.int .i64 ((jj : Nat) : Int))) ∧ (az_.tmps.getD 9 undef = (Value.int .i64 ((i2 : Nat) : Int))) ∧ (ii ≤ i2 ∧ i2 ≤ jj + 1) ∧ (scanUp (fun x => !ltT dk[a]! x) dk jj ii = scanUp (fun x => !ltT dk[a]! x) dk jj i2) ∧ (w.grownBy w' v.ownBlock) ∧ (w116.heap.size ≤ w'.heap.size) ∧ (Own w' base 35 1 v n (dk.toList.map u16v))) _ hN116 hd116 ⟨ii, rfl, (sl_base hN116 rfl s116_0), (sl_base hN116 rfl s116_1), (sl_base hN116 rfl s116_8), (sl_base hN116 rfl s116_10), (sl_base hN116 rfl s116_9).trans (congrArg (Value.int .i64) (by omega)), (by omega), rfl, hb, (Nat.le_refl _), hO117⟩ ?_
  rintro _ a119 w119 hN119 hd119 ⟨i2, rfl, s119_0, s119_1, s119_8, s119_10, s119_9, hr2, hu1, hb, zl_w119, hO117⟩
  have z_w119 := hb.size
  refine seq_any fun K120 hK120 => ?_
  refine seq_any fun K121 hK121 => ?_
  refine reg_still mixed (by kernel_rfl) ?_
  intro w123 E122
  have z_w123 := E122.size
  have hO117 := hO117.keep0 E122
  have hb := grow_step0 hb E122
  refine st_step rfl (fun _ h9 => op_move (ev_base hN119 rfl s119_9) h9) ?_
  refine st_step rfl (fun _ h9 => op_move (ev_base hN119 rfl s119_10) h9) ?_
  by_cases g31 : ((i2 : Nat) : Int) ≤ ((jj : Nat) : Int)
  · -- 31T
   refine st_step rfl (fun _ h9 => op_cmp (b := true) (ev_hit hN119 rfl) (ev_hit hN119 rfl) (b_leq (decide_eq_true g31)) h9) ?_
   refine st_step rfl (fun _ h9 => op_move (ev_hit hN119 rfl) h9) ?_
   refine st_g_true (j := 3) (dj := 32) (b := true) rfl rfl rfl (ev_hit hN119 rfl) ?_
   refine st_step rfl (fun _ h9 => op_move (ev_base hN119 rfl s119_0) h9) ?_
   refine st_g_true (j := 3) (dj := 32) (b := true) rfl rfl rfl (ev_hit hN119 rfl) ?_
   refine st_step rfl (fun _ h9 => op_move (ev_base hN119 rfl s119_1) h9) ?_
   refine st_g_true (j := 3) (dj := 32) (b := true) rfl rfl rfl (ev_hit hN119 rfl) ?_
   refine st_index_rd slt22 (ev_hit hN119 rfl) hO117.rdw (ev_hit hN119 rfl) (by omega) (by omega) ?_
   intro b124 o125 h0b124 h1b124 hc126
   refine st_g_true (j := 3) (dj := 32) (b := true) rfl rfl rfl (ev_hit hN119 rfl) ?_
   refine st_step rfl (fun _ h9 => op_load1 (v := (Value.int .u16 (dk[a]!.toNat : Int))) one35 (ev_hit hN119 rfl) (by have := hc126 0 (Value.int .u16 (dk[a]!.toNat : Int)) (by decide) (el_arr (i := a) (by omega) (by first | omega | (simp only [Array.size_setIfInBounds, swp_sz, siftDown_size]; omega))); simpa using this) h9) ?_
   refine st_g_true (j := 3) (dj := 32) (b := true) rfl rfl rfl (ev_hit hN119 rfl) ?_
   refine st_step rfl (fun _ h9 => op_move (ev_base hN119 rfl s119_0) h9) ?_
   refine st_g_true (j := 3) (dj := 32) (b := true) rfl rfl rfl (ev_hit hN119 rfl) ?_
   refine st_step rfl (fun _ h9 => op_move (ev_base hN119 rfl s119_9) h9) ?_
   refine st_g_true (j := 3) (dj := 32) (b := true) rfl rfl rfl (ev_hit hN119 rfl) ?_
   refine st_index_rd slt22 (ev_hit hN119 rfl) hO117.rdw (ev_hit hN119 rfl) (by omega) (by omega) ?_
   intro b127 o128 h0b127 h1b127 hc129
   refine st_g_true (j := 3) (dj := 32) (b := true) rfl rfl rfl (ev_hit hN119 rfl) ?_
   refine st_step rfl (fun _ h9 => op_load1 (v := (Value.int .u16 (dk[i2]!.toNat : Int))) one35 (ev_hit hN119 rfl) (by have := hc129 0 (Value.int .u16 (dk[i2]!.toNat : Int)) (by decide) (el_arr (i := i2) (by omega) (by first | omega | (simp only [Array.size_setIfInBounds, swp_sz, siftDown_size]; omega))); simpa using this) h9) ?_
   refine st_g_true (j := 3) (dj := 32) (b := true) rfl rfl rfl (ev_hit hN119 rfl) ?_
   refine st_fn (vs := [(Value.int .u16 (dk[a]!.toNat : Int)), (Value.int .u16 (dk[i2]!.toNat : Int))]) ok72 (⟨(ev_hit hN119 rfl), ⟨(ev_hit hN119 rfl), trivial⟩⟩) (Less16_ret dk[a]! dk[i2]! _) ?_
   refine st_g_true (j := 3) (dj := 32) (b := true) rfl rfl rfl (ev_hit hN119 rfl) ?_
   refine st_step rfl (fun _ h9 => op_not (ev_hit hN119 rfl) h9) ?_
   refine st_step rfl (fun _ h9 => op_pick_t (ev_hit hN119 rfl) (ev_hit hN119 rfl) h9) ?_
   refine st_nil ?_
   refine hK121 _ _ ?_
   refine wp_cond_split (ev_hit hN119 rfl) (fun c43 => ?_) (fun c43 => ?_)
   · -- 43T
    refine wp_skip ?_
    refine hK120 _ _ ?_
    refine wp_block ?_
    refine one_reg ?_
    refine op_move (ev_base hN119 rfl s119_9) ?_
    refine op_add (ev_hit hN119 rfl) rfl (add64 (by omega)) ?_
    refine op_assign (ev_hit hN119 rfl) ?_
    refine reg_nil ?_
    refine blk_normal ?_
    -- round 31T 43T
    exact loop_next _ hN119 hd119 ⟨(i2 + 1), rfl, (sl_base hN119 rfl s119_0), (sl_base hN119 rfl s119_1), (sl_base hN119 rfl s119_8), (sl_base hN119 rfl s119_10), (sl_hit hN119 rfl).trans (congrArg (Value.int .i64) (by omega)), (by omega), (hu1.trans (scanUp_go (by omega) c43)), hb, (by omega), hO117⟩ (by omega)
   · -- 43F
    refine wp_exit (then_exit (then_exit (blk_hit ?_)))
    refine hK118 _ _ ?_
    refine seq_any fun K130 hK130 => ?_
    refine wp_block ?_
    have hu2 : scanUp (fun x => !ltT dk[a]! x) dk jj ii = i2 := hu1.trans (scanUp_stop (.inr c43))
    refine loop_m (fun mz_ az_ w' => ∃ (j2 : Nat), mz_ = (j2 + 1) ∧ (az_.tmps.getD 0 undef = v) ∧ (az_.tmps.getD 1 undef = (Value.int .i64 ((a : Nat) : Int))) ∧ (az_.tmps.getD 8 undef = (Value.int .i64 0)) ∧ (az_.tmps.getD 9 undef = (Value.int .i64 ((i2 : Nat) : Int))) ∧ (az_.tmps.getD 10 undef = (Value.int .i64 ((j2 : Nat) : Int))) ∧ (j2 ≤ jj ∧ i2 ≤ j2 + 1) ∧ (scanDown (fun x => ltT dk[a]! x) dk i2 jj = scanDown (fun x => ltT dk[a]! x) dk i2 j2) ∧ (w.grownBy w' v.ownBlock) ∧ (w123.heap.size ≤ w'.heap.size) ∧ (Own w' base 35 1 v n (dk.toList.map u16v))) _ hN119 hd119 ⟨jj, rfl, (sl_base hN119 rfl s119_0), (sl_base hN119 rfl s119_1), (sl_base hN119 rfl s119_8), (sl_base hN119 rfl s119_9), (sl_base hN119 rfl s119_10).trans (congrArg (Value.int .i64) (by omega)), (by omega), rfl, hb, (Nat.le_refl _), hO117⟩ ?_
    rintro _ a131 w131 hN131 hd131 ⟨j2, rfl, s131_0, s131_1, s131_8, s131_9, s131_10, hr3, hv1, hb, zl_w131, hO117⟩
    have z_w131 := hb.size
    refine seq_any fun K132 hK132 => ?_
    refine seq_any fun K133 hK133 => ?_
    refine reg_still mixed (by kernel_rfl) ?_
    intro w135 E134
    have z_w135 := E134.size
    have hO117 := hO117.keep0 E134
    have hb := grow_step0 hb E134
    refine st_step rfl (fun _ h9 => op_move (ev_base hN131 rfl s131_9) h9) ?_
    refine st_step rfl (fun _ h9 => op_move (ev_base hN131 rfl s131_10) h9) ?_
    by_cases g48 : ((i2 : Nat) : Int) ≤ ((j2 : Nat) : Int)
    · -- 48T
     refine st_step rfl (fun _ h9 => op_cmp (b := true) (ev_hit hN131 rfl) (ev_hit hN131 rfl) (b_leq (decide_eq_true g48)) h9) ?_
     refine st_step rfl (fun _ h9 => op_move (ev_hit hN131 rfl) h9) ?_
     refine st_g_true (j := 3) (dj := 49) (b := true) rfl rfl rfl (ev_hit hN131 rfl) ?_
     refine st_step rfl (fun _ h9 => op_move (ev_base hN131 rfl s131_0) h9) ?_
     refine st_g_true (j := 3) (dj := 49) (b := true) rfl rfl rfl (ev_hit hN131 rfl) ?_
     refine st_step rfl (fun _ h9 => op_move (ev_base hN131 rfl s131_1) h9) ?_
     refine st_g_true (j := 3) (dj := 49) (b := true) rfl rfl rfl (ev_hit hN131 rfl) ?_
     refine st_index_rd slt22 (ev_hit hN131 rfl) hO117.rdw (ev_hit hN131 rfl) (by omega) (by omega) ?_
     intro b136 o137 h0b136 h1b136 hc138
     refine st_g_true (j := 3) (dj := 49) (b := true) rfl rfl rfl (ev_hit hN131 rfl) ?_
     refine st_step rfl (fun _ h9 => op_load1 (v := (Value.int .u16 (dk[a]!.toNat : Int))) one35 (ev_hit hN131 rfl) (by have := hc138 0 (Value.int .u16 (dk[a]!.toNat : Int)) (by decide) (el_arr (i := a) (by omega) (by first | omega | (simp only [Array.size_setIfInBounds, swp_sz, siftDown_size]; omega))); simpa using this) h9) ?_
     refine st_g_true (j := 3) (dj := 49) (b := true) rfl rfl rfl (ev_hit hN131 rfl) ?_
     refine st_step rfl (fun _ h9 => op_move (ev_base hN131 rfl s131_0) h9) ?_
     refine st_g_true (j := 3) (dj := 49) (b := true) rfl rfl rfl (ev_hit hN131 rfl) ?_
     refine st_step rfl (fun _ h9 => op_move (ev_base hN131 rfl s131_10) h9) ?_
     refine st_g_true (j := 3) (dj := 49) (b := true) rfl rfl rfl (ev_hit hN131 rfl) ?_
     refine st_index_rd slt22 (ev_hit hN131 rfl) hO117.rdw (ev_hit hN131 rfl) (by omega) (by omega) ?_
     intro b139 o140 h0b139 h1b139 hc141
     refine st_g_true (j := 3) (dj := 49) (b := true) rfl rfl rfl (ev_hit hN131 rfl) ?_
     refine st_step rfl (fun _ h9 => op_load1 (v := (Value.int .u16 (dk[j2]!.toNat : Int))) one35 (ev_hit hN131 rfl) (by have := hc141 0 (Value.int .u16 (dk[j2]!.toNat : Int)) (by decide) (el_arr (i := j2) (by omega) (by first | omega | (simp only [Array.size_setIfInBounds, swp_sz, siftDown_size]; omega))); simpa using this) h9) ?_
     refine st_g_true (j := 3) (dj := 49) (b := true) rfl rfl rfl (ev_hit hN131 rfl) ?_
     refine st_fn (vs := [(Value.int .u16 (dk[a]!.toNat : Int)), (Value.int .u16 (dk[j2]!.toNat : Int))]) ok72 (⟨(ev_hit hN131 rfl), ⟨(ev_hit hN131 rfl), trivial⟩⟩) (Less16_ret dk[a]! dk[j2]! _) ?_
     refine st_step rfl (fun _ h9 => op_pick_t (ev_hit hN131 rfl) (ev_hit hN131 rfl) h9) ?_
     refine st_nil ?_
     refine hK133 _ _ ?_
     refine wp_cond_split (ev_hit hN131 rfl) (fun c59 => ?_) (fun c59 => ?_)
     · -- 59T
      refine wp_skip ?_
      refine hK132 _ _ ?_
      refine wp_block ?_
      refine one_reg ?_
      refine op_move (ev_base hN131 rfl s131_10) ?_
      refine op_sub (ev_hit hN131 rfl) rfl (sub64 (by omega)) ?_
      refine op_assign (ev_hit hN131 rfl) ?_
      refine reg_nil ?_
      refine blk_normal ?_
      -- round 31T 43F 48T 59T
      exact loop_next _ hN131 hd131 ⟨(j2 - 1), rfl, (sl_base hN131 rfl s131_0), (sl_base hN131 rfl s131_1), (sl_base hN131 rfl s131_8), (sl_base hN131 rfl s131_9), (sl_hit hN131 rfl).trans (congrArg (Value.int .i64) (by omega)), (by omega), (hv1.trans (scanDown_go (by omega) (by omega) c59)), hb, (by omega), hO117⟩ (by omega)
     · -- 59F
      refine wp_exit (then_exit (then_exit (blk_hit ?_)))
      refine hK130 _ _ ?_
      refine seq_any fun K142 hK142 => ?_
      refine seq_any fun K143 hK143 => ?_
      refine one_reg ?_
      refine op_move (ev_base hN131 rfl s131_9) ?_
      refine op_move (ev_base hN131 rfl s131_10) ?_
      refine op_gtr (ev_hit hN131 rfl) (ev_hit hN131 rfl) (fun c64 => ?_) (fun c64 => ?_)
      · -- 64T
       refine reg_nil ?_
       refine hK143 _ _ ?_
       refine wp_cond_true (ev_hit hN131 rfl) ?_
       refine wp_exit (then_exit (blk_miss (by decide) (then_exit (blk_hit ?_))))
       refine hK115 _ _ ?_
       refine seq_any fun K144 hK144 => ?_
       refine one_reg ?_
       refine op_move (ev_base hN131 rfl s131_9) ?_
       refine op_assign (ev_hit hN131 rfl) ?_
       refine reg_nil ?_
       refine hK144 _ _ ?_
       refine wp_ret ?_
       refine ret1 rfl hd131 (ev_hit hN131 rfl) ⟨_, rfl, ?_⟩
       -- path 31T 43F 48T 59F 64T
       have hv2 : scanDown (fun x => ltT dk[a]! x) dk i2 jj = j2 := hv1.trans (scanDown_stop (.inr c59))
       have hq : partitionEqual ltT d a b pv = (i2, dk) := hs.trans (pe_stop hu2 hv2 (by omega))
       exact ⟨hb, by first | (rw [hq]; done) | (rw [hq]; rfl), hO117.cast rfl (by rw [hq])⟩
      · -- 64F
       refine reg_nil ?_
       refine hK143 _ _ ?_
       refine wp_cond_false (ev_hit hN131 rfl) ?_
       refine wp_skip ?_
       refine hK142 _ _ ?_
       refine seq_any fun K145 hK145 => ?_
       refine reg_mid (e := 35) (sz := 1) (base := base) (n := n) (v := v) (Φ := phiL [(fun uz _ => uz = v), (fun uz _ => uz = (Value.int .i64 ((i2 : Nat) : Int))), (fun uz _ => uz = v), (fun uz _ => uz = (Value.int .i64 ((j2 : Nat) : Int))), (fun uz _ => uz = v), (fun uz _ => uz = (Value.int .i64 ((j2 : Nat) : Int))), (fun uz _ => ∃ bz oz, uz = ptr bz oz ∧ AtV v j2 bz oz), (fun uz _ => uz = (Value.int .u16 (dk[j2]!.toNat : Int))), (fun uz _ => uz = v), (fun uz _ => uz = (Value.int .i64 ((i2 : Nat) : Int))), (fun uz _ => ∃ bz oz, uz = ptr bz oz ∧ AtV v i2 bz oz), (fun uz _ => uz = (Value.int .u16 (dk[i2]!.toNat : Int))), (fun uz _ => ∃ bz oz, uz = ptr bz oz ∧ AtV v i2 bz oz), (fun _ _ => True), (fun uz _ => ∃ bz oz, uz = ptr bz oz ∧ AtV v j2 bz oz), (fun _ _ => True)]) [13, 15] [(dk.toList.map u16v), ((dk.setIfInBounds i2 dk[j2]!).toList.map u16v), (((dk.setIfInBounds i2 dk[j2]!).setIfInBounds j2 dk[i2]!).toList.map u16v)] mixed (by kernel_rfl) (by kernel_rfl) (by kernel_rfl) (by kernel_rfl) hN131 hO117 (StL.get (StL.eq (StL.eq (StL.eq (StL.eq (StL.eq (StL.eq (StL.at (StL.eq (StL.eq (StL.eq (StL.at (StL.eq (StL.at (StL.cons (fun _ _ _ _ h => h) (StL.at (StL.cons (fun _ _ _ _ h => h) (StL.nil _)))))))))))))))))) (ObRs.get (ObRs.cons ?_ (ObRs.cons ?_ (ObRs.cons ?_ (ObRs.cons ?_ (ObRs.cons ?_ (ObRs.cons ?_ (ObRs.cons ?_ (ObRs.cons ?_ (ObRs.cons ?_ (ObRs.cons ?_ (ObRs.cons ?_ (ObRs.cons ?_ (ObRs.cons ?_ (ObRs.pass rfl (ObRs.cons ?_ (ObRs.pass rfl (ObRs.nil)))))))))))))))))) (ObWs.get (ObWs.cons ?_ (ObWs.cons ?_ (ObWs.nil)))) ?_
       ·
        intro aA wA cA hNA hRA hckA hOA hbsA hdpA
        have qA_0 := (hbsA 0 rfl).trans (sl_base hN131 rfl s131_0)
        clear hbsA hdpA
        refine op_move (ev_base hNA rfl qA_0) ?_
        exact obR_end rfl rfl (grown_refl _ _)
       ·
        intro aA wA cA hNA hRA hckA hOA hbsA hdpA
        have qA_9 := (hbsA 9 rfl).trans (sl_base hN131 rfl s131_9)
        clear hbsA hdpA
        refine op_move (ev_base hNA rfl qA_9) ?_
        exact obR_end rfl rfl (grown_refl _ _)
       ·
        intro aA wA cA hNA hRA hckA hOA hbsA hdpA
        have qA_0 := (hbsA 0 rfl).trans (sl_base hN131 rfl s131_0)
        clear hbsA hdpA
        refine op_move (ev_base hNA rfl qA_0) ?_
        exact obR_end rfl rfl (grown_refl _ _)
       ·
        intro aA wA cA hNA hRA hckA hOA hbsA hdpA
        have qA_10 := (hbsA 10 rfl).trans (sl_base hN131 rfl s131_10)
        clear hbsA hdpA
        refine op_move (ev_base hNA rfl qA_10) ?_
        exact obR_end rfl rfl (grown_refl _ _)
       ·
        intro aA wA cA hNA hRA hckA hOA hbsA hdpA
        have qA_0 := (hbsA 0 rfl).trans (sl_base hN131 rfl s131_0)
        clear hbsA hdpA
        refine op_move (ev_base hNA rfl qA_0) ?_
        exact obR_end rfl rfl (grown_refl _ _)
       ·
        intro aA wA cA hNA hRA hckA hOA hbsA hdpA
        have qA_10 := (hbsA 10 rfl).trans (sl_base hN131 rfl s131_10)
        clear hbsA hdpA
        refine op_move (ev_base hNA rfl qA_10) ?_
        exact obR_end rfl rfl (grown_refl _ _)
       ·
        intro aA wA cA hNA hRA hckA hOA hbsA hdpA
        have qA_69 : Sl aA 69 v := hdpA 4 _ 69 (by kernel_rfl) rfl rfl
        have qA_70 : Sl aA 70 (Value.int .i64 ((j2 : Nat) : Int)) := hdpA 5 _ 70 (by kernel_rfl) rfl rfl
        clear hbsA hdpA
        refine op_index_own (i := j2) slt22 (ev_base hNA rfl qA_69) hOA (ev_base hNA rfl qA_70) (by omega) (by omega) ?_
        intro b_ o_ _ hA_
        exact obR_end rfl ⟨b_, o_, rfl, by simpa using hA_⟩ (grown_refl _ _)
       ·
        intro aA wA cA hNA hRA hckA hOA hbsA hdpA
        obtain ⟨bA_71, oA_71, qA_71, hAA_71⟩ := hdpA 6 _ 71 (by kernel_rfl) rfl rfl
        clear hbsA hdpA
        obtain rfl : cA = 0 := Nat.le_zero.1 (hckA 0 13 rfl (by kernel_rfl))
        have hOA : Own wA base 35 1 v n (dk.toList.map u16v) := hOA
        refine op_load1 (v := (Value.int .u16 (dk[j2]!.toNat : Int))) one35 (ev_base hNA rfl qA_71) (by have := hOA.cellAt hAA_71 0 _ (el_at (i := j2) (by first | omega | (simp only [Array.size_setIfInBounds, swp_sz, siftDown_size]; omega))); simpa using this) ?_
        exact obR_end rfl rfl (grown_refl _ _)
       ·
        intro aA wA cA hNA hRA hckA hOA hbsA hdpA
        have qA_0 := (hbsA 0 rfl).trans (sl_base hN131 rfl s131_0)
        clear hbsA hdpA
        refine op_move (ev_base hNA rfl qA_0) ?_
        exact obR_end rfl rfl (grown_refl _ _)
       ·
        intro aA wA cA hNA hRA hckA hOA hbsA hdpA
        have qA_9 := (hbsA 9 rfl).trans (sl_base hN131 rfl s131_9)
        clear hbsA hdpA
        refine op_move (ev_base hNA rfl qA_9) ?_
        exact obR_end rfl rfl (grown_refl _ _)
       ·
        intro aA wA cA hNA hRA hckA hOA hbsA hdpA
        have qA_73 : Sl aA 73 v := hdpA 8 _ 73 (by kernel_rfl) rfl rfl
        have qA_74 : Sl aA 74 (Value.int .i64 ((i2 : Nat) : Int)) := hdpA 9 _ 74 (by kernel_rfl) rfl rfl
        clear hbsA hdpA
        refine op_index_own (i := i2) slt22 (ev_base hNA rfl qA_73) hOA (ev_base hNA rfl qA_74) (by omega) (by omega) ?_
        intro b_ o_ _ hA_
        exact obR_end rfl ⟨b_, o_, rfl, by simpa using hA_⟩ (grown_refl _ _)
       ·
        intro aA wA cA hNA hRA hckA hOA hbsA hdpA
        obtain ⟨bA_75, oA_75, qA_75, hAA_75⟩ := hdpA 10 _ 75 (by kernel_rfl) rfl rfl
        clear hbsA hdpA
        obtain rfl : cA = 0 := Nat.le_zero.1 (hckA 0 13 rfl (by kernel_rfl))
        have hOA : Own wA base 35 1 v n (dk.toList.map u16v) := hOA
        refine op_load1 (v := (Value.int .u16 (dk[i2]!.toNat : Int))) one35 (ev_base hNA rfl qA_75) (by have := hOA.cellAt hAA_75 0 _ (el_at (i := i2) (by first | omega | (simp only [Array.size_setIfInBounds, swp_sz, siftDown_size]; omega))); simpa using this) ?_
        exact obR_end rfl rfl (grown_refl _ _)
       ·
        intro aA wA cA hNA hRA hckA hOA hbsA hdpA
        have qA_65 : Sl aA 65 v := hdpA 0 _ 65 (by kernel_rfl) rfl rfl
        have qA_66 : Sl aA 66 (Value.int .i64 ((i2 : Nat) : Int)) := hdpA 1 _ 66 (by kernel_rfl) rfl rfl
        clear hbsA hdpA
        refine op_index_own (i := i2) slt22 (ev_base hNA rfl qA_65) hOA (ev_base hNA rfl qA_66) (by omega) (by omega) ?_
        intro b_ o_ _ hA_
        exact obR_end rfl ⟨b_, o_, rfl, by simpa using hA_⟩ (grown_refl _ _)
       ·
        intro aA wA cA hNA hRA hckA hOA hbsA hdpA
        have qA_67 : Sl aA 67 v := hdpA 2 _ 67 (by kernel_rfl) rfl rfl
        have qA_68 : Sl aA 68 (Value.int .i64 ((j2 : Nat) : Int)) := hdpA 3 _ 68 (by kernel_rfl) rfl rfl
        clear hbsA hdpA
        refine op_index_own (i := j2) slt22 (ev_base hNA rfl qA_67) hOA (ev_base hNA rfl qA_68) (by omega) (by omega) ?_
        intro b_ o_ _ hA_
        exact obR_end rfl ⟨b_, o_, rfl, by simpa using hA_⟩ (grown_refl _ _)
       ·
        intro o_ ho_; obtain rfl := Option.some.inj ho_; intro aA wA hNA hRA hbsA hdpA hOA
        obtain ⟨bA_77, oA_77, qA_77, hAA_77⟩ := hdpA 12 _ 77 (by kernel_rfl) rfl rfl
        have qA_72 : Sl aA 72 (Value.int .u16 (dk[j2]!.toNat : Int)) := hdpA 7 _ 72 (by kernel_rfl) rfl rfl
        clear hbsA hdpA
        have hOA : Own wA base 35 1 v n (dk.toList.map u16v) := hOA
        refine op_store_own (vs := [(Value.int .u16 (dk[j2]!.toNat : Int))]) size35 (ev_base hNA rfl qA_77) (ev_base hNA rfl qA_72) rfl rfl rfl hOA hAA_77 (by have := hOA.1; simp at this ⊢; omega) ?_
        intro w_ hO_ E_
        exact obW_end rfl (hO_.cast rfl (set_arr (by first | omega | (simp only [Array.size_setIfInBounds, swp_sz, siftDown_size]; omega)))) E_
       ·
        intro o_ ho_; obtain rfl := Option.some.inj ho_; intro aA wA hNA hRA hbsA hdpA hOA
        obtain ⟨bA_78, oA_78, qA_78, hAA_78⟩ := hdpA 14 _ 78 (by kernel_rfl) rfl rfl
        have qA_76 : Sl aA 76 (Value.int .u16 (dk[i2]!.toNat : Int)) := hdpA 11 _ 76 (by kernel_rfl) rfl rfl
        clear hbsA hdpA
        have hOA : Own wA base 35 1 v n ((dk.setIfInBounds i2 dk[j2]!).toList.map u16v) := hOA
        refine op_store_own (vs := [(Value.int .u16 (dk[i2]!.toNat : Int))]) size35 (ev_base hNA rfl qA_78) (ev_base hNA rfl qA_76) rfl rfl rfl hOA hAA_78 (by have := hOA.1; simp at this ⊢; omega) ?_
        intro w_ hO_ E_
        exact obW_end rfl (hO_.cast rfl (set_arr (by first | omega | (simp only [Array.size_setIfInBounds, swp_sz, siftDown_size]; omega)))) E_
       ·
        intro a146 w146 hN146 hd146 hbs146 hph146 hO146 E146
        have hd146 := hd146.trans hd131
        have s146_0 := (hbs146 0 rfl).trans (sl_base hN131 rfl s131_0)
        have s146_1 := (hbs146 1 rfl).trans (sl_base hN131 rfl s131_1)
        have s146_8 := (hbs146 8 rfl).trans (sl_base hN131 rfl s131_8)
        have s146_9 := (hbs146 9 rfl).trans (sl_base hN131 rfl s131_9)
        have s146_10 := (hbs146 10 rfl).trans (sl_base hN131 rfl s131_10)
        clear hbs146 hph146
        have hO146 : Own w146 base 35 1 v n (((dk.setIfInBounds i2 dk[j2]!).setIfInBounds j2 dk[i2]!).toList.map u16v) := hO146
        have z_w146 := E146.size
        have hb := grow_stepX hb E146 rfl
        refine hK145 _ _ ?_
        refine seq_any fun K147 hK147 => ?_
        refine one_reg ?_
        refine op_move (ev_base hN146 rfl s146_9) ?_
        refine op_add (ev_hit hN146 rfl) rfl (add64 (by omega)) ?_
        refine op_assign (ev_hit hN146 rfl) ?_
        refine reg_nil ?_
        refine hK147 _ _ ?_
        refine one_reg ?_
        refine op_move (ev_base hN146 rfl s146_10) ?_
        refine op_sub (ev_hit hN146 rfl) rfl (sub64 (by omega)) ?_
        refine op_assign (ev_hit hN146 rfl) ?_
        refine reg_nil ?_
        refine blk_normal ?_
        -- round 31T 43F 48T 59F 64F
        have hv2 : scanDown (fun x => ltT dk[a]! x) dk i2 jj = j2 := hv1.trans (scanDown_stop (.inr c59))
        have hne : i2 ≠ j2 := by first | omega | (intro hh; subst hh; rw [c59] at c43; simp at c43)
        exact loop_next _ hN146 hd146 ⟨(i2 + 1), (j2 - 1), _, rfl, (sl_base hN146 rfl s146_0), (sl_base hN146 rfl s146_1), (sl_base hN146 rfl s146_8), (sl_hit hN146 rfl).trans (congrArg (Value.int .i64) (by omega)), (sl_hit hN146 rfl).trans (congrArg (Value.int .i64) (by omega)), (by first | assumption | (simp only [Array.size_setIfInBounds, swp_sz, siftDown_size]; assumption)), (by omega), (hs.trans (pe_go hu2 hv2 (by omega))), hb, (by omega), hO146⟩ (by omega)
    · -- 48F
     refine st_step rfl (fun _ h9 => op_cmp (b := false) (ev_hit hN131 rfl) (ev_hit hN131 rfl) (b_leq (decide_eq_false g48)) h9) ?_
     refine st_step rfl (fun _ h9 => op_move (ev_hit hN131 rfl) h9) ?_
     refine st_g_false (j := 3) (dj := 49) (b := true) rfl rfl rfl (ev_hit hN131 rfl) rfl rfl ?_
     refine st_g_false (j := 3) (dj := 49) (b := true) rfl rfl rfl (ev_hit hN131 rfl) rfl rfl ?_
     refine st_g_false (j := 3) (dj := 49) (b := true) rfl rfl rfl (ev_hit hN131 rfl) rfl rfl ?_
     refine st_g_false (j := 3) (dj := 49) (b := true) rfl rfl rfl (ev_hit hN131 rfl) rfl rfl ?_
     refine st_g_false (j := 3) (dj := 49) (b := true) rfl rfl rfl (ev_hit hN131 rfl) rfl rfl ?_
     refine st_g_false (j := 3) (dj := 49) (b := true) rfl rfl rfl (ev_hit hN131 rfl) rfl rfl ?_
     refine st_g_false (j := 3) (dj := 49) (b := true) rfl rfl rfl (ev_hit hN131 rfl) rfl rfl ?_
     refine st_g_false (j := 3) (dj := 49) (b := true) rfl rfl rfl (ev_hit hN131 rfl) rfl rfl ?_
     refine st_g_false (j := 3) (dj := 49) (b := true) rfl rfl rfl (ev_hit hN131 rfl) rfl rfl ?_
     refine st_step rfl (fun _ h9 => op_pick_f (ev_hit hN131 rfl) rfl h9) ?_
     refine st_nil ?_
     refine hK133 _ _ ?_
     refine wp_cond_false (ev_hit hN131 rfl) ?_
     refine wp_exit (then_exit (then_exit (blk_hit ?_)))
     refine hK130 _ _ ?_
     refine seq_any fun K148 hK148 => ?_
     refine seq_any fun K149 hK149 => ?_
     refine one_reg ?_
     refine op_move (ev_base hN131 rfl s131_9) ?_
     refine op_move (ev_base hN131 rfl s131_10) ?_
     refine op_gtr (ev_hit hN131 rfl) (ev_hit hN131 rfl) (fun c64 => ?_) (fun c64 => ?_)
     · -- 64T
      refine reg_nil ?_
      refine hK149 _ _ ?_
      refine wp_cond_true (ev_hit hN131 rfl) ?_
      refine wp_exit (then_exit (blk_miss (by decide) (then_exit (blk_hit ?_))))
      refine hK115 _ _ ?_
      refine seq_any fun K150 hK150 => ?_
      refine one_reg ?_
      refine op_move (ev_base hN131 rfl s131_9) ?_
      refine op_assign (ev_hit hN131 rfl) ?_
      refine reg_nil ?_
      refine hK150 _ _ ?_
      refine wp_ret ?_
      refine ret1 rfl hd131 (ev_hit hN131 rfl) ⟨_, rfl, ?_⟩
      -- path 31T 43F 48F 64T
      have hv2 : scanDown (fun x => ltT dk[a]! x) dk i2 jj = j2 := hv1.trans (scanDown_stop (.inl (by omega)))
      have hq : partitionEqual ltT d a b pv = (i2, dk) := hs.trans (pe_stop hu2 hv2 (by omega))
      exact ⟨hb, by first | (rw [hq]; done) | (rw [hq]; rfl), hO117.cast rfl (by rw [hq])⟩
     · -- 64F
      refine reg_nil ?_
      refine hK149 _ _ ?_
      refine wp_cond_false (ev_hit hN131 rfl) ?_
      refine wp_skip ?_
      refine hK148 _ _ ?_
      refine seq_any fun K151 hK151 => ?_
      refine reg_mid (e := 35) (sz := 1) (base := base) (n := n) (v := v) (Φ := phiL [(fun uz _ => uz = v), (fun uz _ => uz = (Value.int .i64 ((i2 : Nat) : Int))), (fun uz _ => uz = v), (fun uz _ => uz = (Value.int .i64 ((j2 : Nat) : Int))), (fun uz _ => uz = v), (fun uz _ => uz = (Value.int .i64 ((j2 : Nat) : Int))), (fun uz _ => ∃ bz oz, uz = ptr bz oz ∧ AtV v j2 bz oz), (fun uz _ => uz = (Value.int .u16 (dk[j2]!.toNat : Int))), (fun uz _ => uz = v), (fun uz _ => uz = (Value.int .i64 ((i2 : Nat) : Int))), (fun uz _ => ∃ bz oz, uz = ptr bz oz ∧ AtV v i2 bz oz), (fun uz _ => uz = (Value.int .u16 (dk[i2]!.toNat : Int))), (fun uz _ => ∃ bz oz, uz = ptr bz oz ∧ AtV v i2 bz oz), (fun _ _ => True), (fun uz _ => ∃ bz oz, uz = ptr bz oz ∧ AtV v j2 bz oz), (fun _ _ => True)]) [13, 15] [(dk.toList.map u16v), ((dk.setIfInBounds i2 dk[j2]!).toList.map u16v), (((dk.setIfInBounds i2 dk[j2]!).setIfInBounds j2 dk[i2]!).toList.map u16v)] mixed (by kernel_rfl) (by kernel_rfl) (by kernel_rfl) (by kernel_rfl) hN131 hO117 (StL.get (StL.eq (StL.eq (StL.eq (StL.eq (StL.eq (StL.eq (StL.at (StL.eq (StL.eq (StL.eq (StL.at (StL.eq (StL.at (StL.cons (fun _ _ _ _ h => h) (StL.at (StL.cons (fun _ _ _ _ h => h) (StL.nil _)))))))))))))))))) (ObRs.get (ObRs.cons ?_ (ObRs.cons ?_ (ObRs.cons ?_ (ObRs.cons ?_ (ObRs.cons ?_ (ObRs.cons ?_ (ObRs.cons ?_ (ObRs.cons ?_ (ObRs.cons ?_ (ObRs.cons ?_ (ObRs.cons ?_ (ObRs.cons ?_ (ObRs.cons ?_ (ObRs.pass rfl (ObRs.cons ?_ (ObRs.pass rfl (ObRs.nil)))))))))))))))))) (ObWs.get (ObWs.cons ?_ (ObWs.cons ?_ (ObWs.nil)))) ?_
      ·
       intro aA wA cA hNA hRA hckA hOA hbsA hdpA
       have qA_0 := (hbsA 0 rfl).trans (sl_base hN131 rfl s131_0)
       clear hbsA hdpA
       refine op_move (ev_base hNA rfl qA_0) ?_
       exact obR_end rfl rfl (grown_refl _ _)
      ·
       intro aA wA cA hNA hRA hckA hOA hbsA hdpA
       have qA_9 := (hbsA 9 rfl).trans (sl_base hN131 rfl s131_9)
       clear hbsA hdpA
       refine op_move (ev_base hNA rfl qA_9) ?_
       exact obR_end rfl rfl (grown_refl _ _)
      ·
       intro aA wA cA hNA hRA hckA hOA hbsA hdpA
       have qA_0 := (hbsA 0 rfl).trans (sl_base hN131 rfl s131_0)
       clear hbsA hdpA
       refine op_move (ev_base hNA rfl qA_0) ?_
       exact obR_end rfl rfl (grown_refl _ _)
      ·
       intro aA wA cA hNA hRA hckA hOA hbsA hdpA
       have qA_10 := (hbsA 10 rfl).trans (sl_base hN131 rfl s131_10)
       clear hbsA hdpA
       refine op_move (ev_base hNA rfl qA_10) ?_
       exact obR_end rfl rfl (grown_refl _ _)
      ·
       intro aA wA cA hNA hRA hckA hOA hbsA hdpA
       have qA_0 := (hbsA 0 rfl).trans (sl_base hN131 rfl s131_0)
       clear hbsA hdpA
       refine op_move (ev_base hNA rfl qA_0) ?_
       exact obR_end rfl rfl (grown_refl _ _)
      ·
       intro aA wA cA hNA hRA hckA hOA hbsA hdpA
       have qA_10 := (hbsA 10 rfl).trans (sl_base hN131 rfl s131_10)
       clear hbsA hdpA
       refine op_move (ev_base hNA rfl qA_10) ?_
       exact obR_end rfl rfl (grown_refl _ _)
      ·
       intro aA wA cA hNA hRA hckA hOA hbsA hdpA
       have qA_69 : Sl aA 69 v := hdpA 4 _ 69 (by kernel_rfl) rfl rfl
       have qA_70 : Sl aA 70 (Value.int .i64 ((j2 : Nat) : Int)) := hdpA 5 _ 70 (by kernel_rfl) rfl rfl
       clear hbsA hdpA
       refine op_index_own (i := j2) slt22 (ev_base hNA rfl qA_69) hOA (ev_base hNA rfl qA_70) (by omega) (by omega) ?_
       intro b_ o_ _ hA_
       exact obR_end rfl ⟨b_, o_, rfl, by simpa using hA_⟩ (grown_refl _ _)
      ·
       intro aA wA cA hNA hRA hckA hOA hbsA hdpA
       obtain ⟨bA_71, oA_71, qA_71, hAA_71⟩ := hdpA 6 _ 71 (by kernel_rfl) rfl rfl
       clear hbsA hdpA
       obtain rfl : cA = 0 := Nat.le_zero.1 (hckA 0 13 rfl (by kernel_rfl))
       have hOA : Own wA base 35 1 v n (dk.toList.map u16v) := hOA
       refine op_load1 (v := (Value.int .u16 (dk[j2]!.toNat : Int))) one35 (ev_base hNA rfl qA_71) (by have := hOA.cellAt hAA_71 0 _ (el_at (i := j2) (by first | omega | (simp only [Array.size_setIfInBounds, swp_sz, siftDown_size]; omega))); simpa using this) ?_
       exact obR_end rfl rfl (grown_refl _ _)
      ·
       intro aA wA cA hNA hRA hckA hOA hbsA hdpA
       have qA_0 := (hbsA 0 rfl).trans (sl_base hN131 rfl s131_0)
       clear hbsA hdpA
       refine op_move (ev_base hNA rfl qA_0) ?_
       exact obR_end rfl rfl (grown_refl _ _)
      ·
       intro aA wA cA hNA hRA hckA hOA hbsA hdpA
       have qA_9 := (hbsA 9 rfl).trans (sl_base hN131 rfl s131_9)
       clear hbsA hdpA
       refine op_move (ev_base hNA rfl qA_9) ?_
       exact obR_end rfl rfl (grown_refl _ _)
      ·
       intro aA wA cA hNA hRA hckA hOA hbsA hdpA
       have qA_73 : Sl aA 73 v := hdpA 8 _ 73 (by kernel_rfl) rfl rfl
       have qA_74 : Sl aA 74 (Value.int .i64 ((i2 : Nat) : Int)) := hdpA 9 _ 74 (by kernel_rfl) rfl rfl
       clear hbsA hdpA
       refine op_index_own (i := i2) slt22 (ev_base hNA rfl qA_73) hOA (ev_base hNA rfl qA_74) (by omega) (by omega) ?_
       intro b_ o_ _ hA_
       exact obR_end rfl ⟨b_, o_, rfl, by simpa using hA_⟩ (grown_refl _ _)
      ·
       intro aA wA cA hNA hRA hckA hOA hbsA hdpA
       obtain ⟨bA_75, oA_75, qA_75, hAA_75⟩ := hdpA 10 _ 75 (by kernel_rfl) rfl rfl
       clear hbsA hdpA
       obtain rfl : cA = 0 := Nat.le_zero.1 (hckA 0 13 rfl (by kernel_rfl))
       have hOA : Own wA base 35 1 v n (dk.toList.map u16v) := hOA
       refine op_load1 (v := (Value.int .u16 (dk[i2]!.toNat : Int))) one35 (ev_base hNA rfl qA_75) (by have := hOA.cellAt hAA_75 0 _ (el_at (i := i2) (by first | omega | (simp only [Array.size_setIfInBounds, swp_sz, siftDown_size]; omega))); simpa using this) ?_
       exact obR_end rfl rfl (grown_refl _ _)
      ·
       intro aA wA cA hNA hRA hckA hOA hbsA hdpA
       have qA_65 : Sl aA 65 v := hdpA 0 _ 65 (by kernel_rfl) rfl rfl
       have qA_66 : Sl aA 66 (Value.int .i64 ((i2 : Nat) : Int)) := hdpA 1 _ 66 (by kernel_rfl) rfl rfl
       clear hbsA hdpA
       refine op_index_own (i := i2) slt22 (ev_base hNA rfl qA_65) hOA (ev_base hNA rfl qA_66) (by omega) (by omega) ?_
       intro b_ o_ _ hA_
       exact obR_end rfl ⟨b_, o_, rfl, by simpa using hA_⟩ (grown_refl _ _)
      ·
       intro aA wA cA hNA hRA hckA hOA hbsA hdpA
       have qA_67 : Sl aA 67 v := hdpA 2 _ 67 (by kernel_rfl) rfl rfl
       have qA_68 : Sl aA 68 (Value.int .i64 ((j2 : Nat) : Int)) := hdpA 3 _ 68 (by kernel_rfl) rfl rfl
       clear hbsA hdpA
       refine op_index_own (i := j2) slt22 (ev_base hNA rfl qA_67) hOA (ev_base hNA rfl qA_68) (by omega) (by omega) ?_
       intro b_ o_ _ hA_
       exact obR_end rfl ⟨b_, o_, rfl, by simpa using hA_⟩ (grown_refl _ _)
      ·
       intro o_ ho_; obtain rfl := Option.some.inj ho_; intro aA wA hNA hRA hbsA hdpA hOA
       obtain ⟨bA_77, oA_77, qA_77, hAA_77⟩ := hdpA 12 _ 77 (by kernel_rfl) rfl rfl
       have qA_72 : Sl aA 72 (Value.int .u16 (dk[j2]!.toNat : Int)) := hdpA 7 _ 72 (by kernel_rfl) rfl rfl
       clear hbsA hdpA
       have hOA : Own wA base 35 1 v n (dk.toList.map u16v) := hOA
       refine op_store_own (vs := [(Value.int .u16 (dk[j2]!.toNat : Int))]) size35 (ev_base hNA rfl qA_77) (ev_base hNA rfl qA_72) rfl rfl rfl hOA hAA_77 (by have := hOA.1; simp at this ⊢; omega) ?_
       intro w_ hO_ E_
       exact obW_end rfl (hO_.cast rfl (set_arr (by first | omega | (simp only [Array.size_setIfInBounds, swp_sz, siftDown_size]; omega)))) E_
      ·
       intro o_ ho_; obtain rfl := Option.some.inj ho_; intro aA wA hNA hRA hbsA hdpA hOA
       obtain ⟨bA_78, oA_78, qA_78, hAA_78⟩ := hdpA 14 _ 78 (by kernel_rfl) rfl rfl
       have qA_76 : Sl aA 76 (Value.int .u16 (dk[i2]!.toNat : Int)) := hdpA 11 _ 76 (by kernel_rfl) rfl rfl
       clear hbsA hdpA
       have hOA : Own wA base 35 1 v n ((dk.setIfInBounds i2 dk[j2]!).toList.map u16v) := hOA
       refine op_store_own (vs := [(Value.int .u16 (dk[i2]!.toNat : Int))]) size35 (ev_base hNA rfl qA_78) (ev_base hNA rfl qA_76) rfl rfl rfl hOA hAA_78 (by have := hOA.1; simp at this ⊢; omega) ?_
       intro w_ hO_ E_
       exact obW_end rfl (hO_.cast rfl (set_arr (by first | omega | (simp only [Array.size_setIfInBounds, swp_sz, siftDown_size]; omega)))) E_
      ·
       intro a152 w152 hN152 hd152 hbs152 hph152 hO152 E152
       have hd152 := hd152.trans hd131
       have s152_0 := (hbs152 0 rfl).trans (sl_base hN131 rfl s131_0)
       have s152_1 := (hbs152 1 rfl).trans (sl_base hN131 rfl s131_1)
       have s152_8 := (hbs152 8 rfl).trans (sl_base hN131 rfl s131_8)
       have s152_9 := (hbs152 9 rfl).trans (sl_base hN131 rfl s131_9)
       have s152_10 := (hbs152 10 rfl).trans (sl_base hN131 rfl s131_10)
       clear hbs152 hph152
       have hO152 : Own w152 base 35 1 v n (((dk.setIfInBounds i2 dk[j2]!).setIfInBounds j2 dk[i2]!).toList.map u16v) := hO152
       have z_w152 := E152.size
       have hb := grow_stepX hb E152 rfl
       refine hK151 _ _ ?_
       refine seq_any fun K153 hK153 => ?_
       refine one_reg ?_
       refine op_move (ev_base hN152 rfl s152_9) ?_
       refine op_add (ev_hit hN152 rfl) rfl (add64 (by omega)) ?_
       refine op_assign (ev_hit hN152 rfl) ?_
       refine reg_nil ?_
       refine hK153 _ _ ?_
       refine one_reg ?_
       refine op_move (ev_base hN152 rfl s152_10) ?_
       refine op_sub (ev_hit hN152 rfl) rfl (sub64 (by omega)) ?_
       refine op_assign (ev_hit hN152 rfl) ?_
       refine reg_nil ?_
       refine blk_normal ?_
       -- round 31T 43F 48F 64F
       have hv2 : scanDown (fun x => ltT dk[a]! x) dk i2 jj = j2 := hv1.trans (scanDown_stop (.inl (by omega)))
       have hne : i2 ≠ j2 := by first | omega | (intro hh; subst hh; rw [c59] at c43; simp at c43)
       exact loop_next _ hN152 hd152 ⟨(i2 + 1), (j2 - 1), _, rfl, (sl_base hN152 rfl s152_0), (sl_base hN152 rfl s152_1), (sl_base hN152 rfl s152_8), (sl_hit hN152 rfl).trans (congrArg (Value.int .i64) (by omega)), (sl_hit hN152 rfl).trans (congrArg (Value.int .i64) (by omega)), (by first | assumption | (simp only [Array.size_setIfInBounds, swp_sz, siftDown_size]; assumption)), (by omega), (hs.trans (pe_go hu2 hv2 (by omega))), hb, (by omega), hO152⟩ (by omega)
  · -- 31F
   refine st_step rfl (fun _ h9 => op_cmp (b := false) (ev_hit hN119 rfl) (ev_hit hN119 rfl) (b_leq (decide_eq_false g31)) h9) ?_
   refine st_step rfl (fun _ h9 => op_move (ev_hit hN119 rfl) h9) ?_
   refine st_g_false (j := 3) (dj := 32) (b := true) rfl rfl rfl (ev_hit hN119 rfl) rfl rfl ?_
   refine st_g_false (j := 3) (dj := 32) (b := true) rfl rfl rfl (ev_hit hN119 rfl) rfl rfl ?_
   refine st_g_false (j := 3) (dj := 32) (b := true) rfl rfl rfl (ev_hit hN119 rfl) rfl rfl ?_
   refine st_g_false (j := 3) (dj := 32) (b := true) rfl rfl rfl (ev_hit hN119 rfl) rfl rfl ?_
   refine st_g_false (j := 3) (dj := 32) (b := true) rfl rfl rfl (ev_hit hN119 rfl) rfl rfl ?_
   refine st_g_false (j := 3) (dj := 32) (b := true) rfl rfl rfl (ev_hit hN119 rfl) rfl rfl ?_
   refine st_g_false (j := 3) (dj := 32) (b := true) rfl rfl rfl (ev_hit hN119 rfl) rfl rfl ?_
   refine st_g_false (j := 3) (dj := 32) (b := true) rfl rfl rfl (ev_hit hN119 rfl) rfl rfl ?_
   refine st_g_false (j := 3) (dj := 32) (b := true) rfl rfl rfl (ev_hit hN119 rfl) rfl rfl ?_
   refine st_g_false (j := 3) (dj := 32) (b := true) rfl rfl rfl (ev_hit hN119 rfl) rfl rfl ?_
   refine st_step rfl (fun _ h9 => op_pick_f (ev_hit hN119 rfl) rfl h9) ?_
   refine st_nil ?_
   refine hK121 _ _ ?_
   refine wp_cond_false (ev_hit hN119 rfl) ?_
   refine wp_exit (then_exit (then_exit (blk_hit ?_)))
   refine hK118 _ _ ?_
   refine seq_any fun K154 hK154 => ?_
   refine wp_block ?_
   have hu2 : scanUp (fun x => !ltT dk[a]! x) dk jj ii = i2 := hu1.trans (scanUp_stop (.inl (by omega)))
   refine loop_m (fun mz_ az_ w' => ∃ (j2 : Nat), mz_ = (j2 + 1) ∧ (az_.tmps.getD 0 undef = v) ∧ (az_.tmps.getD 1 undef = (Value.int .i64 ((a : Nat) : Int))) ∧ (az_.tmps.getD 8 undef = (Value.int .i64 0)) ∧ (az_.tmps.getD 9 undef = (Value.int .i64 ((i2 : Nat) : Int))) ∧ (az_.tmps.getD 10 undef = (Value.int .i64 ((j2 : Nat) : Int))) ∧ (j2 ≤ jj ∧ i2 ≤ j2 + 1) ∧ (scanDown (fun x => ltT dk[a]! x) dk i2 jj = scanDown (fun x => ltT dk[a]! x) dk i2 j2) ∧ (w.grownBy w' v.ownBlock) ∧ (w123.heap.size ≤ w'.heap.size) ∧ (Own w' base 35 1 v n (dk.toList.map u16v))) _ hN119 hd119 ⟨jj, rfl, (sl_base hN119 rfl s119_0), (sl_base hN119 rfl s119_1), (sl_base hN119 rfl s119_8), (sl_base hN119 rfl s119_9), (sl_base hN119 rfl s119_10).trans (congrArg (Value.int .i64) (by omega)), (by omega), rfl, hb, (Nat.le_refl _), hO117⟩ ?_
   rintro _ a155 w155 hN155 hd155 ⟨j2, rfl, s155_0, s155_1, s155_8, s155_9, s155_10, hr3, hv1, hb, zl_w155, hO117⟩
   have z_w155 := hb.size
   refine seq_any fun K156 hK156 => ?_
   refine seq_any fun K157 hK157 => ?_
   refine reg_still mixed (by kernel_rfl) ?_
   intro w159 E158
   have z_w159 := E158.size
   have hO117 := hO117.keep0 E158
   have hb := grow_step0 hb E158
   refine st_step rfl (fun _ h9 => op_move (ev_base hN155 rfl s155_9) h9) ?_
   refine st_step rfl (fun _ h9 => op_move (ev_base hN155 rfl s155_10) h9) ?_
   by_cases g48 : ((i2 : Nat) : Int) ≤ ((j2 : Nat) : Int)
   · -- 48T
    refine st_step rfl (fun _ h9 => op_cmp (b := true) (ev_hit hN155 rfl) (ev_hit hN155 rfl) (b_leq (decide_eq_true g48)) h9) ?_
    refine st_step rfl (fun _ h9 => op_move (ev_hit hN155 rfl) h9) ?_
    refine st_g_true (j := 3) (dj := 49) (b := true) rfl rfl rfl (ev_hit hN155 rfl) ?_
    refine st_step rfl (fun _ h9 => op_move (ev_base hN155 rfl s155_0) h9) ?_
    refine st_g_true (j := 3) (dj := 49) (b := true) rfl rfl rfl (ev_hit hN155 rfl) ?_
    refine st_step rfl (fun _ h9 => op_move (ev_base hN155 rfl s155_1) h9) ?_
    refine st_g_true (j := 3) (dj := 49) (b := true) rfl rfl rfl (ev_hit hN155 rfl) ?_
    refine st_index_rd slt22 (ev_hit hN155 rfl) hO117.rdw (ev_hit hN155 rfl) (by omega) (by omega) ?_
    intro b160 o161 h0b160 h1b160 hc162
    refine st_g_true (j := 3) (dj := 49) (b := true) rfl rfl rfl (ev_hit hN155 rfl) ?_
    refine st_step rfl (fun _ h9 => op_load1 (v := (Value.int .u16 (dk[a]!.toNat : Int))) one35 (ev_hit hN155 rfl) (by have := hc162 0 (Value.int .u16 (dk[a]!.toNat : Int)) (by decide) (el_arr (i := a) (by omega) (by first | omega | (simp only [Array.size_setIfInBounds, swp_sz, siftDown_size]; omega))); simpa using this) h9) ?_
    refine st_g_true (j := 3) (dj := 49) (b := true) rfl rfl rfl (ev_hit hN155 rfl) ?_
    refine st_step rfl (fun _ h9 => op_move (ev_base hN155 rfl s155_0) h9) ?_
    refine st_g_true (j := 3) (dj := 49) (b := true) rfl rfl rfl (ev_hit hN155 rfl) ?_
    refine st_step rfl (fun _ h9 => op_move (ev_base hN155 rfl s155_10) h9) ?_
    refine st_g_true (j := 3) (dj := 49) (b := true) rfl rfl rfl (ev_hit hN155 rfl) ?_
    refine st_index_rd slt22 (ev_hit hN155 rfl) hO117.rdw (ev_hit hN155 rfl) (by omega) (by omega) ?_
    intro b163 o164 h0b163 h1b163 hc165
    refine st_g_true (j := 3) (dj := 49) (b := true) rfl rfl rfl (ev_hit hN155 rfl) ?_
    refine st_step rfl (fun _ h9 => op_load1 (v := (Value.int .u16 (dk[j2]!.toNat : Int))) one35 (ev_hit hN155 rfl) (by have := hc165 0 (Value.int .u16 (dk[j2]!.toNat : Int)) (by decide) (el_arr (i := j2) (by omega) (by first | omega | (simp only [Array.size_setIfInBounds, swp_sz, siftDown_size]; omega))); simpa using this) h9) ?_
    refine st_g_true (j := 3) (dj := 49) (b := true) rfl rfl rfl (ev_hit hN155 rfl) ?_
    refine st_fn (vs := [(Value.int .u16 (dk[a]!.toNat : Int)), (Value.int .u16 (dk[j2]!.toNat : Int))]) ok72 (⟨(ev_hit hN155 rfl), ⟨(ev_hit hN155 rfl), trivial⟩⟩) (Less16_ret dk[a]! dk[j2]! _) ?_
    refine st_step rfl (fun _ h9 => op_pick_t (ev_hit hN155 rfl) (ev_hit hN155 rfl) h9) ?_
    refine st_nil ?_
    refine hK157 _ _ ?_
    refine wp_cond_split (ev_hit hN155 rfl) (fun c59 => ?_) (fun c59 => ?_)
    · -- 59T
     refine wp_skip ?_
     refine hK156 _ _ ?_
     refine wp_block ?_
     refine one_reg ?_
     refine op_move (ev_base hN155 rfl s155_10) ?_
     refine op_sub (ev_hit hN155 rfl) rfl (sub64 (by omega)) ?_
     refine op_assign (ev_hit hN155 rfl) ?_
     refine reg_nil ?_
     refine blk_normal ?_
     -- round 31F 48T 59T
     exact loop_next _ hN155 hd155 ⟨(j2 - 1), rfl, (sl_base hN155 rfl s155_0), (sl_base hN155 rfl s155_1), (sl_base hN155 rfl s155_8), (sl_base hN155 rfl s155_9), (sl_hit hN155 rfl).trans (congrArg (Value.int .i64) (by omega)), (by omega), (hv1.trans (scanDown_go (by omega) (by omega) c59)), hb, (by omega), hO117⟩ (by omega)
    · -- 59F
     refine wp_exit (then_exit (then_exit (blk_hit ?_)))
     refine hK154 _ _ ?_
     refine seq_any fun K166 hK166 => ?_
     refine seq_any fun K167 hK167 => ?_
     refine one_reg ?_
     refine op_move (ev_base hN155 rfl s155_9) ?_
     refine op_move (ev_base hN155 rfl s155_10) ?_
     refine op_gtr (ev_hit hN155 rfl) (ev_hit hN155 rfl) (fun c64 => ?_) (fun c64 => ?_)
     · -- 64T
      refine reg_nil ?_
      refine hK167 _ _ ?_
      refine wp_cond_true (ev_hit hN155 rfl) ?_
      refine wp_exit (then_exit (blk_miss (by decide) (then_exit (blk_hit ?_))))
      refine hK115 _ _ ?_
      refine seq_any fun K168 hK168 => ?_
      refine one_reg ?_
      refine op_move (ev_base hN155 rfl s155_9) ?_
      refine op_assign (ev_hit hN155 rfl) ?_
      refine reg_nil ?_
      refine hK168 _ _ ?_
      refine wp_ret ?_
      refine ret1 rfl hd155 (ev_hit hN155 rfl) ⟨_, rfl, ?_⟩
      -- path 31F 48T 59F 64T
      have hv2 : scanDown (fun x => ltT dk[a]! x) dk i2 jj = j2 := hv1.trans (scanDown_stop (.inr c59))
      have hq : partitionEqual ltT d a b pv = (i2, dk) := hs.trans (pe_stop hu2 hv2 (by omega))
      exact ⟨hb, by first | (rw [hq]; done) | (rw [hq]; rfl), hO117.cast rfl (by rw [hq])⟩
     · -- 64F
      refine reg_nil ?_
      refine hK167 _ _ ?_
      refine wp_cond_false (ev_hit hN155 rfl) ?_
      refine wp_skip ?_
      refine hK166 _ _ ?_
      refine seq_any fun K169 hK169 => ?_
      refine reg_mid (e := 35) (sz := 1) (base := base) (n := n) (v := v) (Φ := phiL [(fun uz _ => uz = v), (fun uz _ => uz = (Value.int .i64 ((i2 : Nat) : Int))), (fun uz _ => uz = v), (fun uz _ => uz = (Value.int .i64 ((j2 : Nat) : Int))), (fun uz _ => uz = v), (fun uz _ => uz = (Value.int .i64 ((j2 : Nat) : Int))), (fun uz _ => ∃ bz oz, uz = ptr bz oz ∧ AtV v j2 bz oz), (fun uz _ => uz = (Value.int .u16 (dk[j2]!.toNat : Int))), (fun uz _ => uz = v), (fun uz _ => uz = (Value.int .i64 ((i2 : Nat) : Int))), (fun uz _ => ∃ bz oz, uz = ptr bz oz ∧ AtV v i2 bz oz), (fun uz _ => uz = (Value.int .u16 (dk[i2]!.toNat : Int))), (fun uz _ => ∃ bz oz, uz = ptr bz oz ∧ AtV v i2 bz oz), (fun _ _ => True), (fun uz _ => ∃ bz oz, uz = ptr bz oz ∧ AtV v j2 bz oz), (fun _ _ => True)]) [13, 15] [(dk.toList.map u16v), ((dk.setIfInBounds i2 dk[j2]!).toList.map u16v), (((dk.setIfInBounds i2 dk[j2]!).setIfInBounds j2 dk[i2]!).toList.map u16v)] mixed (by kernel_rfl) (by kernel_rfl) (by kernel_rfl) (by kernel_rfl) hN155 hO117 (StL.get (StL.eq (StL.eq (StL.eq (StL.eq (StL.eq (StL.eq (StL.at (StL.eq (StL.eq (StL.eq (StL.at (StL.eq (StL.at (StL.cons (fun _ _ _ _ h => h) (StL.at (StL.cons (fun _ _ _ _ h => h) (StL.nil _)))))))))))))))))) (ObRs.get (ObRs.cons ?_ (ObRs.cons ?_ (ObRs.cons ?_ (ObRs.cons ?_ (ObRs.cons ?_ (ObRs.cons ?_ (ObRs.cons ?_ (ObRs.cons ?_ (ObRs.cons ?_ (ObRs.cons ?_ (ObRs.cons ?_ (ObRs.cons ?_ (ObRs.cons ?_ (ObRs.pass rfl (ObRs.cons ?_ (ObRs.pass rfl (ObRs.nil)))))))))))))))))) (ObWs.get (ObWs.cons ?_ (ObWs.cons ?_ (ObWs.nil)))) ?_
      ·
       intro aA wA cA hNA hRA hckA hOA hbsA hdpA
       have qA_0 := (hbsA 0 rfl).trans (sl_base hN155 rfl s155_0)
       clear hbsA hdpA
       refine op_move (ev_base hNA rfl qA_0) ?_
       exact obR_end rfl rfl (grown_refl _ _)
      ·
       intro aA wA cA hNA hRA hckA hOA hbsA hdpA
       have qA_9 := (hbsA 9 rfl).trans (sl_base hN155 rfl s155_9)
       clear hbsA hdpA
       refine op_move (ev_base hNA rfl qA_9) ?_
       exact obR_end rfl rfl (grown_refl _ _)
      ·
       intro aA wA cA hNA hRA hckA hOA hbsA hdpA
       have qA_0 := (hbsA 0 rfl).trans (sl_base hN155 rfl s155_0)
       clear hbsA hdpA
       refine op_move (ev_base hNA rfl qA_0) ?_
       exact obR_end rfl rfl (grown_refl _ _)
      ·
       intro aA wA cA hNA hRA hckA hOA hbsA hdpA
       have qA_10 := (hbsA 10 rfl).trans (sl_base hN155 rfl s155_10)
       clear hbsA hdpA
       refine op_move (ev_base hNA rfl qA_10) ?_
       exact obR_end rfl rfl (grown_refl _ _)
      ·
       intro aA wA cA hNA hRA hckA hOA hbsA hdpA
       have qA_0 := (hbsA 0 rfl).trans (sl_base hN155 rfl s155_0)
       clear hbsA hdpA
       refine op_move (ev_base hNA rfl qA_0) ?_
       exact obR_end rfl rfl (grown_refl _ _)
      ·
       intro aA wA cA hNA hRA hckA hOA hbsA hdpA
       have qA_10 := (hbsA 10 rfl).trans (sl_base hN155 rfl s155_10)
       clear hbsA hdpA
       refine op_move (ev_base hNA rfl qA_10) ?_
       exact obR_end rfl rfl (grown_refl _ _)
      ·
       intro aA wA cA hNA hRA hckA hOA hbsA hdpA
       have qA_69 : Sl aA 69 v := hdpA 4 _ 69 (by kernel_rfl) rfl rfl
       have qA_70 : Sl aA 70 (Value.int .i64 ((j2 : Nat) : Int)) := hdpA 5 _ 70 (by kernel_rfl) rfl rfl
       clear hbsA hdpA
       refine op_index_own (i := j2) slt22 (ev_base hNA rfl qA_69) hOA (ev_base hNA rfl qA_70) (by omega) (by omega) ?_
       intro b_ o_ _ hA_
       exact obR_end rfl ⟨b_, o_, rfl, by simpa using hA_⟩ (grown_refl _ _)
      ·
       intro aA wA cA hNA hRA hckA hOA hbsA hdpA
       obtain ⟨bA_71, oA_71, qA_71, hAA_71⟩ := hdpA 6 _ 71 (by kernel_rfl) rfl rfl
       clear hbsA hdpA
       obtain rfl : cA = 0 := Nat.le_zero.1 (hckA 0 13 rfl (by kernel_rfl))
       have hOA : Own wA base 35 1 v n (dk.toList.map u16v) := hOA
       refine op_load1 (v := (Value.int .u16 (dk[j2]!.toNat : Int))) one35 (ev_base hNA rfl qA_71) (by have := hOA.cellAt hAA_71 0 _ (el_at (i := j2) (by first | omega | (simp only [Array.size_setIfInBounds, swp_sz, siftDown_size]; omega))); simpa using this) ?_
       exact obR_end rfl rfl (grown_refl _ _)
      ·
       intro aA wA cA hNA hRA hckA hOA hbsA hdpA
       have qA_0 := (hbsA 0 rfl).trans (sl_base hN155 rfl s155_0)
       clear hbsA hdpA
       refine op_move (ev_base hNA rfl qA_0) ?_
       exact obR_end rfl rfl (grown_refl _ _)
      ·
       intro aA wA cA hNA hRA hckA hOA hbsA hdpA
       have qA_9 := (hbsA 9 rfl).trans (sl_base hN155 rfl s155_9)
       clear hbsA hdpA
       refine op_move (ev_base hNA rfl qA_9) ?_
       exact obR_end rfl rfl (grown_refl _ _)
      ·
       intro aA wA cA hNA hRA hckA hOA hbsA hdpA
       have qA_73 : Sl aA 73 v := hdpA 8 _ 73 (by kernel_rfl) rfl rfl
       have qA_74 : Sl aA 74 (Value.int .i64 ((i2 : Nat) : Int)) := hdpA 9 _ 74 (by kernel_rfl) rfl rfl
       clear hbsA hdpA
       refine op_index_own (i := i2) slt22 (ev_base hNA rfl qA_73) hOA (ev_base hNA rfl qA_74) (by omega) (by omega) ?_
       intro b_ o_ _ hA_
       exact obR_end rfl ⟨b_, o_, rfl, by simpa using hA_⟩ (grown_refl _ _)
      ·
       intro aA wA cA hNA hRA hckA hOA hbsA hdpA
       obtain ⟨bA_75, oA_75, qA_75, hAA_75⟩ := hdpA 10 _ 75 (by kernel_rfl) rfl rfl
       clear hbsA hdpA
       obtain rfl : cA = 0 := Nat.le_zero.1 (hckA 0 13 rfl (by kernel_rfl))
       have hOA : Own wA base 35 1 v n (dk.toList.map u16v) := hOA
       refine op_load1 (v := (Value.int .u16 (dk[i2]!.toNat : Int))) one35 (ev_base hNA rfl qA_75) (by have := hOA.cellAt hAA_75 0 _ (el_at (i := i2) (by first | omega | (simp only [Array.size_setIfInBounds, swp_sz, siftDown_size]; omega))); simpa using this) ?_
       exact obR_end rfl rfl (grown_refl _ _)
      ·
       intro aA wA cA hNA hRA hckA hOA hbsA hdpA
       have qA_65 : Sl aA 65 v := hdpA 0 _ 65 (by kernel_rfl) rfl rfl
       have qA_66 : Sl aA 66 (Value.int .i64 ((i2 : Nat) : Int)) := hdpA 1 _ 66 (by kernel_rfl) rfl rfl
       clear hbsA hdpA
       refine op_index_own (i := i2) slt22 (ev_base hNA rfl qA_65) hOA (ev_base hNA rfl qA_66) (by omega) (by omega) ?_
       intro b_ o_ _ hA_
       exact obR_end rfl ⟨b_, o_, rfl, by simpa using hA_⟩ (grown_refl _ _)
      ·
       intro aA wA cA hNA hRA hckA hOA hbsA hdpA
       have qA_67 : Sl aA 67 v := hdpA 2 _ 67 (by kernel_rfl) rfl rfl
       have qA_68 : Sl aA 68 (Value.int .i64 ((j2 : Nat) : Int)) := hdpA 3 _ 68 (by kernel_rfl) rfl rfl
       clear hbsA hdpA
       refine op_index_own (i := j2) slt22 (ev_base hNA rfl qA_67) hOA (ev_base hNA rfl qA_68) (by omega) (by omega) ?_
       intro b_ o_ _ hA_
       exact obR_end rfl ⟨b_, o_, rfl, by simpa using hA_⟩ (grown_refl _ _)
      ·
       intro o_ ho_; obtain rfl := Option.some.inj ho_; intro aA wA hNA hRA hbsA hdpA hOA
       obtain ⟨bA_77, oA_77, qA_77, hAA_77⟩ := hdpA 12 _ 77 (by kernel_rfl) rfl rfl
       have qA_72 : Sl aA 72 (Value.int .u16 (dk[j2]!.toNat : Int)) := hdpA 7 _ 72 (by kernel_rfl) rfl rfl
       clear hbsA hdpA
       have hOA : Own wA base 35 1 v n (dk.toList.map u16v) := hOA
       refine op_store_own (vs := [(Value.int .u16 (dk[j2]!.toNat : Int))]) size35 (ev_base hNA rfl qA_77) (ev_base hNA rfl qA_72) rfl rfl rfl hOA hAA_77 (by have := hOA.1; simp at this ⊢; omega) ?_
       intro w_ hO_ E_
       exact obW_end rfl (hO_.cast rfl (set_arr (by first | omega | (simp only [Array.size_setIfInBounds, swp_sz, siftDown_size]; omega)))) E_
      ·
       intro o_ ho_; obtain rfl := Option.some.inj ho_; intro aA wA hNA hRA hbsA hdpA hOA
       obtain ⟨bA_78, oA_78, qA_78, hAA_78⟩ := hdpA 14 _ 78 (by kernel_rfl) rfl rfl
       have qA_76 : Sl aA 76 (Value.int .u16 (dk[i2]!.toNat : Int)) := hdpA 11 _ 76 (by kernel_rfl) rfl rfl
       clear hbsA hdpA
       have hOA : Own wA base 35 1 v n ((dk.setIfInBounds i2 dk[j2]!).toList.map u16v) := hOA
       refine op_store_own (vs := [(Value.int .u16 (dk[i2]!.toNat : Int))]) size35 (ev_base hNA rfl qA_78) (ev_base hNA rfl qA_76) rfl rfl rfl hOA hAA_78 (by have := hOA.1; simp at this ⊢; omega) ?_
       intro w_ hO_ E_
       exact obW_end rfl (hO_.cast rfl (set_arr (by first | omega | (simp only [Array.size_setIfInBounds, swp_sz, siftDown_size]; omega)))) E_
      ·
       intro a170 w170 hN170 hd170 hbs170 hph170 hO170 E170
       have hd170 := hd170.trans hd155
       have s170_0 := (hbs170 0 rfl).trans (sl_base hN155 rfl s155_0)
       have s170_1 := (hbs170 1 rfl).trans (sl_base hN155 rfl s155_1)
       have s170_8 := (hbs170 8 rfl).trans (sl_base hN155 rfl s155_8)
       have s170_9 := (hbs170 9 rfl).trans (sl_base hN155 rfl s155_9)
       have s170_10 := (hbs170 10 rfl).trans (sl_base hN155 rfl s155_10)
       clear hbs170 hph170
       have hO170 : Own w170 base 35 1 v n (((dk.setIfInBounds i2 dk[j2]!).setIfInBounds j2 dk[i2]!).toList.map u16v) := hO170
       have z_w170 := E170.size
       have hb := grow_stepX hb E170 rfl
       refine hK169 _ _ ?_
       refine seq_any fun K171 hK171 => ?_
       refine one_reg ?_
       refine op_move (ev_base hN170 rfl s170_9) ?_
       refine op_add (ev_hit hN170 rfl) rfl (add64 (by omega)) ?_
       refine op_assign (ev_hit hN170 rfl) ?_
       refine reg_nil ?_
       refine hK171 _ _ ?_
       refine one_reg ?_
       refine op_move (ev_base hN170 rfl s170_10) ?_
       refine op_sub (ev_hit hN170 rfl) rfl (sub64 (by omega)) ?_
       refine op_assign (ev_hit hN170 rfl) ?_
       refine reg_nil ?_
       refine blk_normal ?_
       -- round 31F 48T 59F 64F
       have hv2 : scanDown (fun x => ltT dk[a]! x) dk i2 jj = j2 := hv1.trans (scanDown_stop (.inr c59))
       have hne : i2 ≠ j2 := by first | omega | (intro hh; subst hh; rw [c59] at c43; simp at c43)
       exact loop_next _ hN170 hd170 ⟨(i2 + 1), (j2 - 1), _, rfl, (sl_base hN170 rfl s170_0), (sl_base hN170 rfl s170_1), (sl_base hN170 rfl s170_8), (sl_hit hN170 rfl).trans (congrArg (Value.int .i64) (by omega)), (sl_hit hN170 rfl).trans (congrArg (Value.int .i64) (by omega)), (by first | assumption | (simp only [Array.size_setIfInBounds, swp_sz, siftDown_size]; assumption)), (by omega), (hs.trans (pe_go hu2 hv2 (by omega))), hb, (by omega), hO170⟩ (by omega)
   · -- 48F
    refine st_step rfl (fun _ h9 => op_cmp (b := false) (ev_hit hN155 rfl) (ev_hit hN155 rfl) (b_leq (decide_eq_false g48)) h9) ?_
    refine st_step rfl (fun _ h9 => op_move (ev_hit hN155 rfl) h9) ?_
    refine st_g_false (j := 3) (dj := 49) (b := true) rfl rfl rfl (ev_hit hN155 rfl) rfl rfl ?_
    refine st_g_false (j := 3) (dj := 49) (b := true) rfl rfl rfl (ev_hit hN155 rfl) rfl rfl ?_
    refine st_g_false (j := 3) (dj := 49) (b := true) rfl rfl rfl (ev_hit hN155 rfl) rfl rfl ?_
    refine st_g_false (j := 3) (dj := 49) (b := true) rfl rfl rfl (ev_hit hN155 rfl) rfl rfl ?_
    refine st_g_false (j := 3) (dj := 49) (b := true) rfl rfl rfl (ev_hit hN155 rfl) rfl rfl ?_
    refine st_g_false (j := 3) (dj := 49) (b := true) rfl rfl rfl (ev_hit hN155 rfl) rfl rfl ?_
    refine st_g_false (j := 3) (dj := 49) (b := true) rfl rfl rfl (ev_hit hN155 rfl) rfl rfl ?_
    refine st_g_false (j := 3) (dj := 49) (b := true) rfl rfl rfl (ev_hit hN155 rfl) rfl rfl ?_
    refine st_g_false (j := 3) (dj := 49) (b := true) rfl rfl rfl (ev_hit hN155 rfl) rfl rfl ?_
    refine st_step rfl (fun _ h9 => op_pick_f (ev_hit hN155 rfl) rfl h9) ?_
    refine st_nil ?_
    refine hK157 _ _ ?_
    refine wp_cond_false (ev_hit hN155 rfl) ?_
    refine wp_exit (then_exit (then_exit (blk_hit ?_)))
    refine hK154 _ _ ?_
    refine seq_any fun K172 hK172 => ?_
    refine seq_any fun K173 hK173 => ?_
    refine one_reg ?_
    refine op_move (ev_base hN155 rfl s155_9) ?_
    refine op_move (ev_base hN155 rfl s155_10) ?_
    refine op_gtr (ev_hit hN155 rfl) (ev_hit hN155 rfl) (fun c64 => ?_) (fun c64 => ?_)
    · -- 64T
     refine reg_nil ?_
     refine hK173 _ _ ?_
     refine wp_cond_true (ev_hit hN155 rfl) ?_
     refine wp_exit (then_exit (blk_miss (by decide) (then_exit (blk_hit ?_))))
     refine hK115 _ _ ?_
     refine seq_any fun K174 hK174 => ?_
     refine one_reg ?_
     refine op_move (ev_base hN155 rfl s155_9) ?_
     refine op_assign (ev_hit hN155 rfl) ?_
     refine reg_nil ?_
     refine hK174 _ _ ?_
     refine wp_ret ?_
     refine ret1 rfl hd155 (ev_hit hN155 rfl) ⟨_, rfl, ?_⟩
     -- path 31F 48F 64T
     have hv2 : scanDown (fun x => ltT dk[a]! x) dk i2 jj = j2 := hv1.trans (scanDown_stop (.inl (by omega)))
     have hq : partitionEqual ltT d a b pv = (i2, dk) := hs.trans (pe_stop hu2 hv2 (by omega))
     exact ⟨hb, by first | (rw [hq]; done) | (rw [hq]; rfl), hO117.cast rfl (by rw [hq])⟩
    · -- 64F
     refine reg_nil ?_
     refine hK173 _ _ ?_
     refine wp_cond_false (ev_hit hN155 rfl) ?_
     refine wp_skip ?_
     refine hK172 _ _ ?_
     refine seq_any fun K175 hK175 => ?_
     refine reg_mid (e := 35) (sz := 1) (base := base) (n := n) (v := v) (Φ := phiL [(fun uz _ => uz = v), (fun uz _ => uz = (Value.int .i64 ((i2 : Nat) : Int))), (fun uz _ => uz = v), (fun uz _ => uz = (Value.int .i64 ((j2 : Nat) : Int))), (fun uz _ => uz = v), (fun uz _ => uz = (Value.int .i64 ((j2 : Nat) : Int))), (fun uz _ => ∃ bz oz, uz = ptr bz oz ∧ AtV v j2 bz oz), (fun uz _ => uz = (Value.int .u16 (dk[j2]!.toNat : Int))), (fun uz _ => uz = v), (fun uz _ => uz = (Value.int .i64 ((i2 : Nat) : Int))), (fun uz _ => ∃ bz oz, uz = ptr bz oz ∧ AtV v i2 bz oz), (fun uz _ => uz = (Value.int .u16 (dk[i2]!.toNat : Int))), (fun uz _ => ∃ bz oz, uz = ptr bz oz ∧ AtV v i2 bz oz), (fun _ _ => True), (fun uz _ => ∃ bz oz, uz = ptr bz oz ∧ AtV v j2 bz oz), (fun _ _ => True)]) [13, 15] [(dk.toList.map u16v), ((dk.setIfInBounds i2 dk[j2]!).toList.map u16v), (((dk.setIfInBounds i2 dk[j2]!).setIfInBounds j2 dk[i2]!).toList.map u16v)] mixed (by kernel_rfl) (by kernel_rfl) (by kernel_rfl) (by kernel_rfl) hN155 hO117 (StL.get (StL.eq (StL.eq (StL.eq (StL.eq (StL.eq (StL.eq (StL.at (StL.eq (StL.eq (StL.eq (StL.at (StL.eq (StL.at (StL.cons (fun _ _ _ _ h => h) (StL.at (StL.cons (fun _ _ _ _ h => h) (StL.nil _)))))))))))))))))) (ObRs.get (ObRs.cons ?_ (ObRs.cons ?_ (ObRs.cons ?_ (ObRs.cons ?_ (ObRs.cons ?_ (ObRs.cons ?_ (ObRs.cons ?_ (ObRs.cons ?_ (ObRs.cons ?_ (ObRs.cons ?_ (ObRs.cons ?_ (ObRs.cons ?_ (ObRs.cons ?_ (ObRs.pass rfl (ObRs.cons ?_ (ObRs.pass rfl (ObRs.nil)))))))))))))))))) (ObWs.get (ObWs.cons ?_ (ObWs.cons ?_ (ObWs.nil)))) ?_
     ·
      intro aA wA cA hNA hRA hckA hOA hbsA hdpA
      have qA_0 := (hbsA 0 rfl).trans (sl_base hN155 rfl s155_0)
      clear hbsA hdpA
      refine op_move (ev_base hNA rfl qA_0) ?_
      exact obR_end rfl rfl (grown_refl _ _)
     ·
      intro aA wA cA hNA hRA hckA hOA hbsA hdpA
      have qA_9 := (hbsA 9 rfl).trans (sl_base hN155 rfl s155_9)
      clear hbsA hdpA
      refine op_move (ev_base hNA rfl qA_9) ?_
      exact obR_end rfl rfl (grown_refl _ _)
     ·
      intro aA wA cA hNA hRA hckA hOA hbsA hdpA
      have qA_0 := (hbsA 0 rfl).trans (sl_base hN155 rfl s155_0)
      clear hbsA hdpA
      refine op_move (ev_base hNA rfl qA_0) ?_
      exact obR_end rfl rfl (grown_refl _ _)
     ·
      intro aA wA cA hNA hRA hckA hOA hbsA hdpA
      have qA_10 := (hbsA 10 rfl).trans (sl_base hN155 rfl s155_10)
      clear hbsA hdpA
      refine op_move (ev_base hNA rfl qA_10) ?_
      exact obR_end rfl rfl (grown_refl _ _)
     ·
      intro aA wA cA hNA hRA hckA hOA hbsA hdpA
      have qA_0 := (hbsA 0 rfl).trans (sl_base hN155 rfl s155_0)
      clear hbsA hdpA
      refine op_move (ev_base hNA rfl qA_0) ?_
      exact obR_end rfl rfl (grown_refl _ _)
     ·
      intro aA wA cA hNA hRA hckA hOA hbsA hdpA
      have qA_10 := (hbsA 10 rfl).trans (sl_base hN155 rfl s155_10)
      clear hbsA hdpA
      refine op_move (ev_base hNA rfl qA_10) ?_
      exact obR_end rfl rfl (grown_refl _ _)
     ·
      intro aA wA cA hNA hRA hckA hOA hbsA hdpA
      have qA_69 : Sl aA 69 v := hdpA 4 _ 69 (by kernel_rfl) rfl rfl
      have qA_70 : Sl aA 70 (Value.int .i64 ((j2 : Nat) : Int)) := hdpA 5 _ 70 (by kernel_rfl) rfl rfl
      clear hbsA hdpA
      refine op_index_own (i := j2) slt22 (ev_base hNA rfl qA_69) hOA (ev_base hNA rfl qA_70) (by omega) (by omega) ?_
      intro b_ o_ _ hA_
      exact obR_end rfl ⟨b_, o_, rfl, by simpa using hA_⟩ (grown_refl _ _)
     ·
      intro aA wA cA hNA hRA hckA hOA hbsA hdpA
      obtain ⟨bA_71, oA_71, qA_71, hAA_71⟩ := hdpA 6 _ 71 (by kernel_rfl) rfl rfl
      clear hbsA hdpA
      obtain rfl : cA = 0 := Nat.le_zero.1 (hckA 0 13 rfl (by kernel_rfl))
      have hOA : Own wA base 35 1 v n (dk.toList.map u16v) := hOA
      refine op_load1 (v := (Value.int .u16 (dk[j2]!.toNat : Int))) one35 (ev_base hNA rfl qA_71) (by have := hOA.cellAt hAA_71 0 _ (el_at (i := j2) (by first | omega | (simp only [Array.size_setIfInBounds, swp_sz, siftDown_size]; omega))); simpa using this) ?_
      exact obR_end rfl rfl (grown_refl _ _)
     ·
      intro aA wA cA hNA hRA hckA hOA hbsA hdpA
      have qA_0 := (hbsA 0 rfl).trans (sl_base hN155 rfl s155_0)
      clear hbsA hdpA
      refine op_move (ev_base hNA rfl qA_0) ?_
      exact obR_end rfl rfl (grown_refl _ _)
     ·
      intro aA wA cA hNA hRA hckA hOA hbsA hdpA
      have qA_9 := (hbsA 9 rfl).trans (sl_base hN155 rfl s155_9)
      clear hbsA hdpA
      refine op_move (ev_base hNA rfl qA_9) ?_
      exact obR_end rfl rfl (grown_refl _ _)
     ·
      intro aA wA cA hNA hRA hckA hOA hbsA hdpA
      have qA_73 : Sl aA 73 v := hdpA 8 _ 73 (by kernel_rfl) rfl rfl
      have qA_74 : Sl aA 74 (Value.int .i64 ((i2 : Nat) : Int)) := hdpA 9 _ 74 (by kernel_rfl) rfl rfl
      clear hbsA hdpA
      refine op_index_own (i := i2) slt22 (ev_base hNA rfl qA_73) hOA (ev_base hNA rfl qA_74) (by omega) (by omega) ?_
      intro b_ o_ _ hA_
      exact obR_end rfl ⟨b_, o_, rfl, by simpa using hA_⟩ (grown_refl _ _)
     ·
      intro aA wA cA hNA hRA hckA hOA hbsA hdpA
      obtain ⟨bA_75, oA_75, qA_75, hAA_75⟩ := hdpA 10 _ 75 (by kernel_rfl) rfl rfl
      clear hbsA hdpA
      obtain rfl : cA = 0 := Nat.le_zero.1 (hckA 0 13 rfl (by kernel_rfl))
      have hOA : Own wA base 35 1 v n (dk.toList.map u16v) := hOA
      refine op_load1 (v := (Value.int .u16 (dk[i2]!.toNat : Int))) one35 (ev_base hNA rfl qA_75) (by have := hOA.cellAt hAA_75 0 _ (el_at (i := i2) (by first | omega | (simp only [Array.size_setIfInBounds, swp_sz, siftDown_size]; omega))); simpa using this) ?_
      exact obR_end rfl rfl (grown_refl _ _)
     ·
      intro aA wA cA hNA hRA hckA hOA hbsA hdpA
      have qA_65 : Sl aA 65 v := hdpA 0 _ 65 (by kernel_rfl) rfl rfl
      have qA_66 : Sl aA 66 (Value.int .i64 ((i2 : Nat) : Int)) := hdpA 1 _ 66 (by kernel_rfl) rfl rfl
      clear hbsA hdpA
      refine op_index_own (i := i2) slt22 (ev_base hNA rfl qA_65) hOA (ev_base hNA rfl qA_66) (by omega) (by omega) ?_
      intro b_ o_ _ hA_
      exact obR_end rfl ⟨b_, o_, rfl, by simpa using hA_⟩ (grown_refl _ _)
     ·
      intro aA wA cA hNA hRA hckA hOA hbsA hdpA
      have qA_67 : Sl aA 67 v := hdpA 2 _ 67 (by kernel_rfl) rfl rfl
      have qA_68 : Sl aA 68 (Value.int .i64 ((j2 : Nat) : Int)) := hdpA 3 _ 68 (by kernel_rfl) rfl rfl
      clear hbsA hdpA
      refine op_index_own (i := j2) slt22 (ev_base hNA rfl qA_67) hOA (ev_base hNA rfl qA_68) (by omega) (by omega) ?_
      intro b_ o_ _ hA_
      exact obR_end rfl ⟨b_, o_, rfl, by simpa using hA_⟩ (grown_refl _ _)
     ·
      intro o_ ho_; obtain rfl := Option.some.inj ho_; intro aA wA hNA hRA hbsA hdpA hOA
      obtain ⟨bA_77, oA_77, qA_77, hAA_77⟩ := hdpA 12 _ 77 (by kernel_rfl) rfl rfl
      have qA_72 : Sl aA 72 (Value.int .u16 (dk[j2]!.toNat : Int)) := hdpA 7 _ 72 (by kernel_rfl) rfl rfl
      clear hbsA hdpA
      have hOA : Own wA base 35 1 v n (dk.toList.map u16v) := hOA
      refine op_store_own (vs := [(Value.int .u16 (dk[j2]!.toNat : Int))]) size35 (ev_base hNA rfl qA_77) (ev_base hNA rfl qA_72) rfl rfl rfl hOA hAA_77 (by have := hOA.1; simp at this ⊢; omega) ?_
      intro w_ hO_ E_
      exact obW_end rfl (hO_.cast rfl (set_arr (by first | omega | (simp only [Array.size_setIfInBounds, swp_sz, siftDown_size]; omega)))) E_
     ·
      intro o_ ho_; obtain rfl := Option.some.inj ho_; intro aA wA hNA hRA hbsA hdpA hOA
      obtain ⟨bA_78, oA_78, qA_78, hAA_78⟩ := hdpA 14 _ 78 (by kernel_rfl) rfl rfl
      have qA_76 : Sl aA 76 (Value.int .u16 (dk[i2]!.toNat : Int)) := hdpA 11 _ 76 (by kernel_rfl) rfl rfl
      clear hbsA hdpA
      have hOA : Own wA base 35 1 v n ((dk.setIfInBounds i2 dk[j2]!).toList.map u16v) := hOA
      refine op_store_own (vs := [(Value.int .u16 (dk[i2]!.toNat : Int))]) size35 (ev_base hNA rfl qA_78) (ev_base hNA rfl qA_76) rfl rfl rfl hOA hAA_78 (by have := hOA.1; simp at this ⊢; omega) ?_
      intro w_ hO_ E_
      exact obW_end rfl (hO_.cast rfl (set_arr (by first | omega | (simp only [Array.size_setIfInBounds, swp_sz, siftDown_size]; omega)))) E_
     ·
      intro a176 w176 hN176 hd176 hbs176 hph176 hO176 E176
      have hd176 := hd176.trans hd155
      have s176_0 := (hbs176 0 rfl).trans (sl_base hN155 rfl s155_0)
      have s176_1 := (hbs176 1 rfl).trans (sl_base hN155 rfl s155_1)
      have s176_8 := (hbs176 8 rfl).trans (sl_base hN155 rfl s155_8)
      have s176_9 := (hbs176 9 rfl).trans (sl_base hN155 rfl s155_9)
      have s176_10 := (hbs176 10 rfl).trans (sl_base hN155 rfl s155_10)
      clear hbs176 hph176
      have hO176 : Own w176 base 35 1 v n (((dk.setIfInBounds i2 dk[j2]!).setIfInBounds j2 dk[i2]!).toList.map u16v) := hO176
      have z_w176 := E176.size
      have hb := grow_stepX hb E176 rfl
      refine hK175 _ _ ?_
      refine seq_any fun K177 hK177 => ?_
      refine one_reg ?_
      refine op_move (ev_base hN176 rfl s176_9) ?_
      refine op_add (ev_hit hN176 rfl) rfl (add64 (by omega)) ?_
      refine op_assign (ev_hit hN176 rfl) ?_
      refine reg_nil ?_
      refine hK177 _ _ ?_
      refine one_reg ?_
      refine op_move (ev_base hN176 rfl s176_10) ?_
      refine op_sub (ev_hit hN176 rfl) rfl (sub64 (by omega)) ?_
      refine op_assign (ev_hit hN176 rfl) ?_
      refine reg_nil ?_
      refine blk_normal ?_
      -- round 31F 48F 64F
      have hv2 : scanDown (fun x => ltT dk[a]! x) dk i2 jj = j2 := hv1.trans (scanDown_stop (.inl (by omega)))
      have hne : i2 ≠ j2 := by first | omega | (intro hh; subst hh; rw [c59] at c43; simp at c43)
      exact loop_next _ hN176 hd176 ⟨(i2 + 1), (j2 - 1), _, rfl, (sl_base hN176 rfl s176_0), (sl_base hN176 rfl s176_1), (sl_base hN176 rfl s176_8), (sl_hit hN176 rfl).trans (congrArg (Value.int .i64) (by omega)), (sl_hit hN176 rfl).trans (congrArg (Value.int .i64) (by omega)), (by first | assumption | (simp only [Array.size_setIfInBounds, swp_sz, siftDown_size]; assumption)), (by omega), (hs.trans (pe_go hu2 hv2 (by omega))), hb, (by omega), hO176⟩ (by omega)

end Go.Proofs.Ytpmnljffdofkeaa

/- Walks, written by a program: what each function of the translation hands back. -/
namespace Go.Proofs.Ytpmnljffdofkeaa
open Go.Gx Go.RowKit
attribute [local irreducible] wpList wpStill Code.wp Calls
open Go.Sort (insertionSort insOuter insInner swp siftDown heapSort heapBuild heapPop scanUp scanDown partition partLoop partitionEqual partEqLoop scanSorted partialIns bitsLen partialInsertionSort shiftDown shiftUp SortedIn reverseRange reverseLoop fixDown fixUp)
set_option maxHeartbeats 2000000 in
theorem partW_ret (d : Ar) (v : Value) (n base : Nat) (a b pv : Nat) (w : World) (hd : d.size = n) (hn : n ≤ 4000000000000000000) (O : Own w base 35 1 v n (d.toList.map u16v)) (hap : a ≤ pv) (hpb : pv < b) (hbn : b ≤ n) : Ret Try.prog 74 #[v, (Value.int .i64 ((a : Nat) : Int)), (Value.int .i64 ((b : Nat) : Int)), (Value.int .i64 ((pv : Nat) : Int))] w (fun v' w' => w.grownBy w' v.ownBlock ∧ v' = .tuple #[.int .i64 ((partition ltT d a b pv).1 : Int), .bool (partition ltT d a b pv).2.1] ∧ Own w' base 35 1 v n ((partition ltT d a b pv).2.2.toList.map u16v)) := by
 have hb := grown_refl w v.ownBlock
 refine enter (N := 168) Try.func74 rfl rfl (by simp) fun a0 hN hd hA => ?_
 have s0 : a0.tmps.getD 0 undef = v := hA 0 (by simp)
 have s1 : a0.tmps.getD 1 undef = (Value.int .i64 ((a : Nat) : Int)) := hA 1 (by simp)
 have s2 : a0.tmps.getD 2 undef = (Value.int .i64 ((b : Nat) : Int)) := hA 2 (by simp)
 have s3 : a0.tmps.getD 3 undef = (Value.int .i64 ((pv : Nat) : Int)) := hA 3 (by simp)
 clear hA
 refine seq_any fun K178 hK178 => ?_
 refine one_reg ?_
 refine op_assign rfl ?_
 refine op_assign rfl ?_
 refine reg_nil ?_
 refine hK178 _ _ ?_
 refine seq_any fun K179 hK179 => ?_
 refine reg_mid (e := 35) (sz := 1) (base := base) (n := n) (v := v) (Φ := phiL [(fun uz _ => uz = v), (fun uz _ => uz = (Value.int .i64 ((a : Nat) : Int))), (fun uz _ => uz = v), (fun uz _ => uz = (Value.int .i64 ((pv : Nat) : Int))), (fun uz _ => uz = v), (fun uz _ => uz = (Value.int .i64 ((pv : Nat) : Int))), (fun uz _ => ∃ bz oz, uz = ptr bz oz ∧ AtV v pv bz oz), (fun uz _ => uz = (Value.int .u16 (d[pv]!.toNat : Int))), (fun uz _ => uz = v), (fun uz _ => uz = (Value.int .i64 ((a : Nat) : Int))), (fun uz _ => ∃ bz oz, uz = ptr bz oz ∧ AtV v a bz oz), (fun uz _ => uz = (Value.int .u16 (d[a]!.toNat : Int))), (fun uz _ => ∃ bz oz, uz = ptr bz oz ∧ AtV v a bz oz), (fun _ _ => True), (fun uz _ => ∃ bz oz, uz = ptr bz oz ∧ AtV v pv bz oz), (fun _ _ => True)]) [13, 15] [(d.toList.map u16v), ((d.setIfInBounds a d[pv]!).toList.map u16v), (((d.setIfInBounds a d[pv]!).setIfInBounds pv d[a]!).toList.map u16v)] mixed (by kernel_rfl) (by kernel_rfl) (by kernel_rfl) (by kernel_rfl) hN O (StL.get (StL.eq (StL.eq (StL.eq (StL.eq (StL.eq (StL.eq (StL.at (StL.eq (StL.eq (StL.eq (StL.at (StL.eq (StL.at (StL.cons (fun _ _ _ _ h => h) (StL.at (StL.cons (fun _ _ _ _ h => h) (StL.nil _)))))))))))))))))) (ObRs.get (ObRs.cons ?_ (ObRs.cons ?_ (ObRs.cons ?_ (ObRs.cons ?_ (ObRs.cons ?_ (ObRs.cons ?_ (ObRs.cons ?_ (ObRs.cons ?_ (ObRs.cons ?_ (ObRs.cons ?_ (ObRs.cons ?_ (ObRs.cons ?_ (ObRs.cons ?_ (ObRs.pass rfl (ObRs.cons ?_ (ObRs.pass rfl (ObRs.nil)))))))))))))))))) (ObWs.get (ObWs.cons ?_ (ObWs.cons ?_ (ObWs.nil)))) ?_
 ·
  intro aA wA cA hNA hRA hckA hOA hbsA hdpA
  have qA_0 := (hbsA 0 rfl).trans (sl_base hN rfl s0)
  clear hbsA hdpA
  refine op_move (ev_base hNA rfl qA_0) ?_
  exact obR_end rfl rfl (grown_refl _ _)
 ·
  intro aA wA cA hNA hRA hckA hOA hbsA hdpA
  have qA_1 := (hbsA 1 rfl).trans (sl_base hN rfl s1)
  clear hbsA hdpA
  refine op_move (ev_base hNA rfl qA_1) ?_
  exact obR_end rfl rfl (grown_refl _ _)
 ·
  intro aA wA cA hNA hRA hckA hOA hbsA hdpA
  have qA_0 := (hbsA 0 rfl).trans (sl_base hN rfl s0)
  clear hbsA hdpA
  refine op_move (ev_base hNA rfl qA_0) ?_
  exact obR_end rfl rfl (grown_refl _ _)
 ·
  intro aA wA cA hNA hRA hckA hOA hbsA hdpA
  have qA_3 := (hbsA 3 rfl).trans (sl_base hN rfl s3)
  clear hbsA hdpA
  refine op_move (ev_base hNA rfl qA_3) ?_
  exact obR_end rfl rfl (grown_refl _ _)
 ·
  intro aA wA cA hNA hRA hckA hOA hbsA hdpA
  have qA_0 := (hbsA 0 rfl).trans (sl_base hN rfl s0)
  clear hbsA hdpA
  refine op_move (ev_base hNA rfl qA_0) ?_
  exact obR_end rfl rfl (grown_refl _ _)
 ·
  intro aA wA cA hNA hRA hckA hOA hbsA hdpA
  have qA_3 := (hbsA 3 rfl).trans (sl_base hN rfl s3)
  clear hbsA hdpA
  refine op_move (ev_base hNA rfl qA_3) ?_
  exact obR_end rfl rfl (grown_refl _ _)
 ·
  intro aA wA cA hNA hRA hckA hOA hbsA hdpA
  have qA_16 : Sl aA 16 v := hdpA 4 _ 16 (by kernel_rfl) rfl rfl
  have qA_17 : Sl aA 17 (Value.int .i64 ((pv : Nat) : Int)) := hdpA 5 _ 17 (by kernel_rfl) rfl rfl
  clear hbsA hdpA
  refine op_index_own (i := pv) slt22 (ev_base hNA rfl qA_16) hOA (ev_base hNA rfl qA_17) (by omega) (by omega) ?_
  intro b_ o_ _ hA_
  exact obR_end rfl ⟨b_, o_, rfl, by simpa using hA_⟩ (grown_refl _ _)
 ·
  intro aA wA cA hNA hRA hckA hOA hbsA hdpA
  obtain ⟨bA_18, oA_18, qA_18, hAA_18⟩ := hdpA 6 _ 18 (by kernel_rfl) rfl rfl
  clear hbsA hdpA
  obtain rfl : cA = 0 := Nat.le_zero.1 (hckA 0 13 rfl (by kernel_rfl))
  have hOA : Own wA base 35 1 v n (d.toList.map u16v) := hOA
  refine op_load1 (v := (Value.int .u16 (d[pv]!.toNat : Int))) one35 (ev_base hNA rfl qA_18) (by have := hOA.cellAt hAA_18 0 _ (el_at (i := pv) (by first | omega | (simp only [Array.size_setIfInBounds, swp_sz, siftDown_size]; omega))); simpa using this) ?_
  exact obR_end rfl rfl (grown_refl _ _)
 ·
  intro aA wA cA hNA hRA hckA hOA hbsA hdpA
  have qA_0 := (hbsA 0 rfl).trans (sl_base hN rfl s0)
  clear hbsA hdpA
  refine op_move (ev_base hNA rfl qA_0) ?_
  exact obR_end rfl rfl (grown_refl _ _)
 ·
  intro aA wA cA hNA hRA hckA hOA hbsA hdpA
  have qA_1 := (hbsA 1 rfl).trans (sl_base hN rfl s1)
  clear hbsA hdpA
  refine op_move (ev_base hNA rfl qA_1) ?_
  exact obR_end rfl rfl (grown_refl _ _)
 ·
  intro aA wA cA hNA hRA hckA hOA hbsA hdpA
  have qA_20 : Sl aA 20 v := hdpA 8 _ 20 (by kernel_rfl) rfl rfl
  have qA_21 : Sl aA 21 (Value.int .i64 ((a : Nat) : Int)) := hdpA 9 _ 21 (by kernel_rfl) rfl rfl
  clear hbsA hdpA
  refine op_index_own (i := a) slt22 (ev_base hNA rfl qA_20) hOA (ev_base hNA rfl qA_21) (by omega) (by omega) ?_
  intro b_ o_ _ hA_
  exact obR_end rfl ⟨b_, o_, rfl, by simpa using hA_⟩ (grown_refl _ _)
 ·
  intro aA wA cA hNA hRA hckA hOA hbsA hdpA
  obtain ⟨bA_22, oA_22, qA_22, hAA_22⟩ := hdpA 10 _ 22 (by kernel_rfl) rfl rfl
  clear hbsA hdpA
  obtain rfl : cA = 0 := Nat.le_zero.1 (hckA 0 13 rfl (by kernel_rfl))
  have hOA : Own wA base 35 1 v n (d.toList.map u16v) := hOA
  refine op_load1 (v := (Value.int .u16 (d[a]!.toNat : Int))) one35 (ev_base hNA rfl qA_22) (by have := hOA.cellAt hAA_22 0 _ (el_at (i := a) (by first | omega | (simp only [Array.size_setIfInBounds, swp_sz, siftDown_size]; omega))); simpa using this) ?_
  exact obR_end rfl rfl (grown_refl _ _)
 ·
  intro aA wA cA hNA hRA hckA hOA hbsA hdpA
  have qA_12 : Sl aA 12 v := hdpA 0 _ 12 (by kernel_rfl) rfl rfl
  have qA_13 : Sl aA 13 (Value.int .i64 ((a : Nat) : Int)) := hdpA 1 _ 13 (by kernel_rfl) rfl rfl
  clear hbsA hdpA
  refine op_index_own (i := a) slt22 (ev_base hNA rfl qA_12) hOA (ev_base hNA rfl qA_13) (by omega) (by omega) ?_
  intro b_ o_ _ hA_
  exact obR_end rfl ⟨b_, o_, rfl, by simpa using hA_⟩ (grown_refl _ _)
 ·
  intro aA wA cA hNA hRA hckA hOA hbsA hdpA
  have qA_14 : Sl aA 14 v := hdpA 2 _ 14 (by kernel_rfl) rfl rfl
  have qA_15 : Sl aA 15 (Value.int .i64 ((pv : Nat) : Int)) := hdpA 3 _ 15 (by kernel_rfl) rfl rfl
  clear hbsA hdpA
  refine op_index_own (i := pv) slt22 (ev_base hNA rfl qA_14) hOA (ev_base hNA rfl qA_15) (by omega) (by omega) ?_
  intro b_ o_ _ hA_
  exact obR_end rfl ⟨b_, o_, rfl, by simpa using hA_⟩ (grown_refl _ _)
 ·
  intro o_ ho_; obtain rfl := Option.some.inj ho_; intro aA wA hNA hRA hbsA hdpA hOA
  obtain ⟨bA_24, oA_24, qA_24, hAA_24⟩ := hdpA 12 _ 24 (by kernel_rfl) rfl rfl
  have qA_19 : Sl aA 19 (Value.int .u16 (d[pv]!.toNat : Int)) := hdpA 7 _ 19 (by kernel_rfl) rfl rfl
  clear hbsA hdpA
  have hOA : Own wA base 35 1 v n (d.toList.map u16v) := hOA
  refine op_store_own (vs := [(Value.int .u16 (d[pv]!.toNat : Int))]) size35 (ev_base hNA rfl qA_24) (ev_base hNA rfl qA_19) rfl rfl rfl hOA hAA_24 (by have := hOA.1; simp at this ⊢; omega) ?_
  intro w_ hO_ E_
  exact obW_end rfl (hO_.cast rfl (set_arr (by first | omega | (simp only [Array.size_setIfInBounds, swp_sz, siftDown_size]; omega)))) E_
 ·
  intro o_ ho_; obtain rfl := Option.some.inj ho_; intro aA wA hNA hRA hbsA hdpA hOA
  obtain ⟨bA_25, oA_25, qA_25, hAA_25⟩ := hdpA 14 _ 25 (by kernel_rfl) rfl rfl
  have qA_23 : Sl aA 23 (Value.int .u16 (d[a]!.toNat : Int)) := hdpA 11 _ 23 (by kernel_rfl) rfl rfl
  clear hbsA hdpA
  have hOA : Own wA base 35 1 v n ((d.setIfInBounds a d[pv]!).toList.map u16v) := hOA
  refine op_store_own (vs := [(Value.int .u16 (d[a]!.toNat : Int))]) size35 (ev_base hNA rfl qA_25) (ev_base hNA rfl qA_23) rfl rfl rfl hOA hAA_25 (by have := hOA.1; simp at this ⊢; omega) ?_
  intro w_ hO_ E_
  exact obW_end rfl (hO_.cast rfl (set_arr (by first | omega | (simp only [Array.size_setIfInBounds, swp_sz, siftDown_size]; omega)))) E_
 ·
  intro a180 w180 hN180 hd180 hbs180 hph180 hO180 E180
  have hd180 := hd180.trans hd
  have s180_0 := (hbs180 0 rfl).trans (sl_base hN rfl s0)
  have s180_1 := (hbs180 1 rfl).trans (sl_base hN rfl s1)
  have s180_2 := (hbs180 2 rfl).trans (sl_base hN rfl s2)
  have s180_8 := (hbs180 8 rfl).trans (sl_hit hN rfl)
  have s180_9 := (hbs180 9 rfl).trans (sl_hit hN rfl)
  clear hbs180 hph180
  have hO180 : Own w180 base 35 1 v n (((d.setIfInBounds a d[pv]!).setIfInBounds pv d[a]!).toList.map u16v) := hO180
  have z_w180 := E180.size
  have hb := grow_stepX hb E180 rfl
  refine hK179 _ _ ?_
  refine seq_join1 (N := 168) (fun az_ w' => ∃ (d1 : Ar), (az_.tmps.getD 0 undef = v) ∧ (az_.tmps.getD 1 undef = (Value.int .i64 ((a : Nat) : Int))) ∧ (az_.tmps.getD 8 undef = (Value.int .i64 0)) ∧ (az_.tmps.getD 9 undef = (Value.bool false)) ∧ (az_.tmps.getD 10 undef = (Value.int .i64 (((a : Nat) : Int) + 1))) ∧ (az_.tmps.getD 11 undef = (Value.int .i64 (((b - 1) : Nat) : Int))) ∧ (d1 = swp d a pv) ∧ (d1.size = n) ∧ (w.grownBy w' v.ownBlock) ∧ (w180.heap.size ≤ w'.heap.size) ∧ (Own w' base 35 1 v n (d1.toList.map u16v))) (fun hJ181 => ?_) ?_
  ·
   refine seq_any fun K183 hK183 => ?_
   refine one_reg ?_
   refine op_move (ev_base hN180 rfl s180_1) ?_
   refine op_add (ev_hit hN180 rfl) rfl (add64 (by omega)) ?_
   refine op_move (ev_base hN180 rfl s180_2) ?_
   refine op_sub (r := ((b - 1 : Nat) : Int)) (ev_hit hN180 rfl) rfl (by rw [IntKind.wrap_i64]; omega) ?_
   refine op_assign (ev_hit hN180 rfl) ?_
   refine op_assign (ev_hit hN180 rfl) ?_
   refine reg_nil ?_
   refine hK183 _ _ ?_
   exact hJ181 _ _ _ hN180 hd180 ⟨_, (sl_base hN180 rfl s180_0), (sl_base hN180 rfl s180_1), (sl_base hN180 rfl s180_8), (sl_base hN180 rfl s180_9), (sl_hit hN180 rfl), (sl_hit hN180 rfl), rfl, (by first | assumption | (simp only [Array.size_setIfInBounds, swp_sz, siftDown_size]; assumption)), hb, (by omega), hO180⟩
  ·
   rintro a181 w181 hN181 hd181 ⟨d1, s181_0, s181_1, s181_8, s181_9, s181_10, s181_11, hd1, hz1, hb, zl_w181, hO182⟩
   have z_w181 := hb.size
   refine seq_join1 (N := 168) (fun az_ w' => ∃ (i2 : Nat), (az_.tmps.getD 0 undef = v) ∧ (az_.tmps.getD 1 undef = (Value.int .i64 ((a : Nat) : Int))) ∧ (az_.tmps.getD 8 undef = (Value.int .i64 0)) ∧ (az_.tmps.getD 9 undef = (Value.bool false)) ∧ (az_.tmps.getD 11 undef = (Value.int .i64 (((b - 1) : Nat) : Int))) ∧ (az_.tmps.getD 10 undef = (Value.int .i64 ((i2 : Nat) : Int))) ∧ (a + 1 ≤ i2 ∧ i2 ≤ b) ∧ (scanUp (fun x => ltT x d1[a]!) d1 (b - 1) (a + 1) = i2) ∧ (i2 ≤ b - 1 → ltT d1[i2]! d1[a]! = false) ∧ (w.grownBy w' v.ownBlock) ∧ (w181.heap.size ≤ w'.heap.size) ∧ (Own w' base 35 1 v n (d1.toList.map u16v))) (fun hJ184 => ?_) ?_
   ·
    refine seq_any fun K185 hK185 => ?_
    refine wp_block ?_
    refine loop_m (fun mz_ az_ w' => ∃ (i2 : Nat), mz_ = (b + 1 - i2) ∧ (az_.tmps.getD 0 undef = v) ∧ (az_.tmps.getD 1 undef = (Value.int .i64 ((a : Nat) : Int))) ∧ (az_.tmps.getD 8 undef = (Value.int .i64 0)) ∧ (az_.tmps.getD 9 undef = (Value.bool false)) ∧ (az_.tmps.getD 11 undef = (Value.int .i64 (((b - 1) : Nat) : Int))) ∧ (az_.tmps.getD 10 undef = (Value.int .i64 ((i2 : Nat) : Int))) ∧ (a + 1 ≤ i2 ∧ i2 ≤ b) ∧ (scanUp (fun x => ltT x d1[a]!) d1 (b - 1) (a + 1) = scanUp (fun x => ltT x d1[a]!) d1 (b - 1) i2) ∧ (w.grownBy w' v.ownBlock) ∧ (w181.heap.size ≤ w'.heap.size) ∧ (Own w' base 35 1 v n (d1.toList.map u16v))) _ hN181 hd181 ⟨(a + 1), rfl, (sl_base hN181 rfl s181_0), (sl_base hN181 rfl s181_1), (sl_base hN181 rfl s181_8), (sl_base hN181 rfl s181_9), (sl_base hN181 rfl s181_11), (sl_base hN181 rfl s181_10).trans (congrArg (Value.int .i64) (by omega)), (by omega), rfl, hb, (Nat.le_refl _), hO182⟩ ?_
    rintro _ a186 w186 hN186 hd186 ⟨i2, rfl, s186_0, s186_1, s186_8, s186_9, s186_11, s186_10, hr2, hu1, hb, zl_w186, hO182⟩
    have z_w186 := hb.size
    refine seq_any fun K187 hK187 => ?_
    refine seq_any fun K188 hK188 => ?_
    refine reg_still mixed (by kernel_rfl) ?_
    intro w190 E189
    have z_w190 := E189.size
    have hO182 := hO182.keep0 E189
    have hb := grow_step0 hb E189
    refine st_step rfl (fun _ h9 => op_move (ev_base hN186 rfl s186_10) h9) ?_
    refine st_step rfl (fun _ h9 => op_move (ev_base hN186 rfl s186_11) h9) ?_
    by_cases g32 : ((i2 : Nat) : Int) ≤ (((b - 1) : Nat) : Int)
    · -- 32T
     refine st_step rfl (fun _ h9 => op_cmp (b := true) (ev_hit hN186 rfl) (ev_hit hN186 rfl) (b_leq (decide_eq_true g32)) h9) ?_
     refine st_step rfl (fun _ h9 => op_move (ev_hit hN186 rfl) h9) ?_
     refine st_g_true (j := 3) (dj := 33) (b := true) rfl rfl rfl (ev_hit hN186 rfl) ?_
     refine st_step rfl (fun _ h9 => op_move (ev_base hN186 rfl s186_0) h9) ?_
     refine st_g_true (j := 3) (dj := 33) (b := true) rfl rfl rfl (ev_hit hN186 rfl) ?_
     refine st_step rfl (fun _ h9 => op_move (ev_base hN186 rfl s186_10) h9) ?_
     refine st_g_true (j := 3) (dj := 33) (b := true) rfl rfl rfl (ev_hit hN186 rfl) ?_
     refine st_index_rd slt22 (ev_hit hN186 rfl) hO182.rdw (ev_hit hN186 rfl) (by omega) (by omega) ?_
     intro b191 o192 h0b191 h1b191 hc193
     refine st_g_true (j := 3) (dj := 33) (b := true) rfl rfl rfl (ev_hit hN186 rfl) ?_
     refine st_step rfl (fun _ h9 => op_load1 (v := (Value.int .u16 (d1[i2]!.toNat : Int))) one35 (ev_hit hN186 rfl) (by have := hc193 0 (Value.int .u16 (d1[i2]!.toNat : Int)) (by decide) (el_arr (i := i2) (by omega) (by first | omega | (simp only [Array.size_setIfInBounds, swp_sz, siftDown_size]; omega))); simpa using this) h9) ?_
     refine st_g_true (j := 3) (dj := 33) (b := true) rfl rfl rfl (ev_hit hN186 rfl) ?_
     refine st_step rfl (fun _ h9 => op_move (ev_base hN186 rfl s186_0) h9) ?_
     refine st_g_true (j := 3) (dj := 33) (b := true) rfl rfl rfl (ev_hit hN186 rfl) ?_
     refine st_step rfl (fun _ h9 => op_move (ev_base hN186 rfl s186_1) h9) ?_
     refine st_g_true (j := 3) (dj := 33) (b := true) rfl rfl rfl (ev_hit hN186 rfl) ?_
     refine st_index_rd slt22 (ev_hit hN186 rfl) hO182.rdw (ev_hit hN186 rfl) (by omega) (by omega) ?_
     intro b194 o195 h0b194 h1b194 hc196
     refine st_g_true (j := 3) (dj := 33) (b := true) rfl rfl rfl (ev_hit hN186 rfl) ?_
     refine st_step rfl (fun _ h9 => op_load1 (v := (Value.int .u16 (d1[a]!.toNat : Int))) one35 (ev_hit hN186 rfl) (by have := hc196 0 (Value.int .u16 (d1[a]!.toNat : Int)) (by decide) (el_arr (i := a) (by omega) (by first | omega | (simp only [Array.size_setIfInBounds, swp_sz, siftDown_size]; omega))); simpa using this) h9) ?_
     refine st_g_true (j := 3) (dj := 33) (b := true) rfl rfl rfl (ev_hit hN186 rfl) ?_
     refine st_fn (vs := [(Value.int .u16 (d1[i2]!.toNat : Int)), (Value.int .u16 (d1[a]!.toNat : Int))]) ok72 (⟨(ev_hit hN186 rfl), ⟨(ev_hit hN186 rfl), trivial⟩⟩) (Less16_ret d1[i2]! d1[a]! _) ?_
     refine st_step rfl (fun _ h9 => op_pick_t (ev_hit hN186 rfl) (ev_hit hN186 rfl) h9) ?_
     refine st_nil ?_
     refine hK188 _ _ ?_
     refine wp_cond_split (ev_hit hN186 rfl) (fun c43 => ?_) (fun c43 => ?_)
     · -- 43T
      refine wp_skip ?_
      refine hK187 _ _ ?_
      refine wp_block ?_
      refine one_reg ?_
      refine op_move (ev_base hN186 rfl s186_10) ?_
      refine op_add (ev_hit hN186 rfl) rfl (add64 (by omega)) ?_
      refine op_assign (ev_hit hN186 rfl) ?_
      refine reg_nil ?_
      refine blk_normal ?_
      -- round 32T 43T
      exact loop_next _ hN186 hd186 ⟨(i2 + 1), rfl, (sl_base hN186 rfl s186_0), (sl_base hN186 rfl s186_1), (sl_base hN186 rfl s186_8), (sl_base hN186 rfl s186_9), (sl_base hN186 rfl s186_11), (sl_hit hN186 rfl).trans (congrArg (Value.int .i64) (by omega)), (by omega), (hu1.trans (scanUp_go (by omega) c43)), hb, (by omega), hO182⟩ (by omega)
     · -- 43F
      refine wp_exit (then_exit (then_exit (blk_hit ?_)))
      refine hK185 _ _ ?_
      exact hJ184 _ _ _ hN186 hd186 ⟨i2, (sl_base hN186 rfl s186_0), (sl_base hN186 rfl s186_1), (sl_base hN186 rfl s186_8), (sl_base hN186 rfl s186_9), (sl_base hN186 rfl s186_11), (sl_base hN186 rfl s186_10), (by omega), (hu1.trans (scanUp_stop (.inr c43))), (fun _ => c43), hb, (by omega), hO182⟩
    · -- 32F
     refine st_step rfl (fun _ h9 => op_cmp (b := false) (ev_hit hN186 rfl) (ev_hit hN186 rfl) (b_leq (decide_eq_false g32)) h9) ?_
     refine st_step rfl (fun _ h9 => op_move (ev_hit hN186 rfl) h9) ?_
     refine st_g_false (j := 3) (dj := 33) (b := true) rfl rfl rfl (ev_hit hN186 rfl) rfl rfl ?_
     refine st_g_false (j := 3) (dj := 33) (b := true) rfl rfl rfl (ev_hit hN186 rfl) rfl rfl ?_
     refine st_g_false (j := 3) (dj := 33) (b := true) rfl rfl rfl (ev_hit hN186 rfl) rfl rfl ?_
     refine st_g_false (j := 3) (dj := 33) (b := true) rfl rfl rfl (ev_hit hN186 rfl) rfl rfl ?_
     refine st_g_false (j := 3) (dj := 33) (b := true) rfl rfl rfl (ev_hit hN186 rfl) rfl rfl ?_
     refine st_g_false (j := 3) (dj := 33) (b := true) rfl rfl rfl (ev_hit hN186 rfl) rfl rfl ?_
     refine st_g_false (j := 3) (dj := 33) (b := true) rfl rfl rfl (ev_hit hN186 rfl) rfl rfl ?_
     refine st_g_false (j := 3) (dj := 33) (b := true) rfl rfl rfl (ev_hit hN186 rfl) rfl rfl ?_
     refine st_g_false (j := 3) (dj := 33) (b := true) rfl rfl rfl (ev_hit hN186 rfl) rfl rfl ?_
     refine st_step rfl (fun _ h9 => op_pick_f (ev_hit hN186 rfl) rfl h9) ?_
     refine st_nil ?_
     refine hK188 _ _ ?_
     refine wp_cond_false (ev_hit hN186 rfl) ?_
     refine wp_exit (then_exit (then_exit (blk_hit ?_)))
     refine hK185 _ _ ?_
     exact hJ184 _ _ _ hN186 hd186 ⟨i2, (sl_base hN186 rfl s186_0), (sl_base hN186 rfl s186_1), (sl_base hN186 rfl s186_8), (sl_base hN186 rfl s186_9), (sl_base hN186 rfl s186_11), (sl_base hN186 rfl s186_10), (by omega), (hu1.trans (scanUp_stop (.inl (by omega)))), (fun hq => absurd hq (by omega)), hb, (by omega), hO182⟩
   ·
    rintro a184 w184 hN184 hd184 ⟨i2, s184_0, s184_1, s184_8, s184_9, s184_11, s184_10, hr2, hu2, hx2, hb, zl_w184, hO182⟩
    have z_w184 := hb.size
    refine seq_join1 (N := 168) (fun az_ w' => ∃ (j2 : Nat), (az_.tmps.getD 0 undef = v) ∧ (az_.tmps.getD 1 undef = (Value.int .i64 ((a : Nat) : Int))) ∧ (az_.tmps.getD 8 undef = (Value.int .i64 0)) ∧ (az_.tmps.getD 9 undef = (Value.bool false)) ∧ (az_.tmps.getD 10 undef = (Value.int .i64 ((i2 : Nat) : Int))) ∧ (az_.tmps.getD 11 undef = (Value.int .i64 ((j2 : Nat) : Int))) ∧ (j2 ≤ b - 1 ∧ i2 ≤ j2 + 1) ∧ (scanDown (fun x => !ltT x d1[a]!) d1 i2 (b - 1) = j2) ∧ (i2 ≠ j2) ∧ (w.grownBy w' v.ownBlock) ∧ (w184.heap.size ≤ w'.heap.size) ∧ (Own w' base 35 1 v n (d1.toList.map u16v))) (fun hJ197 => ?_) ?_
    ·
     refine seq_any fun K198 hK198 => ?_
     refine wp_block ?_
     refine loop_m (fun mz_ az_ w' => ∃ (j2 : Nat), mz_ = (j2 + 1) ∧ (az_.tmps.getD 0 undef = v) ∧ (az_.tmps.getD 1 undef = (Value.int .i64 ((a : Nat) : Int))) ∧ (az_.tmps.getD 8 undef = (Value.int .i64 0)) ∧ (az_.tmps.getD 9 undef = (Value.bool false)) ∧ (az_.tmps.getD 10 undef = (Value.int .i64 ((i2 : Nat) : Int))) ∧ (az_.tmps.getD 11 undef = (Value.int .i64 ((j2 : Nat) : Int))) ∧ (j2 ≤ b - 1 ∧ i2 ≤ j2 + 1) ∧ (scanDown (fun x => !ltT x d1[a]!) d1 i2 (b - 1) = scanDown (fun x => !ltT x d1[a]!) d1 i2 j2) ∧ (w.grownBy w' v.ownBlock) ∧ (w184.heap.size ≤ w'.heap.size) ∧ (Own w' base 35 1 v n (d1.toList.map u16v))) _ hN184 hd184 ⟨(b - 1), rfl, (sl_base hN184 rfl s184_0), (sl_base hN184 rfl s184_1), (sl_base hN184 rfl s184_8), (sl_base hN184 rfl s184_9), (sl_base hN184 rfl s184_10), (sl_base hN184 rfl s184_11).trans (congrArg (Value.int .i64) (by omega)), (by omega), rfl, hb, (Nat.le_refl _), hO182⟩ ?_
     rintro _ a199 w199 hN199 hd199 ⟨j2, rfl, s199_0, s199_1, s199_8, s199_9, s199_10, s199_11, hr3, hv1, hb, zl_w199, hO182⟩
     have z_w199 := hb.size
     refine seq_any fun K200 hK200 => ?_
     refine seq_any fun K201 hK201 => ?_
     refine reg_still mixed (by kernel_rfl) ?_
     intro w203 E202
     have z_w203 := E202.size
     have hO182 := hO182.keep0 E202
     have hb := grow_step0 hb E202
     refine st_step rfl (fun _ h9 => op_move (ev_base hN199 rfl s199_10) h9) ?_
     refine st_step rfl (fun _ h9 => op_move (ev_base hN199 rfl s199_11) h9) ?_
     by_cases g48 : ((i2 : Nat) : Int) ≤ ((j2 : Nat) : Int)
     · -- 48T
      refine st_step rfl (fun _ h9 => op_cmp (b := true) (ev_hit hN199 rfl) (ev_hit hN199 rfl) (b_leq (decide_eq_true g48)) h9) ?_
      refine st_step rfl (fun _ h9 => op_move (ev_hit hN199 rfl) h9) ?_
      refine st_g_true (j := 3) (dj := 49) (b := true) rfl rfl rfl (ev_hit hN199 rfl) ?_
      refine st_step rfl (fun _ h9 => op_move (ev_base hN199 rfl s199_0) h9) ?_
      refine st_g_true (j := 3) (dj := 49) (b := true) rfl rfl rfl (ev_hit hN199 rfl) ?_
      refine st_step rfl (fun _ h9 => op_move (ev_base hN199 rfl s199_11) h9) ?_
      refine st_g_true (j := 3) (dj := 49) (b := true) rfl rfl rfl (ev_hit hN199 rfl) ?_
      refine st_index_rd slt22 (ev_hit hN199 rfl) hO182.rdw (ev_hit hN199 rfl) (by omega) (by omega) ?_
      intro b204 o205 h0b204 h1b204 hc206
      refine st_g_true (j := 3) (dj := 49) (b := true) rfl rfl rfl (ev_hit hN199 rfl) ?_
      refine st_step rfl (fun _ h9 => op_load1 (v := (Value.int .u16 (d1[j2]!.toNat : Int))) one35 (ev_hit hN199 rfl) (by have := hc206 0 (Value.int .u16 (d1[j2]!.toNat : Int)) (by decide) (el_arr (i := j2) (by omega) (by first | omega | (simp only [Array.size_setIfInBounds, swp_sz, siftDown_size]; omega))); simpa using this) h9) ?_
      refine st_g_true (j := 3) (dj := 49) (b := true) rfl rfl rfl (ev_hit hN199 rfl) ?_
      refine st_step rfl (fun _ h9 => op_move (ev_base hN199 rfl s199_0) h9) ?_
      refine st_g_true (j := 3) (dj := 49) (b := true) rfl rfl rfl (ev_hit hN199 rfl) ?_
      refine st_step rfl (fun _ h9 => op_move (ev_base hN199 rfl s199_1) h9) ?_
      refine st_g_true (j := 3) (dj := 49) (b := true) rfl rfl rfl (ev_hit hN199 rfl) ?_
      refine st_index_rd slt22 (ev_hit hN199 rfl) hO182.rdw (ev_hit hN199 rfl) (by omega) (by omega) ?_
      intro b207 o208 h0b207 h1b207 hc209
      refine st_g_true (j := 3) (dj := 49) (b := true) rfl rfl rfl (ev_hit hN199 rfl) ?_
      refine st_step rfl (fun _ h9 => op_load1 (v := (Value.int .u16 (d1[a]!.toNat : Int))) one35 (ev_hit hN199 rfl) (by have := hc209 0 (Value.int .u16 (d1[a]!.toNat : Int)) (by decide) (el_arr (i := a) (by omega) (by first | omega | (simp only [Array.size_setIfInBounds, swp_sz, siftDown_size]; omega))); simpa using this) h9) ?_
      refine st_g_true (j := 3) (dj := 49) (b := true) rfl rfl rfl (ev_hit hN199 rfl) ?_
      refine st_fn (vs := [(Value.int .u16 (d1[j2]!.toNat : Int)), (Value.int .u16 (d1[a]!.toNat : Int))]) ok72 (⟨(ev_hit hN199 rfl), ⟨(ev_hit hN199 rfl), trivial⟩⟩) (Less16_ret d1[j2]! d1[a]! _) ?_
      refine st_g_true (j := 3) (dj := 49) (b := true) rfl rfl rfl (ev_hit hN199 rfl) ?_
      refine st_step rfl (fun _ h9 => op_not (ev_hit hN199 rfl) h9) ?_
      refine st_step rfl (fun _ h9 => op_pick_t (ev_hit hN199 rfl) (ev_hit hN199 rfl) h9) ?_
      refine st_nil ?_
      refine hK201 _ _ ?_
      refine wp_cond_split (ev_hit hN199 rfl) (fun c60 => ?_) (fun c60 => ?_)
      · -- 60T
       refine wp_skip ?_
       refine hK200 _ _ ?_
       refine wp_block ?_
       refine one_reg ?_
       refine op_move (ev_base hN199 rfl s199_11) ?_
       refine op_sub (ev_hit hN199 rfl) rfl (sub64 (by omega)) ?_
       refine op_assign (ev_hit hN199 rfl) ?_
       refine reg_nil ?_
       refine blk_normal ?_
       -- round 48T 60T
       exact loop_next _ hN199 hd199 ⟨(j2 - 1), rfl, (sl_base hN199 rfl s199_0), (sl_base hN199 rfl s199_1), (sl_base hN199 rfl s199_8), (sl_base hN199 rfl s199_9), (sl_base hN199 rfl s199_10), (sl_hit hN199 rfl).trans (congrArg (Value.int .i64) (by omega)), (by omega), (hv1.trans (scanDown_go (by omega) (by omega) c60)), hb, (by omega), hO182⟩ (by omega)
      · -- 60F
       refine wp_exit (then_exit (then_exit (blk_hit ?_)))
       refine hK198 _ _ ?_
       exact hJ197 _ _ _ hN199 hd199 ⟨j2, (sl_base hN199 rfl s199_0), (sl_base hN199 rfl s199_1), (sl_base hN199 rfl s199_8), (sl_base hN199 rfl s199_9), (sl_base hN199 rfl s199_10), (sl_base hN199 rfl s199_11), (by omega), (hv1.trans (scanDown_stop (.inr c60))), (fun hh => by have h9 := hx2 (by omega); rw [hh] at h9; rw [h9] at c60; simp at c60), hb, (by omega), hO182⟩
     · -- 48F
      refine st_step rfl (fun _ h9 => op_cmp (b := false) (ev_hit hN199 rfl) (ev_hit hN199 rfl) (b_leq (decide_eq_false g48)) h9) ?_
      refine st_step rfl (fun _ h9 => op_move (ev_hit hN199 rfl) h9) ?_
      refine st_g_false (j := 3) (dj := 49) (b := true) rfl rfl rfl (ev_hit hN199 rfl) rfl rfl ?_
      refine st_g_false (j := 3) (dj := 49) (b := true) rfl rfl rfl (ev_hit hN199 rfl) rfl rfl ?_
      refine st_g_false (j := 3) (dj := 49) (b := true) rfl rfl rfl (ev_hit hN199 rfl) rfl rfl ?_
      refine st_g_false (j := 3) (dj := 49) (b := true) rfl rfl rfl (ev_hit hN199 rfl) rfl rfl ?_
      refine st_g_false (j := 3) (dj := 49) (b := true) rfl rfl rfl (ev_hit hN199 rfl) rfl rfl ?_
      refine st_g_false (j := 3) (dj := 49) (b := true) rfl rfl rfl (ev_hit hN199 rfl) rfl rfl ?_
      refine st_g_false (j := 3) (dj := 49) (b := true) rfl rfl rfl (ev_hit hN199 rfl) rfl rfl ?_
      refine st_g_false (j := 3) (dj := 49) (b := true) rfl rfl rfl (ev_hit hN199 rfl) rfl rfl ?_
      refine st_g_false (j := 3) (dj := 49) (b := true) rfl rfl rfl (ev_hit hN199 rfl) rfl rfl ?_
      refine st_g_false (j := 3) (dj := 49) (b := true) rfl rfl rfl (ev_hit hN199 rfl) rfl rfl ?_
      refine st_step rfl (fun _ h9 => op_pick_f (ev_hit hN199 rfl) rfl h9) ?_
      refine st_nil ?_
      refine hK201 _ _ ?_
      refine wp_cond_false (ev_hit hN199 rfl) ?_
      refine wp_exit (then_exit (then_exit (blk_hit ?_)))
      refine hK198 _ _ ?_
      exact hJ197 _ _ _ hN199 hd199 ⟨j2, (sl_base hN199 rfl s199_0), (sl_base hN199 rfl s199_1), (sl_base hN199 rfl s199_8), (sl_base hN199 rfl s199_9), (sl_base hN199 rfl s199_10), (sl_base hN199 rfl s199_11), (by omega), (hv1.trans (scanDown_stop (.inl (by omega)))), (by omega), hb, (by omega), hO182⟩
    ·
     rintro a197 w197 hN197 hd197 ⟨j2, s197_0, s197_1, s197_8, s197_9, s197_10, s197_11, hr3, hv2, hne, hb, zl_w197, hO182⟩
     have z_w197 := hb.size
     refine seq_any fun K210 hK210 => ?_
     refine seq_any fun K211 hK211 => ?_
     refine one_reg ?_
     refine op_move (ev_base hN197 rfl s197_10) ?_
     refine op_move (ev_base hN197 rfl s197_11) ?_
     refine op_gtr (ev_hit hN197 rfl) (ev_hit hN197 rfl) (fun c65 => ?_) (fun c65 => ?_)
     · -- 65T
      refine reg_nil ?_
      refine hK211 _ _ ?_
      refine wp_cond_true (ev_hit hN197 rfl) ?_
      refine seq_any fun K212 hK212 => ?_
      refine reg_mid (e := 35) (sz := 1) (base := base) (n := n) (v := v) (Φ := phiL [(fun uz _ => uz = v), (fun uz _ => uz = (Value.int .i64 ((j2 : Nat) : Int))), (fun uz _ => uz = v), (fun uz _ => uz = (Value.int .i64 ((a : Nat) : Int))), (fun uz _ => uz = v), (fun uz _ => uz = (Value.int .i64 ((a : Nat) : Int))), (fun uz _ => ∃ bz oz, uz = ptr bz oz ∧ AtV v a bz oz), (fun uz _ => uz = (Value.int .u16 (d1[a]!.toNat : Int))), (fun uz _ => uz = v), (fun uz _ => uz = (Value.int .i64 ((j2 : Nat) : Int))), (fun uz _ => ∃ bz oz, uz = ptr bz oz ∧ AtV v j2 bz oz), (fun uz _ => uz = (Value.int .u16 (d1[j2]!.toNat : Int))), (fun uz _ => ∃ bz oz, uz = ptr bz oz ∧ AtV v j2 bz oz), (fun _ _ => True), (fun uz _ => ∃ bz oz, uz = ptr bz oz ∧ AtV v a bz oz), (fun _ _ => True)]) [13, 15] [(d1.toList.map u16v), ((d1.setIfInBounds j2 d1[a]!).toList.map u16v), (((d1.setIfInBounds j2 d1[a]!).setIfInBounds a d1[j2]!).toList.map u16v)] mixed (by kernel_rfl) (by kernel_rfl) (by kernel_rfl) (by kernel_rfl) hN197 hO182 (StL.get (StL.eq (StL.eq (StL.eq (StL.eq (StL.eq (StL.eq (StL.at (StL.eq (StL.eq (StL.eq (StL.at (StL.eq (StL.at (StL.cons (fun _ _ _ _ h => h) (StL.at (StL.cons (fun _ _ _ _ h => h) (StL.nil _)))))))))))))))))) (ObRs.get (ObRs.cons ?_ (ObRs.cons ?_ (ObRs.cons ?_ (ObRs.cons ?_ (ObRs.cons ?_ (ObRs.cons ?_ (ObRs.cons ?_ (ObRs.cons ?_ (ObRs.cons ?_ (ObRs.cons ?_ (ObRs.cons ?_ (ObRs.cons ?_ (ObRs.cons ?_ (ObRs.pass rfl (ObRs.cons ?_ (ObRs.pass rfl (ObRs.nil)))))))))))))))))) (ObWs.get (ObWs.cons ?_ (ObWs.cons ?_ (ObWs.nil)))) ?_
      ·
       intro aA wA cA hNA hRA hckA hOA hbsA hdpA
       have qA_0 := (hbsA 0 rfl).trans (sl_base hN197 rfl s197_0)
       clear hbsA hdpA
       refine op_move (ev_base hNA rfl qA_0) ?_
       exact obR_end rfl rfl (grown_refl _ _)
      ·
       intro aA wA cA hNA hRA hckA hOA hbsA hdpA
       have qA_11 := (hbsA 11 rfl).trans (sl_base hN197 rfl s197_11)
       clear hbsA hdpA
       refine op_move (ev_base hNA rfl qA_11) ?_
       exact obR_end rfl rfl (grown_refl _ _)
      ·
       intro aA wA cA hNA hRA hckA hOA hbsA hdpA
       have qA_0 := (hbsA 0 rfl).trans (sl_base hN197 rfl s197_0)
       clear hbsA hdpA
       refine op_move (ev_base hNA rfl qA_0) ?_
       exact obR_end rfl rfl (grown_refl _ _)
      ·
       intro aA wA cA hNA hRA hckA hOA hbsA hdpA
       have qA_1 := (hbsA 1 rfl).trans (sl_base hN197 rfl s197_1)
       clear hbsA hdpA
       refine op_move (ev_base hNA rfl qA_1) ?_
       exact obR_end rfl rfl (grown_refl _ _)
      ·
       intro aA wA cA hNA hRA hckA hOA hbsA hdpA
       have qA_0 := (hbsA 0 rfl).trans (sl_base hN197 rfl s197_0)
       clear hbsA hdpA
       refine op_move (ev_base hNA rfl qA_0) ?_
       exact obR_end rfl rfl (grown_refl _ _)
      ·
       intro aA wA cA hNA hRA hckA hOA hbsA hdpA
       have qA_1 := (hbsA 1 rfl).trans (sl_base hN197 rfl s197_1)
       clear hbsA hdpA
       refine op_move (ev_base hNA rfl qA_1) ?_
       exact obR_end rfl rfl (grown_refl _ _)
      ·
       intro aA wA cA hNA hRA hckA hOA hbsA hdpA
       have qA_70 : Sl aA 70 v := hdpA 4 _ 70 (by kernel_rfl) rfl rfl
       have qA_71 : Sl aA 71 (Value.int .i64 ((a : Nat) : Int)) := hdpA 5 _ 71 (by kernel_rfl) rfl rfl
       clear hbsA hdpA
       refine op_index_own (i := a) slt22 (ev_base hNA rfl qA_70) hOA (ev_base hNA rfl qA_71) (by omega) (by omega) ?_
       intro b_ o_ _ hA_
       exact obR_end rfl ⟨b_, o_, rfl, by simpa using hA_⟩ (grown_refl _ _)
      ·
       intro aA wA cA hNA hRA hckA hOA hbsA hdpA
       obtain ⟨bA_72, oA_72, qA_72, hAA_72⟩ := hdpA 6 _ 72 (by kernel_rfl) rfl rfl
       clear hbsA hdpA
       obtain rfl : cA = 0 := Nat.le_zero.1 (hckA 0 13 rfl (by kernel_rfl))
       have hOA : Own wA base 35 1 v n (d1.toList.map u16v) := hOA
       refine op_load1 (v := (Value.int .u16 (d1[a]!.toNat : Int))) one35 (ev_base hNA rfl qA_72) (by have := hOA.cellAt hAA_72 0 _ (el_at (i := a) (by first | omega | (simp only [Array.size_setIfInBounds, swp_sz, siftDown_size]; omega))); simpa using this) ?_
       exact obR_end rfl rfl (grown_refl _ _)
      ·
       intro aA wA cA hNA hRA hckA hOA hbsA hdpA
       have qA_0 := (hbsA 0 rfl).trans (sl_base hN197 rfl s197_0)
       clear hbsA hdpA
       refine op_move (ev_base hNA rfl qA_0) ?_
       exact obR_end rfl rfl (grown_refl _ _)
      ·
       intro aA wA cA hNA hRA hckA hOA hbsA hdpA
       have qA_11 := (hbsA 11 rfl).trans (sl_base hN197 rfl s197_11)
       clear hbsA hdpA
       refine op_move (ev_base hNA rfl qA_11) ?_
       exact obR_end rfl rfl (grown_refl _ _)
      ·
       intro aA wA cA hNA hRA hckA hOA hbsA hdpA
       have qA_74 : Sl aA 74 v := hdpA 8 _ 74 (by kernel_rfl) rfl rfl
       have qA_75 : Sl aA 75 (Value.int .i64 ((j2 : Nat) : Int)) := hdpA 9 _ 75 (by kernel_rfl) rfl rfl
       clear hbsA hdpA
       refine op_index_own (i := j2) slt22 (ev_base hNA rfl qA_74) hOA (ev_base hNA rfl qA_75) (by omega) (by omega) ?_
       intro b_ o_ _ hA_
       exact obR_end rfl ⟨b_, o_, rfl, by simpa using hA_⟩ (grown_refl _ _)
      ·
       intro aA wA cA hNA hRA hckA hOA hbsA hdpA
       obtain ⟨bA_76, oA_76, qA_76, hAA_76⟩ := hdpA 10 _ 76 (by kernel_rfl) rfl rfl
       clear hbsA hdpA
       obtain rfl : cA = 0 := Nat.le_zero.1 (hckA 0 13 rfl (by kernel_rfl))
       have hOA : Own wA base 35 1 v n (d1.toList.map u16v) := hOA
       refine op_load1 (v := (Value.int .u16 (d1[j2]!.toNat : Int))) one35 (ev_base hNA rfl qA_76) (by have := hOA.cellAt hAA_76 0 _ (el_at (i := j2) (by first | omega | (simp only [Array.size_setIfInBounds, swp_sz, siftDown_size]; omega))); simpa using this) ?_
       exact obR_end rfl rfl (grown_refl _ _)
      ·
       intro aA wA cA hNA hRA hckA hOA hbsA hdpA
       have qA_66 : Sl aA 66 v := hdpA 0 _ 66 (by kernel_rfl) rfl rfl
       have qA_67 : Sl aA 67 (Value.int .i64 ((j2 : Nat) : Int)) := hdpA 1 _ 67 (by kernel_rfl) rfl rfl
       clear hbsA hdpA
       refine op_index_own (i := j2) slt22 (ev_base hNA rfl qA_66) hOA (ev_base hNA rfl qA_67) (by omega) (by omega) ?_
       intro b_ o_ _ hA_
       exact obR_end rfl ⟨b_, o_, rfl, by simpa using hA_⟩ (grown_refl _ _)
      ·
       intro aA wA cA hNA hRA hckA hOA hbsA hdpA
       have qA_68 : Sl aA 68 v := hdpA 2 _ 68 (by kernel_rfl) rfl rfl
       have qA_69 : Sl aA 69 (Value.int .i64 ((a : Nat) : Int)) := hdpA 3 _ 69 (by kernel_rfl) rfl rfl
       clear hbsA hdpA
       refine op_index_own (i := a) slt22 (ev_base hNA rfl qA_68) hOA (ev_base hNA rfl qA_69) (by omega) (by omega) ?_
       intro b_ o_ _ hA_
       exact obR_end rfl ⟨b_, o_, rfl, by simpa using hA_⟩ (grown_refl _ _)
      ·
       intro o_ ho_; obtain rfl := Option.some.inj ho_; intro aA wA hNA hRA hbsA hdpA hOA
       obtain ⟨bA_78, oA_78, qA_78, hAA_78⟩ := hdpA 12 _ 78 (by kernel_rfl) rfl rfl
       have qA_73 : Sl aA 73 (Value.int .u16 (d1[a]!.toNat : Int)) := hdpA 7 _ 73 (by kernel_rfl) rfl rfl
       clear hbsA hdpA
       have hOA : Own wA base 35 1 v n (d1.toList.map u16v) := hOA
       refine op_store_own (vs := [(Value.int .u16 (d1[a]!.toNat : Int))]) size35 (ev_base hNA rfl qA_78) (ev_base hNA rfl qA_73) rfl rfl rfl hOA hAA_78 (by have := hOA.1; simp at this ⊢; omega) ?_
       intro w_ hO_ E_
       exact obW_end rfl (hO_.cast rfl (set_arr (by first | omega | (simp only [Array.size_setIfInBounds, swp_sz, siftDown_size]; omega)))) E_
      ·
       intro o_ ho_; obtain rfl := Option.some.inj ho_; intro aA wA hNA hRA hbsA hdpA hOA
       obtain ⟨bA_79, oA_79, qA_79, hAA_79⟩ := hdpA 14 _ 79 (by kernel_rfl) rfl rfl
       have qA_77 : Sl aA 77 (Value.int .u16 (d1[j2]!.toNat : Int)) := hdpA 11 _ 77 (by kernel_rfl) rfl rfl
       clear hbsA hdpA
       have hOA : Own wA base 35 1 v n ((d1.setIfInBounds j2 d1[a]!).toList.map u16v) := hOA
       refine op_store_own (vs := [(Value.int .u16 (d1[j2]!.toNat : Int))]) size35 (ev_base hNA rfl qA_79) (ev_base hNA rfl qA_77) rfl rfl rfl hOA hAA_79 (by have := hOA.1; simp at this ⊢; omega) ?_
       intro w_ hO_ E_
       exact obW_end rfl (hO_.cast rfl (set_arr (by first | omega | (simp only [Array.size_setIfInBounds, swp_sz, siftDown_size]; omega)))) E_
      ·
       intro a213 w213 hN213 hd213 hbs213 hph213 hO213 E213
       have hd213 := hd213.trans hd197
       have s213_0 := (hbs213 0 rfl).trans (sl_base hN197 rfl s197_0)
       have s213_1 := (hbs213 1 rfl).trans (sl_base hN197 rfl s197_1)
       have s213_8 := (hbs213 8 rfl).trans (sl_base hN197 rfl s197_8)
       have s213_9 := (hbs213 9 rfl).trans (sl_base hN197 rfl s197_9)
       have s213_10 := (hbs213 10 rfl).trans (sl_base hN197 rfl s197_10)
       have s213_11 := (hbs213 11 rfl).trans (sl_base hN197 rfl s197_11)
       clear hbs213 hph213
       have hO213 : Own w213 base 35 1 v n (((d1.setIfInBounds j2 d1[a]!).setIfInBounds a d1[j2]!).toList.map u16v) := hO213
       have z_w213 := E213.size
       have hb := grow_stepX hb E213 rfl
       refine hK212 _ _ ?_
       refine seq_any fun K214 hK214 => ?_
       refine one_reg ?_
       refine op_move (ev_base hN213 rfl s213_11) ?_
       refine op_assign (ev_hit hN213 rfl) ?_
       refine op_assign rfl ?_
       refine reg_nil ?_
       refine hK214 _ _ ?_
       refine wp_ret (then_ret ( ?_))
       refine ret2 rfl hd213 (ev_hit hN213 rfl) (ev_hit hN213 rfl) ⟨_, rfl, ?_⟩
       -- path 65T
       have hq := pt_stop hd1 hu2 hv2 (by omega)
       exact ⟨hb, by rw [hq]; rfl, hO213.cast rfl (by rw [hq]; rfl)⟩
     · -- 65F
      refine reg_nil ?_
      refine hK211 _ _ ?_
      refine wp_cond_false (ev_hit hN197 rfl) ?_
      refine wp_skip ?_
      refine hK210 _ _ ?_
      refine seq_any fun K215 hK215 => ?_
      refine reg_mid (e := 35) (sz := 1) (base := base) (n := n) (v := v) (Φ := phiL [(fun uz _ => uz = v), (fun uz _ => uz = (Value.int .i64 ((i2 : Nat) : Int))), (fun uz _ => uz = v), (fun uz _ => uz = (Value.int .i64 ((j2 : Nat) : Int))), (fun uz _ => uz = v), (fun uz _ => uz = (Value.int .i64 ((j2 : Nat) : Int))), (fun uz _ => ∃ bz oz, uz = ptr bz oz ∧ AtV v j2 bz oz), (fun uz _ => uz = (Value.int .u16 (d1[j2]!.toNat : Int))), (fun uz _ => uz = v), (fun uz _ => uz = (Value.int .i64 ((i2 : Nat) : Int))), (fun uz _ => ∃ bz oz, uz = ptr bz oz ∧ AtV v i2 bz oz), (fun uz _ => uz = (Value.int .u16 (d1[i2]!.toNat : Int))), (fun uz _ => ∃ bz oz, uz = ptr bz oz ∧ AtV v i2 bz oz), (fun _ _ => True), (fun uz _ => ∃ bz oz, uz = ptr bz oz ∧ AtV v j2 bz oz), (fun _ _ => True)]) [13, 15] [(d1.toList.map u16v), ((d1.setIfInBounds i2 d1[j2]!).toList.map u16v), (((d1.setIfInBounds i2 d1[j2]!).setIfInBounds j2 d1[i2]!).toList.map u16v)] mixed (by kernel_rfl) (by kernel_rfl) (by kernel_rfl) (by kernel_rfl) hN197 hO182 (StL.get (StL.eq (StL.eq (StL.eq (StL.eq (StL.eq (StL.eq (StL.at (StL.eq (StL.eq (StL.eq (StL.at (StL.eq (StL.at (StL.cons (fun _ _ _ _ h => h) (StL.at (StL.cons (fun _ _ _ _ h => h) (StL.nil _)))))))))))))))))) (ObRs.get (ObRs.cons ?_ (ObRs.cons ?_ (ObRs.cons ?_ (ObRs.cons ?_ (ObRs.cons ?_ (ObRs.cons ?_ (ObRs.cons ?_ (ObRs.cons ?_ (ObRs.cons ?_ (ObRs.cons ?_ (ObRs.cons ?_ (ObRs.cons ?_ (ObRs.cons ?_ (ObRs.pass rfl (ObRs.cons ?_ (ObRs.pass rfl (ObRs.nil)))))))))))))))))) (ObWs.get (ObWs.cons ?_ (ObWs.cons ?_ (ObWs.nil)))) ?_
      ·
       intro aA wA cA hNA hRA hckA hOA hbsA hdpA
       have qA_0 := (hbsA 0 rfl).trans (sl_base hN197 rfl s197_0)
       clear hbsA hdpA
       refine op_move (ev_base hNA rfl qA_0) ?_
       exact obR_end rfl rfl (grown_refl _ _)
      ·
       intro aA wA cA hNA hRA hckA hOA hbsA hdpA
       have qA_10 := (hbsA 10 rfl).trans (sl_base hN197 rfl s197_10)
       clear hbsA hdpA
       refine op_move (ev_base hNA rfl qA_10) ?_
       exact obR_end rfl rfl (grown_refl _ _)
      ·
       intro aA wA cA hNA hRA hckA hOA hbsA hdpA
       have qA_0 := (hbsA 0 rfl).trans (sl_base hN197 rfl s197_0)
       clear hbsA hdpA
       refine op_move (ev_base hNA rfl qA_0) ?_
       exact obR_end rfl rfl (grown_refl _ _)
      ·
       intro aA wA cA hNA hRA hckA hOA hbsA hdpA
       have qA_11 := (hbsA 11 rfl).trans (sl_base hN197 rfl s197_11)
       clear hbsA hdpA
       refine op_move (ev_base hNA rfl qA_11) ?_
       exact obR_end rfl rfl (grown_refl _ _)
      ·
       intro aA wA cA hNA hRA hckA hOA hbsA hdpA
       have qA_0 := (hbsA 0 rfl).trans (sl_base hN197 rfl s197_0)
       clear hbsA hdpA
       refine op_move (ev_base hNA rfl qA_0) ?_
       exact obR_end rfl rfl (grown_refl _ _)
      ·
       intro aA wA cA hNA hRA hckA hOA hbsA hdpA
       have qA_11 := (hbsA 11 rfl).trans (sl_base hN197 rfl s197_11)
       clear hbsA hdpA
       refine op_move (ev_base hNA rfl qA_11) ?_
       exact obR_end rfl rfl (grown_refl _ _)
      ·
       intro aA wA cA hNA hRA hckA hOA hbsA hdpA
       have qA_85 : Sl aA 85 v := hdpA 4 _ 85 (by kernel_rfl) rfl rfl
       have qA_86 : Sl aA 86 (Value.int .i64 ((j2 : Nat) : Int)) := hdpA 5 _ 86 (by kernel_rfl) rfl rfl
       clear hbsA hdpA
       refine op_index_own (i := j2) slt22 (ev_base hNA rfl qA_85) hOA (ev_base hNA rfl qA_86) (by omega) (by omega) ?_
       intro b_ o_ _ hA_
       exact obR_end rfl ⟨b_, o_, rfl, by simpa using hA_⟩ (grown_refl _ _)
      ·
       intro aA wA cA hNA hRA hckA hOA hbsA hdpA
       obtain ⟨bA_87, oA_87, qA_87, hAA_87⟩ := hdpA 6 _ 87 (by kernel_rfl) rfl rfl
       clear hbsA hdpA
       obtain rfl : cA = 0 := Nat.le_zero.1 (hckA 0 13 rfl (by kernel_rfl))
       have hOA : Own wA base 35 1 v n (d1.toList.map u16v) := hOA
       refine op_load1 (v := (Value.int .u16 (d1[j2]!.toNat : Int))) one35 (ev_base hNA rfl qA_87) (by have := hOA.cellAt hAA_87 0 _ (el_at (i := j2) (by first | omega | (simp only [Array.size_setIfInBounds, swp_sz, siftDown_size]; omega))); simpa using this) ?_
       exact obR_end rfl rfl (grown_refl _ _)
      ·
       intro aA wA cA hNA hRA hckA hOA hbsA hdpA
       have qA_0 := (hbsA 0 rfl).trans (sl_base hN197 rfl s197_0)
       clear hbsA hdpA
       refine op_move (ev_base hNA rfl qA_0) ?_
       exact obR_end rfl rfl (grown_refl _ _)
      ·
       intro aA wA cA hNA hRA hckA hOA hbsA hdpA
       have qA_10 := (hbsA 10 rfl).trans (sl_base hN197 rfl s197_10)
       clear hbsA hdpA
       refine op_move (ev_base hNA rfl qA_10) ?_
       exact obR_end rfl rfl (grown_refl _ _)
      ·
       intro aA wA cA hNA hRA hckA hOA hbsA hdpA
       have qA_89 : Sl aA 89 v := hdpA 8 _ 89 (by kernel_rfl) rfl rfl
       have qA_90 : Sl aA 90 (Value.int .i64 ((i2 : Nat) : Int)) := hdpA 9 _ 90 (by kernel_rfl) rfl rfl
       clear hbsA hdpA
       refine op_index_own (i := i2) slt22 (ev_base hNA rfl qA_89) hOA (ev_base hNA rfl qA_90) (by omega) (by omega) ?_
       intro b_ o_ _ hA_
       exact obR_end rfl ⟨b_, o_, rfl, by simpa using hA_⟩ (grown_refl _ _)
      ·
       intro aA wA cA hNA hRA hckA hOA hbsA hdpA
       obtain ⟨bA_91, oA_91, qA_91, hAA_91⟩ := hdpA 10 _ 91 (by kernel_rfl) rfl rfl
       clear hbsA hdpA
       obtain rfl : cA = 0 := Nat.le_zero.1 (hckA 0 13 rfl (by kernel_rfl))
       have hOA : Own wA base 35 1 v n (d1.toList.map u16v) := hOA
       refine op_load1 (v := (Value.int .u16 (d1[i2]!.toNat : Int))) one35 (ev_base hNA rfl qA_91) (by have := hOA.cellAt hAA_91 0 _ (el_at (i := i2) (by first | omega | (simp only [Array.size_setIfInBounds, swp_sz, siftDown_size]; omega))); simpa using this) ?_
       exact obR_end rfl rfl (grown_refl _ _)
      ·
       intro aA wA cA hNA hRA hckA hOA hbsA hdpA
       have qA_81 : Sl aA 81 v := hdpA 0 _ 81 (by kernel_rfl) rfl rfl
       have qA_82 : Sl aA 82 (Value.int .i64 ((i2 : Nat) : Int)) := hdpA 1 _ 82 (by kernel_rfl) rfl rfl
       clear hbsA hdpA
       refine op_index_own (i := i2) slt22 (ev_base hNA rfl qA_81) hOA (ev_base hNA rfl qA_82) (by omega) (by omega) ?_
       intro b_ o_ _ hA_
       exact obR_end rfl ⟨b_, o_, rfl, by simpa using hA_⟩ (grown_refl _ _)
      ·
       intro aA wA cA hNA hRA hckA hOA hbsA hdpA
       have qA_83 : Sl aA 83 v := hdpA 2 _ 83 (by kernel_rfl) rfl rfl
       have qA_84 : Sl aA 84 (Value.int .i64 ((j2 : Nat) : Int)) := hdpA 3 _ 84 (by kernel_rfl) rfl rfl
       clear hbsA hdpA
       refine op_index_own (i := j2) slt22 (ev_base hNA rfl qA_83) hOA (ev_base hNA rfl qA_84) (by omega) (by omega) ?_
       intro b_ o_ _ hA_
       exact obR_end rfl ⟨b_, o_, rfl, by simpa using hA_⟩ (grown_refl _ _)
      ·
       intro o_ ho_; obtain rfl := Option.some.inj ho_; intro aA wA hNA hRA hbsA hdpA hOA
       obtain ⟨bA_93, oA_93, qA_93, hAA_93⟩ := hdpA 12 _ 93 (by kernel_rfl) rfl rfl
       have qA_88 : Sl aA 88 (Value.int .u16 (d1[j2]!.toNat : Int)) := hdpA 7 _ 88 (by kernel_rfl) rfl rfl
       clear hbsA hdpA
       have hOA : Own wA base 35 1 v n (d1.toList.map u16v) := hOA
       refine op_store_own (vs := [(Value.int .u16 (d1[j2]!.toNat : Int))]) size35 (ev_base hNA rfl qA_93) (ev_base hNA rfl qA_88) rfl rfl rfl hOA hAA_93 (by have := hOA.1; simp at this ⊢; omega) ?_
       intro w_ hO_ E_
       exact obW_end rfl (hO_.cast rfl (set_arr (by first | omega | (simp only [Array.size_setIfInBounds, swp_sz, siftDown_size]; omega)))) E_
      ·
       intro o_ ho_; obtain rfl := Option.some.inj ho_; intro aA wA hNA hRA hbsA hdpA hOA
       obtain ⟨bA_94, oA_94, qA_94, hAA_94⟩ := hdpA 14 _ 94 (by kernel_rfl) rfl rfl
       have qA_92 : Sl aA 92 (Value.int .u16 (d1[i2]!.toNat : Int)) := hdpA 11 _ 92 (by kernel_rfl) rfl rfl
       clear hbsA hdpA
       have hOA : Own wA base 35 1 v n ((d1.setIfInBounds i2 d1[j2]!).toList.map u16v) := hOA
       refine op_store_own (vs := [(Value.int .u16 (d1[i2]!.toNat : Int))]) size35 (ev_base hNA rfl qA_94) (ev_base hNA rfl qA_92) rfl rfl rfl hOA hAA_94 (by have := hOA.1; simp at this ⊢; omega) ?_
       intro w_ hO_ E_
       exact obW_end rfl (hO_.cast rfl (set_arr (by first | omega | (simp only [Array.size_setIfInBounds, swp_sz, siftDown_size]; omega)))) E_
      ·
       intro a216 w216 hN216 hd216 hbs216 hph216 hO216 E216
       have hd216 := hd216.trans hd197
       have s216_0 := (hbs216 0 rfl).trans (sl_base hN197 rfl s197_0)
       have s216_1 := (hbs216 1 rfl).trans (sl_base hN197 rfl s197_1)
       have s216_8 := (hbs216 8 rfl).trans (sl_base hN197 rfl s197_8)
       have s216_9 := (hbs216 9 rfl).trans (sl_base hN197 rfl s197_9)
       have s216_10 := (hbs216 10 rfl).trans (sl_base hN197 rfl s197_10)
       have s216_11 := (hbs216 11 rfl).trans (sl_base hN197 rfl s197_11)
       clear hbs216 hph216
       have hO216 : Own w216 base 35 1 v n (((d1.setIfInBounds i2 d1[j2]!).setIfInBounds j2 d1[i2]!).toList.map u16v) := hO216
       have z_w216 := E216.size
       have hb := grow_stepX hb E216 rfl
       refine hK215 _ _ ?_
       refine seq_any fun K217 hK217 => ?_
       refine one_reg ?_
       refine op_move (ev_base hN216 rfl s216_10) ?_
       refine op_add (ev_hit hN216 rfl) rfl (add64 (by omega)) ?_
       refine op_assign (ev_hit hN216 rfl) ?_
       refine reg_nil ?_
       refine hK217 _ _ ?_
       refine seq_any fun K218 hK218 => ?_
       refine one_reg ?_
       refine op_move (ev_base hN216 rfl s216_11) ?_
       refine op_sub (r := ((j2 - 1 : Nat) : Int)) (ev_hit hN216 rfl) rfl (by rw [IntKind.wrap_i64]; omega) ?_
       refine op_assign (ev_hit hN216 rfl) ?_
       refine reg_nil ?_
       refine hK218 _ _ ?_
       refine seq_any fun K219 hK219 => ?_
       refine wp_block ?_
       refine loop_m (fun mz_ az_ w' => ∃ (ii jj : Nat) (dk : Ar), mz_ = (jj + 2 - ii) ∧ (az_.tmps.getD 0 undef = v) ∧ (az_.tmps.getD 1 undef = (Value.int .i64 ((a : Nat) : Int))) ∧ (az_.tmps.getD 8 undef = (Value.int .i64 0)) ∧ (az_.tmps.getD 9 undef = (Value.bool false)) ∧ (az_.tmps.getD 10 undef = (Value.int .i64 ((ii : Nat) : Int))) ∧ (az_.tmps.getD 11 undef = (Value.int .i64 ((jj : Nat) : Int))) ∧ (dk.size = n) ∧ (a < ii ∧ ii ≤ jj + 1 ∧ jj < b) ∧ (partLoop ltT a (i2 + 1) (j2 - 1) (swp d1 i2 j2) = partLoop ltT a ii jj dk) ∧ (w.grownBy w' v.ownBlock) ∧ (w216.heap.size ≤ w'.heap.size) ∧ (Own w' base 35 1 v n (dk.toList.map u16v))) _ hN216 hd216 ⟨(i2 + 1), (j2 - 1), _, rfl, (sl_base hN216 rfl s216_0), (sl_base hN216 rfl s216_1), (sl_base hN216 rfl s216_8), (sl_base hN216 rfl s216_9), (sl_hit hN216 rfl).trans (congrArg (Value.int .i64) (by omega)), (sl_hit hN216 rfl).trans (congrArg (Value.int .i64) (by omega)), (by first | assumption | (simp only [Array.size_setIfInBounds, swp_sz, siftDown_size]; assumption)), (by omega), rfl, hb, (Nat.le_refl _), hO216⟩ ?_
       rintro _ a220 w220 hN220 hd220 ⟨ii, jj, dk, rfl, s220_0, s220_1, s220_8, s220_9, s220_10, s220_11, hdk, hr4, hs, hb, zl_w220, hO221⟩
       have z_w220 := hb.size
       refine wp_block ?_
       refine seq_join1 (N := 168) (fun az_ w' => ∃ (i3 : Nat), (az_.tmps.getD 0 undef = v) ∧ (az_.tmps.getD 1 undef = (Value.int .i64 ((a : Nat) : Int))) ∧ (az_.tmps.getD 8 undef = (Value.int .i64 0)) ∧ (az_.tmps.getD 9 undef = (Value.bool false)) ∧ (az_.tmps.getD 11 undef = (Value.int .i64 ((jj : Nat) : Int))) ∧ (az_.tmps.getD 10 undef = (Value.int .i64 ((i3 : Nat) : Int))) ∧ (ii ≤ i3 ∧ i3 ≤ jj + 1) ∧ (scanUp (fun x => ltT x dk[a]!) dk jj ii = i3) ∧ (i3 ≤ jj → ltT dk[i3]! dk[a]! = false) ∧ (w.grownBy w' v.ownBlock) ∧ (w220.heap.size ≤ w'.heap.size) ∧ (Own w' base 35 1 v n (dk.toList.map u16v))) (fun hJ222 => ?_) ?_
       ·
        refine seq_any fun K223 hK223 => ?_
        refine wp_block ?_
        refine loop_m (fun mz_ az_ w' => ∃ (i3 : Nat), mz_ = (jj + 1 - i3) ∧ (az_.tmps.getD 0 undef = v) ∧ (az_.tmps.getD 1 undef = (Value.int .i64 ((a : Nat) : Int))) ∧ (az_.tmps.getD 8 undef = (Value.int .i64 0)) ∧ (az_.tmps.getD 9 undef = (Value.bool false)) ∧ (az_.tmps.getD 11 undef = (Value.int .i64 ((jj : Nat) : Int))) ∧ (az_.tmps.getD 10 undef = (Value.int .i64 ((i3 : Nat) : Int))) ∧ (ii ≤ i3 ∧ i3 ≤ jj + 1) ∧ (scanUp (fun x => ltT x dk[a]!) dk jj ii = scanUp (fun x => ltT x dk[a]!) dk jj i3) ∧ (w.grownBy w' v.ownBlock) ∧ (w220.heap.size ≤ w'.heap.size) ∧ (Own w' base 35 1 v n (dk.toList.map u16v))) _ hN220 hd220 ⟨ii, rfl, (sl_base hN220 rfl s220_0), (sl_base hN220 rfl s220_1), (sl_base hN220 rfl s220_8), (sl_base hN220 rfl s220_9), (sl_base hN220 rfl s220_11), (sl_base hN220 rfl s220_10).trans (congrArg (Value.int .i64) (by omega)), (by omega), rfl, hb, (Nat.le_refl _), hO221⟩ ?_
        rintro _ a224 w224 hN224 hd224 ⟨i3, rfl, s224_0, s224_1, s224_8, s224_9, s224_11, s224_10, hr5, hu3, hb, zl_w224, hO221⟩
        have z_w224 := hb.size
        refine seq_any fun K225 hK225 => ?_
        refine seq_any fun K226 hK226 => ?_
        refine reg_still mixed (by kernel_rfl) ?_
        intro w228 E227
        have z_w228 := E227.size
        have hO221 := hO221.keep0 E227
        have hb := grow_step0 hb E227
        refine st_step rfl (fun _ h9 => op_move (ev_base hN224 rfl s224_10) h9) ?_
        refine st_step rfl (fun _ h9 => op_move (ev_base hN224 rfl s224_11) h9) ?_
        by_cases g101 : ((i3 : Nat) : Int) ≤ ((jj : Nat) : Int)
        · -- 101T
         refine st_step rfl (fun _ h9 => op_cmp (b := true) (ev_hit hN224 rfl) (ev_hit hN224 rfl) (b_leq (decide_eq_true g101)) h9) ?_
         refine st_step rfl (fun _ h9 => op_move (ev_hit hN224 rfl) h9) ?_
         refine st_g_true (j := 3) (dj := 102) (b := true) rfl rfl rfl (ev_hit hN224 rfl) ?_
         refine st_step rfl (fun _ h9 => op_move (ev_base hN224 rfl s224_0) h9) ?_
         refine st_g_true (j := 3) (dj := 102) (b := true) rfl rfl rfl (ev_hit hN224 rfl) ?_
         refine st_step rfl (fun _ h9 => op_move (ev_base hN224 rfl s224_10) h9) ?_
         refine st_g_true (j := 3) (dj := 102) (b := true) rfl rfl rfl (ev_hit hN224 rfl) ?_
         refine st_index_rd slt22 (ev_hit hN224 rfl) hO221.rdw (ev_hit hN224 rfl) (by omega) (by omega) ?_
         intro b229 o230 h0b229 h1b229 hc231
         refine st_g_true (j := 3) (dj := 102) (b := true) rfl rfl rfl (ev_hit hN224 rfl) ?_
         refine st_step rfl (fun _ h9 => op_load1 (v := (Value.int .u16 (dk[i3]!.toNat : Int))) one35 (ev_hit hN224 rfl) (by have := hc231 0 (Value.int .u16 (dk[i3]!.toNat : Int)) (by decide) (el_arr (i := i3) (by omega) (by first | omega | (simp only [Array.size_setIfInBounds, swp_sz, siftDown_size]; omega))); simpa using this) h9) ?_
         refine st_g_true (j := 3) (dj := 102) (b := true) rfl rfl rfl (ev_hit hN224 rfl) ?_
         refine st_step rfl (fun _ h9 => op_move (ev_base hN224 rfl s224_0) h9) ?_
         refine st_g_true (j := 3) (dj := 102) (b := true) rfl rfl rfl (ev_hit hN224 rfl) ?_
         refine st_step rfl (fun _ h9 => op_move (ev_base hN224 rfl s224_1) h9) ?_
         refine st_g_true (j := 3) (dj := 102) (b := true) rfl rfl rfl (ev_hit hN224 rfl) ?_
         refine st_index_rd slt22 (ev_hit hN224 rfl) hO221.rdw (ev_hit hN224 rfl) (by omega) (by omega) ?_
         intro b232 o233 h0b232 h1b232 hc234
         refine st_g_true (j := 3) (dj := 102) (b := true) rfl rfl rfl (ev_hit hN224 rfl) ?_
         refine st_step rfl (fun _ h9 => op_load1 (v := (Value.int .u16 (dk[a]!.toNat : Int))) one35 (ev_hit hN224 rfl) (by have := hc234 0 (Value.int .u16 (dk[a]!.toNat : Int)) (by decide) (el_arr (i := a) (by omega) (by first | omega | (simp only [Array.size_setIfInBounds, swp_sz, siftDown_size]; omega))); simpa using this) h9) ?_
         refine st_g_true (j := 3) (dj := 102) (b := true) rfl rfl rfl (ev_hit hN224 rfl) ?_
         refine st_fn (vs := [(Value.int .u16 (dk[i3]!.toNat : Int)), (Value.int .u16 (dk[a]!.toNat : Int))]) ok72 (⟨(ev_hit hN224 rfl), ⟨(ev_hit hN224 rfl), trivial⟩⟩) (Less16_ret dk[i3]! dk[a]! _) ?_
         refine st_step rfl (fun _ h9 => op_pick_t (ev_hit hN224 rfl) (ev_hit hN224 rfl) h9) ?_
         refine st_nil ?_
         refine hK226 _ _ ?_
         refine wp_cond_split (ev_hit hN224 rfl) (fun c112 => ?_) (fun c112 => ?_)
         · -- 112T
          refine wp_skip ?_
          refine hK225 _ _ ?_
          refine wp_block ?_
          refine one_reg ?_
          refine op_move (ev_base hN224 rfl s224_10) ?_
          refine op_add (ev_hit hN224 rfl) rfl (add64 (by omega)) ?_
          refine op_assign (ev_hit hN224 rfl) ?_
          refine reg_nil ?_
          refine blk_normal ?_
          -- round 65F 101T 112T
          exact loop_next _ hN224 hd224 ⟨(i3 + 1), rfl, (sl_base hN224 rfl s224_0), (sl_base hN224 rfl s224_1), (sl_base hN224 rfl s224_8), (sl_base hN224 rfl s224_9), (sl_base hN224 rfl s224_11), (sl_hit hN224 rfl).trans (congrArg (Value.int .i64) (by omega)), (by omega), (hu3.trans (scanUp_go (by omega) c112)), hb, (by omega), hO221⟩ (by omega)
         · -- 112F
          refine wp_exit (then_exit (then_exit (blk_hit ?_)))
          refine hK223 _ _ ?_
          exact hJ222 _ _ _ hN224 hd224 ⟨i3, (sl_base hN224 rfl s224_0), (sl_base hN224 rfl s224_1), (sl_base hN224 rfl s224_8), (sl_base hN224 rfl s224_9), (sl_base hN224 rfl s224_11), (sl_base hN224 rfl s224_10), (by omega), (hu3.trans (scanUp_stop (.inr c112))), (fun _ => c112), hb, (by omega), hO221⟩
        · -- 101F
         refine st_step rfl (fun _ h9 => op_cmp (b := false) (ev_hit hN224 rfl) (ev_hit hN224 rfl) (b_leq (decide_eq_false g101)) h9) ?_
         refine st_step rfl (fun _ h9 => op_move (ev_hit hN224 rfl) h9) ?_
         refine st_g_false (j := 3) (dj := 102) (b := true) rfl rfl rfl (ev_hit hN224 rfl) rfl rfl ?_
         refine st_g_false (j := 3) (dj := 102) (b := true) rfl rfl rfl (ev_hit hN224 rfl) rfl rfl ?_
         refine st_g_false (j := 3) (dj := 102) (b := true) rfl rfl rfl (ev_hit hN224 rfl) rfl rfl ?_
         refine st_g_false (j := 3) (dj := 102) (b := true) rfl rfl rfl (ev_hit hN224 rfl) rfl rfl ?_
         refine st_g_false (j := 3) (dj := 102) (b := true) rfl rfl rfl (ev_hit hN224 rfl) rfl rfl ?_
         refine st_g_false (j := 3) (dj := 102) (b := true) rfl rfl rfl (ev_hit hN224 rfl) rfl rfl ?_
         refine st_g_false (j := 3) (dj := 102) (b := true) rfl rfl rfl (ev_hit hN224 rfl) rfl rfl ?_
         refine st_g_false (j := 3) (dj := 102) (b := true) rfl rfl rfl (ev_hit hN224 rfl) rfl rfl ?_
         refine st_g_false (j := 3) (dj := 102) (b := true) rfl rfl rfl (ev_hit hN224 rfl) rfl rfl ?_
         refine st_step rfl (fun _ h9 => op_pick_f (ev_hit hN224 rfl) rfl h9) ?_
         refine st_nil ?_
         refine hK226 _ _ ?_
         refine wp_cond_false (ev_hit hN224 rfl) ?_
         refine wp_exit (then_exit (then_exit (blk_hit ?_)))
         refine hK223 _ _ ?_
         exact hJ222 _ _ _ hN224 hd224 ⟨i3, (sl_base hN224 rfl s224_0), (sl_base hN224 rfl s224_1), (sl_base hN224 rfl s224_8), (sl_base hN224 rfl s224_9), (sl_base hN224 rfl s224_11), (sl_base hN224 rfl s224_10), (by omega), (hu3.trans (scanUp_stop (.inl (by omega)))), (fun hq => absurd hq (by omega)), hb, (by omega), hO221⟩
       ·
        rintro a222 w222 hN222 hd222 ⟨i3, s222_0, s222_1, s222_8, s222_9, s222_11, s222_10, hr5, hu4, hx4, hb, zl_w222, hO221⟩
        have z_w222 := hb.size
        refine seq_join1 (N := 168) (fun az_ w' => ∃ (j3 : Nat), (az_.tmps.getD 0 undef = v) ∧ (az_.tmps.getD 1 undef = (Value.int .i64 ((a : Nat) : Int))) ∧ (az_.tmps.getD 8 undef = (Value.int .i64 0)) ∧ (az_.tmps.getD 9 undef = (Value.bool false)) ∧ (az_.tmps.getD 10 undef = (Value.int .i64 ((i3 : Nat) : Int))) ∧ (az_.tmps.getD 11 undef = (Value.int .i64 ((j3 : Nat) : Int))) ∧ (j3 ≤ jj ∧ i3 ≤ j3 + 1) ∧ (scanDown (fun x => !ltT x dk[a]!) dk i3 jj = j3) ∧ (i3 ≠ j3) ∧ (w.grownBy w' v.ownBlock) ∧ (w222.heap.size ≤ w'.heap.size) ∧ (Own w' base 35 1 v n (dk.toList.map u16v))) (fun hJ235 => ?_) ?_
        ·
         refine seq_any fun K236 hK236 => ?_
         refine wp_block ?_
         refine loop_m (fun mz_ az_ w' => ∃ (j3 : Nat), mz_ = (j3 + 1) ∧ (az_.tmps.getD 0 undef = v) ∧ (az_.tmps.getD 1 undef = (Value.int .i64 ((a : Nat) : Int))) ∧ (az_.tmps.getD 8 undef = (Value.int .i64 0)) ∧ (az_.tmps.getD 9 undef = (Value.bool false)) ∧ (az_.tmps.getD 10 undef = (Value.int .i64 ((i3 : Nat) : Int))) ∧ (az_.tmps.getD 11 undef = (Value.int .i64 ((j3 : Nat) : Int))) ∧ (j3 ≤ jj ∧ i3 ≤ j3 + 1) ∧ (scanDown (fun x => !ltT x dk[a]!) dk i3 jj = scanDown (fun x => !ltT x dk[a]!) dk i3 j3) ∧ (w.grownBy w' v.ownBlock) ∧ (w222.heap.size ≤ w'.heap.size) ∧ (Own w' base 35 1 v n (dk.toList.map u16v))) _ hN222 hd222 ⟨jj, rfl, (sl_base hN222 rfl s222_0), (sl_base hN222 rfl s222_1), (sl_base hN222 rfl s222_8), (sl_base hN222 rfl s222_9), (sl_base hN222 rfl s222_10), (sl_base hN222 rfl s222_11).trans (congrArg (Value.int .i64) (by omega)), (by omega), rfl, hb, (Nat.le_refl _), hO221⟩ ?_
         rintro _ a237 w237 hN237 hd237 ⟨j3, rfl, s237_0, s237_1, s237_8, s237_9, s237_10, s237_11, hr6, hv3, hb, zl_w237, hO221⟩
         have z_w237 := hb.size
         refine seq_any fun K238 hK238 => ?_
         refine seq_any fun K239 hK239 => ?_
         refine reg_still mixed (by kernel_rfl) ?_
         intro w241 E240
         have z_w241 := E240.size
         have hO221 := hO221.keep0 E240
         have hb := grow_step0 hb E240
         refine st_step rfl (fun _ h9 => op_move (ev_base hN237 rfl s237_10) h9) ?_
         refine st_step rfl (fun _ h9 => op_move (ev_base hN237 rfl s237_11) h9) ?_
         by_cases g117 : ((i3 : Nat) : Int) ≤ ((j3 : Nat) : Int)
         · -- 117T
          refine st_step rfl (fun _ h9 => op_cmp (b := true) (ev_hit hN237 rfl) (ev_hit hN237 rfl) (b_leq (decide_eq_true g117)) h9) ?_
          refine st_step rfl (fun _ h9 => op_move (ev_hit hN237 rfl) h9) ?_
          refine st_g_true (j := 3) (dj := 118) (b := true) rfl rfl rfl (ev_hit hN237 rfl) ?_
          refine st_step rfl (fun _ h9 => op_move (ev_base hN237 rfl s237_0) h9) ?_
          refine st_g_true (j := 3) (dj := 118) (b := true) rfl rfl rfl (ev_hit hN237 rfl) ?_
          refine st_step rfl (fun _ h9 => op_move (ev_base hN237 rfl s237_11) h9) ?_
          refine st_g_true (j := 3) (dj := 118) (b := true) rfl rfl rfl (ev_hit hN237 rfl) ?_
          refine st_index_rd slt22 (ev_hit hN237 rfl) hO221.rdw (ev_hit hN237 rfl) (by omega) (by omega) ?_
          intro b242 o243 h0b242 h1b242 hc244
          refine st_g_true (j := 3) (dj := 118) (b := true) rfl rfl rfl (ev_hit hN237 rfl) ?_
          refine st_step rfl (fun _ h9 => op_load1 (v := (Value.int .u16 (dk[j3]!.toNat : Int))) one35 (ev_hit hN237 rfl) (by have := hc244 0 (Value.int .u16 (dk[j3]!.toNat : Int)) (by decide) (el_arr (i := j3) (by omega) (by first | omega | (simp only [Array.size_setIfInBounds, swp_sz, siftDown_size]; omega))); simpa using this) h9) ?_
          refine st_g_true (j := 3) (dj := 118) (b := true) rfl rfl rfl (ev_hit hN237 rfl) ?_
          refine st_step rfl (fun _ h9 => op_move (ev_base hN237 rfl s237_0) h9) ?_
          refine st_g_true (j := 3) (dj := 118) (b := true) rfl rfl rfl (ev_hit hN237 rfl) ?_
          refine st_step rfl (fun _ h9 => op_move (ev_base hN237 rfl s237_1) h9) ?_
          refine st_g_true (j := 3) (dj := 118) (b := true) rfl rfl rfl (ev_hit hN237 rfl) ?_
          refine st_index_rd slt22 (ev_hit hN237 rfl) hO221.rdw (ev_hit hN237 rfl) (by omega) (by omega) ?_
          intro b245 o246 h0b245 h1b245 hc247
          refine st_g_true (j := 3) (dj := 118) (b := true) rfl rfl rfl (ev_hit hN237 rfl) ?_
          refine st_step rfl (fun _ h9 => op_load1 (v := (Value.int .u16 (dk[a]!.toNat : Int))) one35 (ev_hit hN237 rfl) (by have := hc247 0 (Value.int .u16 (dk[a]!.toNat : Int)) (by decide) (el_arr (i := a) (by omega) (by first | omega | (simp only [Array.size_setIfInBounds, swp_sz, siftDown_size]; omega))); simpa using this) h9) ?_
          refine st_g_true (j := 3) (dj := 118) (b := true) rfl rfl rfl (ev_hit hN237 rfl) ?_
          refine st_fn (vs := [(Value.int .u16 (dk[j3]!.toNat : Int)), (Value.int .u16 (dk[a]!.toNat : Int))]) ok72 (⟨(ev_hit hN237 rfl), ⟨(ev_hit hN237 rfl), trivial⟩⟩) (Less16_ret dk[j3]! dk[a]! _) ?_
          refine st_g_true (j := 3) (dj := 118) (b := true) rfl rfl rfl (ev_hit hN237 rfl) ?_
          refine st_step rfl (fun _ h9 => op_not (ev_hit hN237 rfl) h9) ?_
          refine st_step rfl (fun _ h9 => op_pick_t (ev_hit hN237 rfl) (ev_hit hN237 rfl) h9) ?_
          refine st_nil ?_
          refine hK239 _ _ ?_
          refine wp_cond_split (ev_hit hN237 rfl) (fun c129 => ?_) (fun c129 => ?_)
          · -- 129T
           refine wp_skip ?_
           refine hK238 _ _ ?_
           refine wp_block ?_
           refine one_reg ?_
           refine op_move (ev_base hN237 rfl s237_11) ?_
           refine op_sub (ev_hit hN237 rfl) rfl (sub64 (by omega)) ?_
           refine op_assign (ev_hit hN237 rfl) ?_
           refine reg_nil ?_
           refine blk_normal ?_
           -- round 65F 117T 129T
           exact loop_next _ hN237 hd237 ⟨(j3 - 1), rfl, (sl_base hN237 rfl s237_0), (sl_base hN237 rfl s237_1), (sl_base hN237 rfl s237_8), (sl_base hN237 rfl s237_9), (sl_base hN237 rfl s237_10), (sl_hit hN237 rfl).trans (congrArg (Value.int .i64) (by omega)), (by omega), (hv3.trans (scanDown_go (by omega) (by omega) c129)), hb, (by omega), hO221⟩ (by omega)
          · -- 129F
           refine wp_exit (then_exit (then_exit (blk_hit ?_)))
           refine hK236 _ _ ?_
           exact hJ235 _ _ _ hN237 hd237 ⟨j3, (sl_base hN237 rfl s237_0), (sl_base hN237 rfl s237_1), (sl_base hN237 rfl s237_8), (sl_base hN237 rfl s237_9), (sl_base hN237 rfl s237_10), (sl_base hN237 rfl s237_11), (by omega), (hv3.trans (scanDown_stop (.inr c129))), (fun hh => by have h9 := hx4 (by omega); rw [hh] at h9; rw [h9] at c129; simp at c129), hb, (by omega), hO221⟩
         · -- 117F
          refine st_step rfl (fun _ h9 => op_cmp (b := false) (ev_hit hN237 rfl) (ev_hit hN237 rfl) (b_leq (decide_eq_false g117)) h9) ?_
          refine st_step rfl (fun _ h9 => op_move (ev_hit hN237 rfl) h9) ?_
          refine st_g_false (j := 3) (dj := 118) (b := true) rfl rfl rfl (ev_hit hN237 rfl) rfl rfl ?_
          refine st_g_false (j := 3) (dj := 118) (b := true) rfl rfl rfl (ev_hit hN237 rfl) rfl rfl ?_
          refine st_g_false (j := 3) (dj := 118) (b := true) rfl rfl rfl (ev_hit hN237 rfl) rfl rfl ?_
          refine st_g_false (j := 3) (dj := 118) (b := true) rfl rfl rfl (ev_hit hN237 rfl) rfl rfl ?_
          refine st_g_false (j := 3) (dj := 118) (b := true) rfl rfl rfl (ev_hit hN237 rfl) rfl rfl ?_
          refine st_g_false (j := 3) (dj := 118) (b := true) rfl rfl rfl (ev_hit hN237 rfl) rfl rfl ?_
          refine st_g_false (j := 3) (dj := 118) (b := true) rfl rfl rfl (ev_hit hN237 rfl) rfl rfl ?_
          refine st_g_false (j := 3) (dj := 118) (b := true) rfl rfl rfl (ev_hit hN237 rfl) rfl rfl ?_
          refine st_g_false (j := 3) (dj := 118) (b := true) rfl rfl rfl (ev_hit hN237 rfl) rfl rfl ?_
          refine st_g_false (j := 3) (dj := 118) (b := true) rfl rfl rfl (ev_hit hN237 rfl) rfl rfl ?_
          refine st_step rfl (fun _ h9 => op_pick_f (ev_hit hN237 rfl) rfl h9) ?_
          refine st_nil ?_
          refine hK239 _ _ ?_
          refine wp_cond_false (ev_hit hN237 rfl) ?_
          refine wp_exit (then_exit (then_exit (blk_hit ?_)))
          refine hK236 _ _ ?_
          exact hJ235 _ _ _ hN237 hd237 ⟨j3, (sl_base hN237 rfl s237_0), (sl_base hN237 rfl s237_1), (sl_base hN237 rfl s237_8), (sl_base hN237 rfl s237_9), (sl_base hN237 rfl s237_10), (sl_base hN237 rfl s237_11), (by omega), (hv3.trans (scanDown_stop (.inl (by omega)))), (by omega), hb, (by omega), hO221⟩
        ·
         rintro a235 w235 hN235 hd235 ⟨j3, s235_0, s235_1, s235_8, s235_9, s235_10, s235_11, hr6, hv4, hne4, hb, zl_w235, hO221⟩
         have z_w235 := hb.size
         refine seq_any fun K248 hK248 => ?_
         refine seq_any fun K249 hK249 => ?_
         refine one_reg ?_
         refine op_move (ev_base hN235 rfl s235_10) ?_
         refine op_move (ev_base hN235 rfl s235_11) ?_
         refine op_gtr (ev_hit hN235 rfl) (ev_hit hN235 rfl) (fun c134 => ?_) (fun c134 => ?_)
         · -- 134T
          refine reg_nil ?_
          refine hK249 _ _ ?_
          refine wp_cond_true (ev_hit hN235 rfl) ?_
          refine wp_exit (then_exit (blk_miss (by decide) (then_exit (blk_hit ?_))))
          refine hK219 _ _ ?_
          refine seq_any fun K250 hK250 => ?_
          refine reg_mid (e := 35) (sz := 1) (base := base) (n := n) (v := v) (Φ := phiL [(fun uz _ => uz = v), (fun uz _ => uz = (Value.int .i64 ((j3 : Nat) : Int))), (fun uz _ => uz = v), (fun uz _ => uz = (Value.int .i64 ((a : Nat) : Int))), (fun uz _ => uz = v), (fun uz _ => uz = (Value.int .i64 ((a : Nat) : Int))), (fun uz _ => ∃ bz oz, uz = ptr bz oz ∧ AtV v a bz oz), (fun uz _ => uz = (Value.int .u16 (dk[a]!.toNat : Int))), (fun uz _ => uz = v), (fun uz _ => uz = (Value.int .i64 ((j3 : Nat) : Int))), (fun uz _ => ∃ bz oz, uz = ptr bz oz ∧ AtV v j3 bz oz), (fun uz _ => uz = (Value.int .u16 (dk[j3]!.toNat : Int))), (fun uz _ => ∃ bz oz, uz = ptr bz oz ∧ AtV v j3 bz oz), (fun _ _ => True), (fun uz _ => ∃ bz oz, uz = ptr bz oz ∧ AtV v a bz oz), (fun _ _ => True)]) [13, 15] [(dk.toList.map u16v), ((dk.setIfInBounds j3 dk[a]!).toList.map u16v), (((dk.setIfInBounds j3 dk[a]!).setIfInBounds a dk[j3]!).toList.map u16v)] mixed (by kernel_rfl) (by kernel_rfl) (by kernel_rfl) (by kernel_rfl) hN235 hO221 (StL.get (StL.eq (StL.eq (StL.eq (StL.eq (StL.eq (StL.eq (StL.at (StL.eq (StL.eq (StL.eq (StL.at (StL.eq (StL.at (StL.cons (fun _ _ _ _ h => h) (StL.at (StL.cons (fun _ _ _ _ h => h) (StL.nil _)))))))))))))))))) (ObRs.get (ObRs.cons ?_ (ObRs.cons ?_ (ObRs.cons ?_ (ObRs.cons ?_ (ObRs.cons ?_ (ObRs.cons ?_ (ObRs.cons ?_ (ObRs.cons ?_ (ObRs.cons ?_ (ObRs.cons ?_ (ObRs.cons ?_ (ObRs.cons ?_ (ObRs.cons ?_ (ObRs.pass rfl (ObRs.cons ?_ (ObRs.pass rfl (ObRs.nil)))))))))))))))))) (ObWs.get (ObWs.cons ?_ (ObWs.cons ?_ (ObWs.nil)))) ?_
          ·
           intro aA wA cA hNA hRA hckA hOA hbsA hdpA
           have qA_0 := (hbsA 0 rfl).trans (sl_base hN235 rfl s235_0)
           clear hbsA hdpA
           refine op_move (ev_base hNA rfl qA_0) ?_
           exact obR_end rfl rfl (grown_refl _ _)
          ·
           intro aA wA cA hNA hRA hckA hOA hbsA hdpA
           have qA_11 := (hbsA 11 rfl).trans (sl_base hN235 rfl s235_11)
           clear hbsA hdpA
           refine op_move (ev_base hNA rfl qA_11) ?_
           exact obR_end rfl rfl (grown_refl _ _)
          ·
           intro aA wA cA hNA hRA hckA hOA hbsA hdpA
           have qA_0 := (hbsA 0 rfl).trans (sl_base hN235 rfl s235_0)
           clear hbsA hdpA
           refine op_move (ev_base hNA rfl qA_0) ?_
           exact obR_end rfl rfl (grown_refl _ _)
          ·
           intro aA wA cA hNA hRA hckA hOA hbsA hdpA
           have qA_1 := (hbsA 1 rfl).trans (sl_base hN235 rfl s235_1)
           clear hbsA hdpA
           refine op_move (ev_base hNA rfl qA_1) ?_
           exact obR_end rfl rfl (grown_refl _ _)
          ·
           intro aA wA cA hNA hRA hckA hOA hbsA hdpA
           have qA_0 := (hbsA 0 rfl).trans (sl_base hN235 rfl s235_0)
           clear hbsA hdpA
           refine op_move (ev_base hNA rfl qA_0) ?_
           exact obR_end rfl rfl (grown_refl _ _)
          ·
           intro aA wA cA hNA hRA hckA hOA hbsA hdpA
           have qA_1 := (hbsA 1 rfl).trans (sl_base hN235 rfl s235_1)
           clear hbsA hdpA
           refine op_move (ev_base hNA rfl qA_1) ?_
           exact obR_end rfl rfl (grown_refl _ _)
          ·
           intro aA wA cA hNA hRA hckA hOA hbsA hdpA
           have qA_157 : Sl aA 157 v := hdpA 4 _ 157 (by kernel_rfl) rfl rfl
           have qA_158 : Sl aA 158 (Value.int .i64 ((a : Nat) : Int)) := hdpA 5 _ 158 (by kernel_rfl) rfl rfl
           clear hbsA hdpA
           refine op_index_own (i := a) slt22 (ev_base hNA rfl qA_157) hOA (ev_base hNA rfl qA_158) (by omega) (by omega) ?_
           intro b_ o_ _ hA_
           exact obR_end rfl ⟨b_, o_, rfl, by simpa using hA_⟩ (grown_refl _ _)
          ·
           intro aA wA cA hNA hRA hckA hOA hbsA hdpA
           obtain ⟨bA_159, oA_159, qA_159, hAA_159⟩ := hdpA 6 _ 159 (by kernel_rfl) rfl rfl
           clear hbsA hdpA
           obtain rfl : cA = 0 := Nat.le_zero.1 (hckA 0 13 rfl (by kernel_rfl))
           have hOA : Own wA base 35 1 v n (dk.toList.map u16v) := hOA
           refine op_load1 (v := (Value.int .u16 (dk[a]!.toNat : Int))) one35 (ev_base hNA rfl qA_159) (by have := hOA.cellAt hAA_159 0 _ (el_at (i := a) (by first | omega | (simp only [Array.size_setIfInBounds, swp_sz, siftDown_size]; omega))); simpa using this) ?_
           exact obR_end rfl rfl (grown_refl _ _)
          ·
           intro aA wA cA hNA hRA hckA hOA hbsA hdpA
           have qA_0 := (hbsA 0 rfl).trans (sl_base hN235 rfl s235_0)
           clear hbsA hdpA
           refine op_move (ev_base hNA rfl qA_0) ?_
           exact obR_end rfl rfl (grown_refl _ _)
          ·
           intro aA wA cA hNA hRA hckA hOA hbsA hdpA
           have qA_11 := (hbsA 11 rfl).trans (sl_base hN235 rfl s235_11)
           clear hbsA hdpA
           refine op_move (ev_base hNA rfl qA_11) ?_
           exact obR_end rfl rfl (grown_refl _ _)
          ·
           intro aA wA cA hNA hRA hckA hOA hbsA hdpA
           have qA_161 : Sl aA 161 v := hdpA 8 _ 161 (by kernel_rfl) rfl rfl
           have qA_162 : Sl aA 162 (Value.int .i64 ((j3 : Nat) : Int)) := hdpA 9 _ 162 (by kernel_rfl) rfl rfl
           clear hbsA hdpA
           refine op_index_own (i := j3) slt22 (ev_base hNA rfl qA_161) hOA (ev_base hNA rfl qA_162) (by omega) (by omega) ?_
           intro b_ o_ _ hA_
           exact obR_end rfl ⟨b_, o_, rfl, by simpa using hA_⟩ (grown_refl _ _)
          ·
           intro aA wA cA hNA hRA hckA hOA hbsA hdpA
           obtain ⟨bA_163, oA_163, qA_163, hAA_163⟩ := hdpA 10 _ 163 (by kernel_rfl) rfl rfl
           clear hbsA hdpA
           obtain rfl : cA = 0 := Nat.le_zero.1 (hckA 0 13 rfl (by kernel_rfl))
           have hOA : Own wA base 35 1 v n (dk.toList.map u16v) := hOA
           refine op_load1 (v := (Value.int .u16 (dk[j3]!.toNat : Int))) one35 (ev_base hNA rfl qA_163) (by have := hOA.cellAt hAA_163 0 _ (el_at (i := j3) (by first | omega | (simp only [Array.size_setIfInBounds, swp_sz, siftDown_size]; omega))); simpa using this) ?_
           exact obR_end rfl rfl (grown_refl _ _)
          ·
           intro aA wA cA hNA hRA hckA hOA hbsA hdpA
           have qA_153 : Sl aA 153 v := hdpA 0 _ 153 (by kernel_rfl) rfl rfl
           have qA_154 : Sl aA 154 (Value.int .i64 ((j3 : Nat) : Int)) := hdpA 1 _ 154 (by kernel_rfl) rfl rfl
           clear hbsA hdpA
           refine op_index_own (i := j3) slt22 (ev_base hNA rfl qA_153) hOA (ev_base hNA rfl qA_154) (by omega) (by omega) ?_
           intro b_ o_ _ hA_
           exact obR_end rfl ⟨b_, o_, rfl, by simpa using hA_⟩ (grown_refl _ _)
          ·
           intro aA wA cA hNA hRA hckA hOA hbsA hdpA
           have qA_155 : Sl aA 155 v := hdpA 2 _ 155 (by kernel_rfl) rfl rfl
           have qA_156 : Sl aA 156 (Value.int .i64 ((a : Nat) : Int)) := hdpA 3 _ 156 (by kernel_rfl) rfl rfl
           clear hbsA hdpA
           refine op_index_own (i := a) slt22 (ev_base hNA rfl qA_155) hOA (ev_base hNA rfl qA_156) (by omega) (by omega) ?_
           intro b_ o_ _ hA_
           exact obR_end rfl ⟨b_, o_, rfl, by simpa using hA_⟩ (grown_refl _ _)
          ·
           intro o_ ho_; obtain rfl := Option.some.inj ho_; intro aA wA hNA hRA hbsA hdpA hOA
           obtain ⟨bA_165, oA_165, qA_165, hAA_165⟩ := hdpA 12 _ 165 (by kernel_rfl) rfl rfl
           have qA_160 : Sl aA 160 (Value.int .u16 (dk[a]!.toNat : Int)) := hdpA 7 _ 160 (by kernel_rfl) rfl rfl
           clear hbsA hdpA
           have hOA : Own wA base 35 1 v n (dk.toList.map u16v) := hOA
           refine op_store_own (vs := [(Value.int .u16 (dk[a]!.toNat : Int))]) size35 (ev_base hNA rfl qA_165) (ev_base hNA rfl qA_160) rfl rfl rfl hOA hAA_165 (by have := hOA.1; simp at this ⊢; omega) ?_
           intro w_ hO_ E_
           exact obW_end rfl (hO_.cast rfl (set_arr (by first | omega | (simp only [Array.size_setIfInBounds, swp_sz, siftDown_size]; omega)))) E_
          ·
           intro o_ ho_; obtain rfl := Option.some.inj ho_; intro aA wA hNA hRA hbsA hdpA hOA
           obtain ⟨bA_166, oA_166, qA_166, hAA_166⟩ := hdpA 14 _ 166 (by kernel_rfl) rfl rfl
           have qA_164 : Sl aA 164 (Value.int .u16 (dk[j3]!.toNat : Int)) := hdpA 11 _ 164 (by kernel_rfl) rfl rfl
           clear hbsA hdpA
           have hOA : Own wA base 35 1 v n ((dk.setIfInBounds j3 dk[a]!).toList.map u16v) := hOA
           refine op_store_own (vs := [(Value.int .u16 (dk[j3]!.toNat : Int))]) size35 (ev_base hNA rfl qA_166) (ev_base hNA rfl qA_164) rfl rfl rfl hOA hAA_166 (by have := hOA.1; simp at this ⊢; omega) ?_
           intro w_ hO_ E_
           exact obW_end rfl (hO_.cast rfl (set_arr (by first | omega | (simp only [Array.size_setIfInBounds, swp_sz, siftDown_size]; omega)))) E_
          ·
           intro a251 w251 hN251 hd251 hbs251 hph251 hO251 E251
           have hd251 := hd251.trans hd235
           have s251_8 := (hbs251 8 rfl).trans (sl_base hN235 rfl s235_8)
           have s251_9 := (hbs251 9 rfl).trans (sl_base hN235 rfl s235_9)
           have s251_11 := (hbs251 11 rfl).trans (sl_base hN235 rfl s235_11)
           clear hbs251 hph251
           have hO251 : Own w251 base 35 1 v n (((dk.setIfInBounds j3 dk[a]!).setIfInBounds a dk[j3]!).toList.map u16v) := hO251
           have z_w251 := E251.size
           have hb := grow_stepX hb E251 rfl
           refine hK250 _ _ ?_
           refine seq_any fun K252 hK252 => ?_
           refine one_reg ?_
           refine op_move (ev_base hN251 rfl s251_11) ?_
           refine op_assign (ev_hit hN251 rfl) ?_
           refine op_assign rfl ?_
           refine reg_nil ?_
           refine hK252 _ _ ?_
           refine wp_ret ?_
           refine ret2 rfl hd251 (ev_hit hN251 rfl) (ev_hit hN251 rfl) ⟨_, rfl, ?_⟩
           -- path 65F 134T
           have hp := hs.trans (pl_stop hu4 hv4 (by omega))
           have hq := pt_go hd1 hu2 hv2 (by omega)
           rw [hp] at hq
           exact ⟨hb, by rw [hq]; rfl, hO251.cast rfl (by rw [hq]; rfl)⟩
         · -- 134F
          refine reg_nil ?_
          refine hK249 _ _ ?_
          refine wp_cond_false (ev_hit hN235 rfl) ?_
          refine wp_skip ?_
          refine hK248 _ _ ?_
          refine seq_any fun K253 hK253 => ?_
          refine reg_mid (e := 35) (sz := 1) (base := base) (n := n) (v := v) (Φ := phiL [(fun uz _ => uz = v), (fun uz _ => uz = (Value.int .i64 ((i3 : Nat) : Int))), (fun uz _ => uz = v), (fun uz _ => uz = (Value.int .i64 ((j3 : Nat) : Int))), (fun uz _ => uz = v), (fun uz _ => uz = (Value.int .i64 ((j3 : Nat) : Int))), (fun uz _ => ∃ bz oz, uz = ptr bz oz ∧ AtV v j3 bz oz), (fun uz _ => uz = (Value.int .u16 (dk[j3]!.toNat : Int))), (fun uz _ => uz = v), (fun uz _ => uz = (Value.int .i64 ((i3 : Nat) : Int))), (fun uz _ => ∃ bz oz, uz = ptr bz oz ∧ AtV v i3 bz oz), (fun uz _ => uz = (Value.int .u16 (dk[i3]!.toNat : Int))), (fun uz _ => ∃ bz oz, uz = ptr bz oz ∧ AtV v i3 bz oz), (fun _ _ => True), (fun uz _ => ∃ bz oz, uz = ptr bz oz ∧ AtV v j3 bz oz), (fun _ _ => True)]) [13, 15] [(dk.toList.map u16v), ((dk.setIfInBounds i3 dk[j3]!).toList.map u16v), (((dk.setIfInBounds i3 dk[j3]!).setIfInBounds j3 dk[i3]!).toList.map u16v)] mixed (by kernel_rfl) (by kernel_rfl) (by kernel_rfl) (by kernel_rfl) hN235 hO221 (StL.get (StL.eq (StL.eq (StL.eq (StL.eq (StL.eq (StL.eq (StL.at (StL.eq (StL.eq (StL.eq (StL.at (StL.eq (StL.at (StL.cons (fun _ _ _ _ h => h) (StL.at (StL.cons (fun _ _ _ _ h => h) (StL.nil _)))))))))))))))))) (ObRs.get (ObRs.cons ?_ (ObRs.cons ?_ (ObRs.cons ?_ (ObRs.cons ?_ (ObRs.cons ?_ (ObRs.cons ?_ (ObRs.cons ?_ (ObRs.cons ?_ (ObRs.cons ?_ (ObRs.cons ?_ (ObRs.cons ?_ (ObRs.cons ?_ (ObRs.cons ?_ (ObRs.pass rfl (ObRs.cons ?_ (ObRs.pass rfl (ObRs.nil)))))))))))))))))) (ObWs.get (ObWs.cons ?_ (ObWs.cons ?_ (ObWs.nil)))) ?_
          ·
           intro aA wA cA hNA hRA hckA hOA hbsA hdpA
           have qA_0 := (hbsA 0 rfl).trans (sl_base hN235 rfl s235_0)
           clear hbsA hdpA
           refine op_move (ev_base hNA rfl qA_0) ?_
           exact obR_end rfl rfl (grown_refl _ _)
          ·
           intro aA wA cA hNA hRA hckA hOA hbsA hdpA
           have qA_10 := (hbsA 10 rfl).trans (sl_base hN235 rfl s235_10)
           clear hbsA hdpA
           refine op_move (ev_base hNA rfl qA_10) ?_
           exact obR_end rfl rfl (grown_refl _ _)
          ·
           intro aA wA cA hNA hRA hckA hOA hbsA hdpA
           have qA_0 := (hbsA 0 rfl).trans (sl_base hN235 rfl s235_0)
           clear hbsA hdpA
           refine op_move (ev_base hNA rfl qA_0) ?_
           exact obR_end rfl rfl (grown_refl _ _)
          ·
           intro aA wA cA hNA hRA hckA hOA hbsA hdpA
           have qA_11 := (hbsA 11 rfl).trans (sl_base hN235 rfl s235_11)
           clear hbsA hdpA
           refine op_move (ev_base hNA rfl qA_11) ?_
           exact obR_end rfl rfl (grown_refl _ _)
          ·
           intro aA wA cA hNA hRA hckA hOA hbsA hdpA
           have qA_0 := (hbsA 0 rfl).trans (sl_base hN235 rfl s235_0)
           clear hbsA hdpA
           refine op_move (ev_base hNA rfl qA_0) ?_
           exact obR_end rfl rfl (grown_refl _ _)
          ·
           intro aA wA cA hNA hRA hckA hOA hbsA hdpA
           have qA_11 := (hbsA 11 rfl).trans (sl_base hN235 rfl s235_11)
           clear hbsA hdpA
           refine op_move (ev_base hNA rfl qA_11) ?_
           exact obR_end rfl rfl (grown_refl _ _)
          ·
           intro aA wA cA hNA hRA hckA hOA hbsA hdpA
           have qA_139 : Sl aA 139 v := hdpA 4 _ 139 (by kernel_rfl) rfl rfl
           have qA_140 : Sl aA 140 (Value.int .i64 ((j3 : Nat) : Int)) := hdpA 5 _ 140 (by kernel_rfl) rfl rfl
           clear hbsA hdpA
           refine op_index_own (i := j3) slt22 (ev_base hNA rfl qA_139) hOA (ev_base hNA rfl qA_140) (by omega) (by omega) ?_
           intro b_ o_ _ hA_
           exact obR_end rfl ⟨b_, o_, rfl, by simpa using hA_⟩ (grown_refl _ _)
          ·
           intro aA wA cA hNA hRA hckA hOA hbsA hdpA
           obtain ⟨bA_141, oA_141, qA_141, hAA_141⟩ := hdpA 6 _ 141 (by kernel_rfl) rfl rfl
           clear hbsA hdpA
           obtain rfl : cA = 0 := Nat.le_zero.1 (hckA 0 13 rfl (by kernel_rfl))
           have hOA : Own wA base 35 1 v n (dk.toList.map u16v) := hOA
           refine op_load1 (v := (Value.int .u16 (dk[j3]!.toNat : Int))) one35 (ev_base hNA rfl qA_141) (by have := hOA.cellAt hAA_141 0 _ (el_at (i := j3) (by first | omega | (simp only [Array.size_setIfInBounds, swp_sz, siftDown_size]; omega))); simpa using this) ?_
           exact obR_end rfl rfl (grown_refl _ _)
          ·
           intro aA wA cA hNA hRA hckA hOA hbsA hdpA
           have qA_0 := (hbsA 0 rfl).trans (sl_base hN235 rfl s235_0)
           clear hbsA hdpA
           refine op_move (ev_base hNA rfl qA_0) ?_
           exact obR_end rfl rfl (grown_refl _ _)
          ·
           intro aA wA cA hNA hRA hckA hOA hbsA hdpA
           have qA_10 := (hbsA 10 rfl).trans (sl_base hN235 rfl s235_10)
           clear hbsA hdpA
           refine op_move (ev_base hNA rfl qA_10) ?_
           exact obR_end rfl rfl (grown_refl _ _)
          ·
           intro aA wA cA hNA hRA hckA hOA hbsA hdpA
           have qA_143 : Sl aA 143 v := hdpA 8 _ 143 (by kernel_rfl) rfl rfl
           have qA_144 : Sl aA 144 (Value.int .i64 ((i3 : Nat) : Int)) := hdpA 9 _ 144 (by kernel_rfl) rfl rfl
           clear hbsA hdpA
           refine op_index_own (i := i3) slt22 (ev_base hNA rfl qA_143) hOA (ev_base hNA rfl qA_144) (by omega) (by omega) ?_
           intro b_ o_ _ hA_
           exact obR_end rfl ⟨b_, o_, rfl, by simpa using hA_⟩ (grown_refl _ _)
          ·
           intro aA wA cA hNA hRA hckA hOA hbsA hdpA
           obtain ⟨bA_145, oA_145, qA_145, hAA_145⟩ := hdpA 10 _ 145 (by kernel_rfl) rfl rfl
           clear hbsA hdpA
           obtain rfl : cA = 0 := Nat.le_zero.1 (hckA 0 13 rfl (by kernel_rfl))
           have hOA : Own wA base 35 1 v n (dk.toList.map u16v) := hOA
           refine op_load1 (v := (Value.int .u16 (dk[i3]!.toNat : Int))) one35 (ev_base hNA rfl qA_145) (by have := hOA.cellAt hAA_145 0 _ (el_at (i := i3) (by first | omega | (simp only [Array.size_setIfInBounds, swp_sz, siftDown_size]; omega))); simpa using this) ?_
           exact obR_end rfl rfl (grown_refl _ _)
          ·
           intro aA wA cA hNA hRA hckA hOA hbsA hdpA
           have qA_135 : Sl aA 135 v := hdpA 0 _ 135 (by kernel_rfl) rfl rfl
           have qA_136 : Sl aA 136 (Value.int .i64 ((i3 : Nat) : Int)) := hdpA 1 _ 136 (by kernel_rfl) rfl rfl
           clear hbsA hdpA
           refine op_index_own (i := i3) slt22 (ev_base hNA rfl qA_135) hOA (ev_base hNA rfl qA_136) (by omega) (by omega) ?_
           intro b_ o_ _ hA_
           exact obR_end rfl ⟨b_, o_, rfl, by simpa using hA_⟩ (grown_refl _ _)
          ·
           intro aA wA cA hNA hRA hckA hOA hbsA hdpA
           have qA_137 : Sl aA 137 v := hdpA 2 _ 137 (by kernel_rfl) rfl rfl
           have qA_138 : Sl aA 138 (Value.int .i64 ((j3 : Nat) : Int)) := hdpA 3 _ 138 (by kernel_rfl) rfl rfl
           clear hbsA hdpA
           refine op_index_own (i := j3) slt22 (ev_base hNA rfl qA_137) hOA (ev_base hNA rfl qA_138) (by omega) (by omega) ?_
           intro b_ o_ _ hA_
           exact obR_end rfl ⟨b_, o_, rfl, by simpa using hA_⟩ (grown_refl _ _)
          ·
           intro o_ ho_; obtain rfl := Option.some.inj ho_; intro aA wA hNA hRA hbsA hdpA hOA
           obtain ⟨bA_147, oA_147, qA_147, hAA_147⟩ := hdpA 12 _ 147 (by kernel_rfl) rfl rfl
           have qA_142 : Sl aA 142 (Value.int .u16 (dk[j3]!.toNat : Int)) := hdpA 7 _ 142 (by kernel_rfl) rfl rfl
           clear hbsA hdpA
           have hOA : Own wA base 35 1 v n (dk.toList.map u16v) := hOA
           refine op_store_own (vs := [(Value.int .u16 (dk[j3]!.toNat : Int))]) size35 (ev_base hNA rfl qA_147) (ev_base hNA rfl qA_142) rfl rfl rfl hOA hAA_147 (by have := hOA.1; simp at this ⊢; omega) ?_
           intro w_ hO_ E_
           exact obW_end rfl (hO_.cast rfl (set_arr (by first | omega | (simp only [Array.size_setIfInBounds, swp_sz, siftDown_size]; omega)))) E_
          ·
           intro o_ ho_; obtain rfl := Option.some.inj ho_; intro aA wA hNA hRA hbsA hdpA hOA
           obtain ⟨bA_148, oA_148, qA_148, hAA_148⟩ := hdpA 14 _ 148 (by kernel_rfl) rfl rfl
           have qA_146 : Sl aA 146 (Value.int .u16 (dk[i3]!.toNat : Int)) := hdpA 11 _ 146 (by kernel_rfl) rfl rfl
           clear hbsA hdpA
           have hOA : Own wA base 35 1 v n ((dk.setIfInBounds i3 dk[j3]!).toList.map u16v) := hOA
           refine op_store_own (vs := [(Value.int .u16 (dk[i3]!.toNat : Int))]) size35 (ev_base hNA rfl qA_148) (ev_base hNA rfl qA_146) rfl rfl rfl hOA hAA_148 (by have := hOA.1; simp at this ⊢; omega) ?_
           intro w_ hO_ E_
           exact obW_end rfl (hO_.cast rfl (set_arr (by first | omega | (simp only [Array.size_setIfInBounds, swp_sz, siftDown_size]; omega)))) E_
          ·
           intro a254 w254 hN254 hd254 hbs254 hph254 hO254 E254
           have hd254 := hd254.trans hd235
           have s254_0 := (hbs254 0 rfl).trans (sl_base hN235 rfl s235_0)
           have s254_1 := (hbs254 1 rfl).trans (sl_base hN235 rfl s235_1)
           have s254_8 := (hbs254 8 rfl).trans (sl_base hN235 rfl s235_8)
           have s254_9 := (hbs254 9 rfl).trans (sl_base hN235 rfl s235_9)
           have s254_10 := (hbs254 10 rfl).trans (sl_base hN235 rfl s235_10)
           have s254_11 := (hbs254 11 rfl).trans (sl_base hN235 rfl s235_11)
           clear hbs254 hph254
           have hO254 : Own w254 base 35 1 v n (((dk.setIfInBounds i3 dk[j3]!).setIfInBounds j3 dk[i3]!).toList.map u16v) := hO254
           have z_w254 := E254.size
           have hb := grow_stepX hb E254 rfl
           refine hK253 _ _ ?_
           refine seq_any fun K255 hK255 => ?_
           refine one_reg ?_
           refine op_move (ev_base hN254 rfl s254_10) ?_
           refine op_add (ev_hit hN254 rfl) rfl (add64 (by omega)) ?_
           refine op_assign (ev_hit hN254 rfl) ?_
           refine reg_nil ?_
           refine hK255 _ _ ?_
           refine one_reg ?_
           refine op_move (ev_base hN254 rfl s254_11) ?_
           refine op_sub (ev_hit hN254 rfl) rfl (sub64 (by omega)) ?_
           refine op_assign (ev_hit hN254 rfl) ?_
           refine reg_nil ?_
           refine blk_normal ?_
           -- round 65F 134F
           exact loop_next _ hN254 hd254 ⟨(i3 + 1), (j3 - 1), _, rfl, (sl_base hN254 rfl s254_0), (sl_base hN254 rfl s254_1), (sl_base hN254 rfl s254_8), (sl_base hN254 rfl s254_9), (sl_hit hN254 rfl).trans (congrArg (Value.int .i64) (by omega)), (sl_hit hN254 rfl).trans (congrArg (Value.int .i64) (by omega)), (by first | assumption | (simp only [Array.size_setIfInBounds, swp_sz, siftDown_size]; assumption)), (by omega), (hs.trans (pl_go hu4 hv4 (by omega))), hb, (by omega), hO254⟩ (by omega)

end Go.Proofs.Ytpmnljffdofkeaa
