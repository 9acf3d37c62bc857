/- Walks, written by a program: what each function of the translation hands back. -/
import Derived.Test.YtpmnljffdofkeaaProg
import Derived.KernelRfl
import Derived.Test.YtpmnljffdofkeaaB5
namespace Go.Proofs.Ytpmnljffdofkeaa
open Go.Gx Go.RowKit
attribute [local irreducible] wpList wpStill Code.wp Calls

theorem isNaN_int_ret (m : Int) (w : World) : Ret Try.prog 61 #[(Value.int .i64 m)] w (fun v' w' => v' = .bool false ∧ w' = w) := by
 have hb := Below.refl w.heap.size w
 refine enter (N := 6) Try.func61 rfl rfl (by simp) fun a0 hN hd hA => ?_
 have s0 : a0.tmps.getD 0 undef = (Value.int .i64 m) := hA 0 (by simp)
 clear hA
 refine seq_any fun K1283 hK1283 => ?_
 refine one_reg ?_
 refine op_assign rfl ?_
 refine reg_nil ?_
 refine hK1283 _ _ ?_
 refine seq_any fun K1284 hK1284 => ?_
 refine one_reg ?_
 refine op_move (ev_base hN rfl s0) ?_
 refine op_move (ev_base hN rfl s0) ?_
 refine op_neq (ev_hit hN rfl) (ev_hit hN rfl) (fun c5 => ?_) (fun c5 => ?_)
 · -- 5T
  refine op_assign (ev_hit hN rfl) ?_
  refine reg_nil ?_
  refine hK1284 _ _ ?_
  refine wp_ret ?_
  refine ret1 rfl hd (ev_hit hN rfl) ⟨_, rfl, ?_⟩
  -- path 5T
  exact (c5 rfl).elim
 · -- 5F
  refine op_assign (ev_hit hN rfl) ?_
  refine reg_nil ?_
  refine hK1284 _ _ ?_
  refine wp_ret ?_
  refine ret1 rfl hd (ev_hit hN rfl) ⟨_, rfl, ?_⟩
  -- path 5F
  exact ⟨rfl, rfl⟩

theorem cmpCompare_int_ret (m n : Int) (w : World) : Ret Try.prog 54 #[(Value.int .i64 m), (Value.int .i64 n)] w (fun v' w' => v' = .int .i64 (cmpI m n) ∧ w' = w) := by
 have hb := Below.refl w.heap.size w
 refine enter (N := 20) Try.func54 rfl rfl (by simp) fun a0 hN hd hA => ?_
 have s0 : a0.tmps.getD 0 undef = (Value.int .i64 m) := hA 0 (by simp)
 have s1 : a0.tmps.getD 1 undef = (Value.int .i64 n) := hA 1 (by simp)
 clear hA
 refine seq_any fun K1285 hK1285 => ?_
 refine one_reg ?_
 refine op_assign rfl ?_
 refine reg_nil ?_
 refine hK1285 _ _ ?_
 refine seq_any fun K1286 hK1286 => ?_
 refine one_reg ?_
 refine op_move (ev_base hN rfl s0) ?_
 refine op_fn (vs := [(Value.int .i64 m)]) ok61 ⟨(ev_hit hN rfl), trivial⟩ (Ret.flip (isNaN_int_ret m _)) ?_
 rintro _ _ ⟨rfl, rfl⟩
 refine op_assign (ev_hit hN rfl) ?_
 refine reg_nil ?_
 refine hK1286 _ _ ?_
 refine seq_any fun K1287 hK1287 => ?_
 refine one_reg ?_
 refine op_move (ev_base hN rfl s1) ?_
 refine op_fn (vs := [(Value.int .i64 n)]) ok61 ⟨(ev_hit hN rfl), trivial⟩ (Ret.flip (isNaN_int_ret n _)) ?_
 rintro _ _ ⟨rfl, rfl⟩
 refine op_assign (ev_hit hN rfl) ?_
 refine reg_nil ?_
 refine hK1287 _ _ ?_
 refine seq_any fun K1288 hK1288 => ?_
 refine seq_any fun K1289 hK1289 => ?_
 refine one_reg ?_
 refine op_move (ev_hit hN rfl) ?_
 refine reg_nil ?_
 refine hK1289 _ _ ?_
 refine wp_cond_false (ev_hit hN rfl) ?_
 refine wp_skip ?_
 refine hK1288 _ _ ?_
 refine seq_any fun K1290 hK1290 => ?_
 refine seq_any fun K1291 hK1291 => ?_
 refine one_reg ?_
 refine op_move (ev_hit hN rfl) ?_
 refine reg_nil ?_
 refine hK1291 _ _ ?_
 refine wp_cond_false (ev_hit hN rfl) ?_
 refine wp_skip ?_
 refine hK1290 _ _ ?_
 refine seq_any fun K1292 hK1292 => ?_
 refine seq_any fun K1293 hK1293 => ?_
 refine one_reg ?_
 refine op_move (ev_base hN rfl s0) ?_
 refine op_move (ev_base hN rfl s1) ?_
 refine op_lss (ev_hit hN rfl) (ev_hit hN rfl) (fun c16 => ?_) (fun c16 => ?_)
 · -- 16T
  refine reg_nil ?_
  refine hK1293 _ _ ?_
  refine wp_cond_true (ev_hit hN rfl) ?_
  refine seq_any fun K1294 hK1294 => ?_
  refine one_reg ?_
  refine op_assign rfl ?_
  refine reg_nil ?_
  refine hK1294 _ _ ?_
  refine wp_ret (then_ret ( ?_))
  refine ret1 rfl hd (ev_hit hN rfl) ⟨_, rfl, ?_⟩
  -- path 16T
  exact ⟨congrArg (Value.int .i64) (by simp only [cmpI]; (repeat' split) <;> omega), rfl⟩
 · -- 16F
  refine reg_nil ?_
  refine hK1293 _ _ ?_
  refine wp_cond_false (ev_hit hN rfl) ?_
  refine wp_skip ?_
  refine hK1292 _ _ ?_
  refine seq_any fun K1295 hK1295 => ?_
  refine seq_any fun K1296 hK1296 => ?_
  refine one_reg ?_
  refine op_move (ev_base hN rfl s0) ?_
  refine op_move (ev_base hN rfl s1) ?_
  refine op_gtr (ev_hit hN rfl) (ev_hit hN rfl) (fun c19 => ?_) (fun c19 => ?_)
  · -- 19T
   refine reg_nil ?_
   refine hK1296 _ _ ?_
   refine wp_cond_true (ev_hit hN rfl) ?_
   refine seq_any fun K1297 hK1297 => ?_
   refine one_reg ?_
   refine op_assign rfl ?_
   refine reg_nil ?_
   refine hK1297 _ _ ?_
   refine wp_ret (then_ret ( ?_))
   refine ret1 rfl hd (ev_hit hN rfl) ⟨_, rfl, ?_⟩
   -- path 16F 19T
   exact ⟨congrArg (Value.int .i64) (by simp only [cmpI]; (repeat' split) <;> omega), rfl⟩
  · -- 19F
   refine reg_nil ?_
   refine hK1296 _ _ ?_
   refine wp_cond_false (ev_hit hN rfl) ?_
   refine wp_skip ?_
   refine hK1295 _ _ ?_
   refine seq_any fun K1298 hK1298 => ?_
   refine one_reg ?_
   refine op_assign rfl ?_
   refine reg_nil ?_
   refine hK1298 _ _ ?_
   refine wp_ret ?_
   refine ret1 rfl hd (ev_hit hN rfl) ⟨_, rfl, ?_⟩
   -- path 16F 19F
   exact ⟨congrArg (Value.int .i64) (by simp only [cmpI]; (repeat' split) <;> omega), rfl⟩

theorem Or_ret (m n : Int) (v : Value) (w : World) (hv : RdC w 0 w.heap.size 1 v 2 [(Value.int .i64 m), (Value.int .i64 n)]) : Ret Try.prog 53 #[v] w (fun v' w' => Below w.heap.size w w' ∧ v' = .int .i64 (if m = 0 then n else m)) := by
 have hb := Below.refl w.heap.size w
 refine enter (N := 18) Try.func53 rfl rfl (by simp) fun a0 hN hd hA => ?_
 have s0 : a0.tmps.getD 0 undef = v := hA 0 (by simp)
 clear hA
 refine seq_any fun K1299 hK1299 => ?_
 refine one_reg ?_
 refine op_assign rfl ?_
 refine reg_nil ?_
 refine hK1299 _ _ ?_
 refine seq_any fun K1300 hK1300 => ?_
 refine one_reg ?_
 refine op_assign rfl ?_
 refine reg_nil ?_
 refine hK1300 _ _ ?_
 refine seq_any fun K1301 hK1301 => ?_
 refine seq_any fun K1302 hK1302 => ?_
 refine one_reg ?_
 refine op_move (ev_base hN rfl s0) ?_
 refine op_len_rd Try.underlying64 (ev_hit hN rfl) hv ?_
 refine op_move rfl ?_
 refine reg_nil ?_
 refine hK1302 _ _ ?_
 refine wp_block ?_
 refine wp_loop_rounds 3 ?_
 refine rounds_any fun K1303 hK1303 => ?_
 refine seq_any fun K1304 hK1304 => ?_
 refine one_reg ?_
 refine op_bin (v := .bool true) (ev_hit hN rfl) (ev_hit hN rfl) (by rw [binOp_lss]; rfl) ?_
 refine reg_nil ?_
 refine hK1304 _ _ ?_
 refine seq_any fun K1305 hK1305 => ?_
 refine wp_cond_true (ev_hit hN rfl) ?_
 refine wp_skip ?_
 refine hK1305 _ _ ?_
 refine seq_any fun K1306 hK1306 => ?_
 refine wp_block ?_
 refine seq_any fun K1307 hK1307 => ?_
 refine one_reg ?_
 refine op_index_rd slt64 (ev_hit hN rfl) hv (ev_hit hN rfl) (by omega) (by omega) ?_
 intro b1308 o1309 h0b1308 h1b1308 hc1310
 refine op_load1 (v := (Value.int .i64 m)) one3 (ev_hit hN rfl) (by have := hc1310 0 (Value.int .i64 m) (by decide) rfl; simpa using this) ?_
 refine op_assign (ev_hit hN rfl) ?_
 refine reg_nil ?_
 refine hK1307 _ _ ?_
 refine seq_any fun K1311 hK1311 => ?_
 refine one_reg ?_
 refine op_move (ev_hit hN rfl) ?_
 refine op_move (ev_hit hN rfl) ?_
 refine op_neq (ev_hit hN rfl) (ev_hit hN rfl) (fun c14 => ?_) (fun c14 => ?_)
 · -- 14T
  refine reg_nil ?_
  refine hK1311 _ _ ?_
  refine wp_cond_true (ev_hit hN rfl) ?_
  refine seq_any fun K1312 hK1312 => ?_
  refine one_reg ?_
  refine op_move (ev_hit hN rfl) ?_
  refine op_assign (ev_hit hN rfl) ?_
  refine reg_nil ?_
  refine hK1312 _ _ ?_
  refine wp_ret (blk_ret (then_ret (then_ret (blk_ret (then_ret ( ?_))))))
  refine ret1 rfl hd (ev_hit hN rfl) ⟨_, rfl, ?_⟩
  -- path 14T
  exact ⟨hb, congrArg (Value.int .i64) (by split <;> omega)⟩
 · -- 14F
  refine reg_nil ?_
  refine hK1311 _ _ ?_
  refine wp_cond_false (ev_hit hN rfl) ?_
  refine wp_skip ?_
  refine hK1306 _ _ ?_
  refine one_reg ?_
  refine op_add (r := 1) (ev_hit hN rfl) rfl (by decide) ?_
  refine op_move (ev_hit hN rfl) ?_
  refine reg_nil ?_
  refine hK1303 _ _ ?_
  refine rounds_any fun K1313 hK1313 => ?_
  refine seq_any fun K1314 hK1314 => ?_
  refine one_reg ?_
  refine op_bin (v := .bool true) (ev_hit hN rfl) (ev_hit hN rfl) (by rw [binOp_lss]; rfl) ?_
  refine reg_nil ?_
  refine hK1314 _ _ ?_
  refine seq_any fun K1315 hK1315 => ?_
  refine wp_cond_true (ev_hit hN rfl) ?_
  refine wp_skip ?_
  refine hK1315 _ _ ?_
  refine seq_any fun K1316 hK1316 => ?_
  refine wp_block ?_
  refine seq_any fun K1317 hK1317 => ?_
  refine one_reg ?_
  refine op_index_rd slt64 (ev_hit hN rfl) hv (ev_hit hN rfl) (by omega) (by omega) ?_
  intro b1318 o1319 h0b1318 h1b1318 hc1320
  refine op_load1 (v := (Value.int .i64 n)) one3 (ev_hit hN rfl) (by have := hc1320 0 (Value.int .i64 n) (by decide) rfl; simpa using this) ?_
  refine op_assign (ev_hit hN rfl) ?_
  refine reg_nil ?_
  refine hK1317 _ _ ?_
  refine seq_any fun K1321 hK1321 => ?_
  refine one_reg ?_
  refine op_move (ev_hit hN rfl) ?_
  refine op_move (ev_hit hN rfl) ?_
  refine op_neq (ev_hit hN rfl) (ev_hit hN rfl) (fun c14 => ?_) (fun c14 => ?_)
  · -- 14T
   refine reg_nil ?_
   refine hK1321 _ _ ?_
   refine wp_cond_true (ev_hit hN rfl) ?_
   refine seq_any fun K1322 hK1322 => ?_
   refine one_reg ?_
   refine op_move (ev_hit hN rfl) ?_
   refine op_assign (ev_hit hN rfl) ?_
   refine reg_nil ?_
   refine hK1322 _ _ ?_
   refine wp_ret (blk_ret (then_ret (then_ret (blk_ret (then_ret ( ?_))))))
   refine ret1 rfl hd (ev_hit hN rfl) ⟨_, rfl, ?_⟩
   -- path 14F 14T
   exact ⟨hb, congrArg (Value.int .i64) (by split <;> omega)⟩
  · -- 14F
   refine reg_nil ?_
   refine hK1321 _ _ ?_
   refine wp_cond_false (ev_hit hN rfl) ?_
   refine wp_skip ?_
   refine hK1316 _ _ ?_
   refine one_reg ?_
   refine op_add (r := 2) (ev_hit hN rfl) rfl (by decide) ?_
   refine op_move (ev_hit hN rfl) ?_
   refine reg_nil ?_
   refine hK1313 _ _ ?_
   refine rounds_any fun K1323 hK1323 => ?_
   refine seq_any fun K1324 hK1324 => ?_
   refine one_reg ?_
   refine op_bin (v := .bool false) (ev_hit hN rfl) (ev_hit hN rfl) (by rw [binOp_lss]; rfl) ?_
   refine reg_nil ?_
   refine hK1324 _ _ ?_
   refine seq_any fun K1325 hK1325 => ?_
   refine wp_cond_false (ev_hit hN rfl) ?_
   refine wp_exit (then_exit (then_exit (blk_hit ?_)))
   refine hK1301 _ _ ?_
   refine seq_any fun K1326 hK1326 => ?_
   refine one_reg ?_
   refine op_move (ev_hit hN rfl) ?_
   refine op_assign (ev_hit hN rfl) ?_
   refine reg_nil ?_
   refine hK1326 _ _ ?_
   refine wp_ret ?_
   refine ret1 rfl hd (ev_hit hN rfl) ⟨_, rfl, ?_⟩
   -- path 14F 14F
   exact ⟨hb, congrArg (Value.int .i64) (by split <;> omega)⟩

theorem cmp16_ret (x y : UInt16) (w : World) : Ret Try.prog 62 #[(Value.int .u16 (x.toNat : Int)), (Value.int .u16 (y.toNat : Int))] w (fun v' w' => v' = .int .i64 (cmpI (x.toNat : Int) (y.toNat : Int)) ∧ w' = w) := by
 have hb := Below.refl w.heap.size w
 refine enter (N := 20) Try.func62 rfl rfl (by simp) fun a0 hN hd hA => ?_
 have s0 : a0.tmps.getD 0 undef = (Value.int .u16 (x.toNat : Int)) := hA 0 (by simp)
 have s1 : a0.tmps.getD 1 undef = (Value.int .u16 (y.toNat : Int)) := hA 1 (by simp)
 clear hA
 refine seq_any fun K1327 hK1327 => ?_
 refine one_reg ?_
 refine op_assign rfl ?_
 refine reg_nil ?_
 refine hK1327 _ _ ?_
 refine seq_any fun K1328 hK1328 => ?_
 refine one_reg ?_
 refine op_move (ev_base hN rfl s0) ?_
 refine op_fn (vs := [(Value.int .u16 (x.toNat : Int))]) ok65 ⟨(ev_hit hN rfl), trivial⟩ (Ret.flip (isNaN16_ret x _)) ?_
 rintro _ _ ⟨rfl, rfl⟩
 refine op_assign (ev_hit hN rfl) ?_
 refine reg_nil ?_
 refine hK1328 _ _ ?_
 refine seq_any fun K1329 hK1329 => ?_
 refine one_reg ?_
 refine op_move (ev_base hN rfl s1) ?_
 refine op_fn (vs := [(Value.int .u16 (y.toNat : Int))]) ok65 ⟨(ev_hit hN rfl), trivial⟩ (Ret.flip (isNaN16_ret y _)) ?_
 rintro _ _ ⟨rfl, rfl⟩
 refine op_assign (ev_hit hN rfl) ?_
 refine reg_nil ?_
 refine hK1329 _ _ ?_
 refine seq_any fun K1330 hK1330 => ?_
 refine seq_any fun K1331 hK1331 => ?_
 refine one_reg ?_
 refine op_move (ev_hit hN rfl) ?_
 refine reg_nil ?_
 refine hK1331 _ _ ?_
 refine wp_cond_false (ev_hit hN rfl) ?_
 refine wp_skip ?_
 refine hK1330 _ _ ?_
 refine seq_any fun K1332 hK1332 => ?_
 refine seq_any fun K1333 hK1333 => ?_
 refine one_reg ?_
 refine op_move (ev_hit hN rfl) ?_
 refine reg_nil ?_
 refine hK1333 _ _ ?_
 refine wp_cond_false (ev_hit hN rfl) ?_
 refine wp_skip ?_
 refine hK1332 _ _ ?_
 refine seq_any fun K1334 hK1334 => ?_
 refine seq_any fun K1335 hK1335 => ?_
 refine one_reg ?_
 refine op_move (ev_base hN rfl s0) ?_
 refine op_move (ev_base hN rfl s1) ?_
 refine op_lss (ev_hit hN rfl) (ev_hit hN rfl) (fun c16 => ?_) (fun c16 => ?_)
 · -- 16T
  refine reg_nil ?_
  refine hK1335 _ _ ?_
  refine wp_cond_true (ev_hit hN rfl) ?_
  refine seq_any fun K1336 hK1336 => ?_
  refine one_reg ?_
  refine op_assign rfl ?_
  refine reg_nil ?_
  refine hK1336 _ _ ?_
  refine wp_ret (then_ret ( ?_))
  refine ret1 rfl hd (ev_hit hN rfl) ⟨_, rfl, ?_⟩
  -- path 16T
  exact ⟨congrArg (Value.int .i64) (by simp only [cmpI]; (repeat' split) <;> omega), rfl⟩
 · -- 16F
  refine reg_nil ?_
  refine hK1335 _ _ ?_
  refine wp_cond_false (ev_hit hN rfl) ?_
  refine wp_skip ?_
  refine hK1334 _ _ ?_
  refine seq_any fun K1337 hK1337 => ?_
  refine seq_any fun K1338 hK1338 => ?_
  refine one_reg ?_
  refine op_move (ev_base hN rfl s0) ?_
  refine op_move (ev_base hN rfl s1) ?_
  refine op_gtr (ev_hit hN rfl) (ev_hit hN rfl) (fun c19 => ?_) (fun c19 => ?_)
  · -- 19T
   refine reg_nil ?_
   refine hK1338 _ _ ?_
   refine wp_cond_true (ev_hit hN rfl) ?_
   refine seq_any fun K1339 hK1339 => ?_
   refine one_reg ?_
   refine op_assign rfl ?_
   refine reg_nil ?_
   refine hK1339 _ _ ?_
   refine wp_ret (then_ret ( ?_))
   refine ret1 rfl hd (ev_hit hN rfl) ⟨_, rfl, ?_⟩
   -- path 16F 19T
   exact ⟨congrArg (Value.int .i64) (by simp only [cmpI]; (repeat' split) <;> omega), rfl⟩
  · -- 19F
   refine reg_nil ?_
   refine hK1338 _ _ ?_
   refine wp_cond_false (ev_hit hN rfl) ?_
   refine wp_skip ?_
   refine hK1337 _ _ ?_
   refine seq_any fun K1340 hK1340 => ?_
   refine one_reg ?_
   refine op_assign rfl ?_
   refine reg_nil ?_
   refine hK1340 _ _ ?_
   refine wp_ret ?_
   refine ret1 rfl hd (ev_hit hN rfl) ⟨_, rfl, ?_⟩
   -- path 16F 19F
   exact ⟨congrArg (Value.int .i64) (by simp only [cmpI]; (repeat' split) <;> omega), rfl⟩

theorem scmpW_ret (l m : Lb) (v u : Value) (w : World) (hl2 : l.length ≤ 1000000000000) (hm2 : m.length ≤ 1000000000000) (hl : RdC w 0 w.heap.size 1 v l.length (l.map u16v)) (hm : RdC w 0 w.heap.size 1 u m.length (m.map u16v)) : Ret Try.prog 55 #[v, u] w (fun v' w' => Below w.heap.size w w' ∧ v' = .int .i64 (cmpG l m)) := by
 have hb := Below.refl w.heap.size w
 refine enter (N := 36) Try.func55 rfl rfl (by simp) fun a0 hN hd hA => ?_
 have s0 : a0.tmps.getD 0 undef = v := hA 0 (by simp)
 have s1 : a0.tmps.getD 1 undef = u := hA 1 (by simp)
 clear hA
 refine seq_any fun K1341 hK1341 => ?_
 refine one_reg ?_
 refine op_assign rfl ?_
 refine reg_nil ?_
 refine hK1341 _ _ ?_
 refine seq_any fun K1342 hK1342 => ?_
 refine seq_any fun K1343 hK1343 => ?_
 refine one_reg ?_
 refine op_move (ev_base hN rfl s0) ?_
 refine op_len_rd Try.underlying23 (ev_hit hN rfl) hl ?_
 refine op_move rfl ?_
 refine reg_nil ?_
 refine hK1343 _ _ ?_
 refine wp_block ?_
 refine loop_m (fun mz_ az_ w' => ∃ (i : Nat), mz_ = l.length - i ∧ (az_.tmps.getD 0 undef = v) ∧ (az_.tmps.getD 1 undef = u) ∧ (az_.tmps.getD 9 undef = v) ∧ (az_.tmps.getD 10 undef = (Value.int .i64 ((l.length : Nat) : Int))) ∧ (az_.tmps.getD 11 undef = (Value.int .i64 ((i : Nat) : Int))) ∧ (i ≤ l.length) ∧ (cmpG l m = cmpG (l.drop i) (m.drop i)) ∧ (Below w.heap.size w w') ∧ (w.heap.size ≤ w'.heap.size) ∧ (RdC w' 0 w.heap.size 1 v l.length (l.map u16v)) ∧ (RdC w' 0 w.heap.size 1 u m.length (m.map u16v))) _ hN hd ⟨0, rfl, (sl_base hN rfl s0), (sl_base hN rfl s1), (sl_hit hN rfl), (sl_hit hN rfl), (sl_hit hN rfl), Nat.zero_le _, rfl, hb, (Nat.le_refl _), hl, hm⟩ ?_
 rintro _ a1344 w1344 hN1344 hd1344 ⟨i, rfl, s1344_0, s1344_1, s1344_9, s1344_10, s1344_11, hi, he, hb, zl_w1344, hl, hm⟩
 have z_w1344 := hb.size
 refine seq_any fun K1345 hK1345 => ?_
 refine one_reg ?_
 refine op_lss (ev_base hN1344 rfl s1344_11) (ev_base hN1344 rfl s1344_10) (fun c12 => ?_) (fun c12 => ?_)
 · -- 12T
  refine reg_nil ?_
  refine hK1345 _ _ ?_
  refine seq_any fun K1346 hK1346 => ?_
  refine wp_cond_true (ev_hit hN1344 rfl) ?_
  refine wp_skip ?_
  refine hK1346 _ _ ?_
  refine seq_any fun K1347 hK1347 => ?_
  refine wp_block ?_
  refine seq_any fun K1348 hK1348 => ?_
  refine one_reg ?_
  refine op_move (ev_base hN1344 rfl s1344_11) ?_
  refine op_index_rd slt23 (ev_base hN1344 rfl s1344_9) hl (ev_base hN1344 rfl s1344_11) (by omega) (by omega) ?_
  intro b1349 o1350 h0b1349 h1b1349 hc1351
  refine op_load1 (v := (Value.int .u16 ((l.getD i 0).toNat : Int))) one35 (ev_hit hN1344 rfl) (by have := hc1351 0 (Value.int .u16 ((l.getD i 0).toNat : Int)) (by decide) (el_u16 (i := i) (by omega) (by omega)); simpa using this) ?_
  refine op_assign (ev_hit hN1344 rfl) ?_
  refine op_assign (ev_hit hN1344 rfl) ?_
  refine reg_nil ?_
  refine hK1348 _ _ ?_
  refine seq_any fun K1352 hK1352 => ?_
  refine seq_any fun K1353 hK1353 => ?_
  refine one_reg ?_
  refine op_move (ev_hit hN1344 rfl) ?_
  refine op_move (ev_base hN1344 rfl s1344_1) ?_
  refine op_len_rd Try.underlying23 (ev_hit hN1344 rfl) hm ?_
  refine op_geq (ev_hit hN1344 rfl) (ev_hit hN1344 rfl) (fun c19 => ?_) (fun c19 => ?_)
  · -- 19T
   refine reg_nil ?_
   refine hK1353 _ _ ?_
   refine wp_cond_true (ev_hit hN1344 rfl) ?_
   refine seq_any fun K1354 hK1354 => ?_
   refine one_reg ?_
   refine op_assign rfl ?_
   refine reg_nil ?_
   refine hK1354 _ _ ?_
   refine wp_ret (then_ret (blk_ret (then_ret (then_ret (blk_ret (then_ret ( ?_)))))))
   refine ret1 rfl hd1344 (ev_hit hN1344 rfl) ⟨_, rfl, ?_⟩
   -- path 12T 19T
   exact ⟨hb, congrArg (Value.int .i64) (by rw [he, cmpG_gt (by omega) (by omega)])⟩
  · -- 19F
   refine reg_nil ?_
   refine hK1353 _ _ ?_
   refine wp_cond_false (ev_hit hN1344 rfl) ?_
   refine wp_skip ?_
   refine hK1352 _ _ ?_
   refine seq_any fun K1355 hK1355 => ?_
   refine one_reg ?_
   refine op_move (ev_base hN1344 rfl s1344_1) ?_
   refine op_move (ev_hit hN1344 rfl) ?_
   refine op_index_rd slt23 (ev_hit hN1344 rfl) hm (ev_hit hN1344 rfl) (by omega) (by omega) ?_
   intro b1356 o1357 h0b1356 h1b1356 hc1358
   refine op_load1 (v := (Value.int .u16 ((m.getD i 0).toNat : Int))) one35 (ev_hit hN1344 rfl) (by have := hc1358 0 (Value.int .u16 ((m.getD i 0).toNat : Int)) (by decide) (el_u16 (i := i) (by omega) (by omega)); simpa using this) ?_
   refine op_assign (ev_hit hN1344 rfl) ?_
   refine reg_nil ?_
   refine hK1355 _ _ ?_
   refine seq_any fun K1359 hK1359 => ?_
   refine one_reg ?_
   refine op_move (ev_hit hN1344 rfl) ?_
   refine op_move (ev_hit hN1344 rfl) ?_
   refine op_fn (vs := [(Value.int .u16 ((l.getD i 0).toNat : Int)), (Value.int .u16 ((m.getD i 0).toNat : Int))]) ok62 ⟨(ev_hit hN1344 rfl), ⟨(ev_hit hN1344 rfl), trivial⟩⟩ (Ret.flip (cmp16_ret (l.getD i 0) (m.getD i 0) _)) ?_
   rintro _ _ ⟨rfl, rfl⟩
   refine op_assign (ev_hit hN1344 rfl) ?_
   refine reg_nil ?_
   refine hK1359 _ _ ?_
   refine seq_any fun K1360 hK1360 => ?_
   refine one_reg ?_
   refine op_move (ev_hit hN1344 rfl) ?_
   refine op_neq (ev_hit hN1344 rfl) rfl (fun c28 => ?_) (fun c28 => ?_)
   · -- 28T
    refine reg_nil ?_
    refine hK1360 _ _ ?_
    refine wp_cond_true (ev_hit hN1344 rfl) ?_
    refine seq_any fun K1361 hK1361 => ?_
    refine one_reg ?_
    refine op_move (ev_hit hN1344 rfl) ?_
    refine op_assign (ev_hit hN1344 rfl) ?_
    refine reg_nil ?_
    refine hK1361 _ _ ?_
    refine wp_ret (blk_ret (then_ret (then_ret (blk_ret (then_ret ( ?_))))))
    refine ret1 rfl hd1344 (ev_hit hN1344 rfl) ⟨_, rfl, ?_⟩
    -- path 12T 19F 28T
    exact ⟨hb, congrArg (Value.int .i64) (by rw [he, cmpG_step (by omega) (by omega)]; simp only [cmpI] at c28 ⊢; (repeat' split) <;> (first | rfl | omega | (simp_all; done) | (exfalso; simp_all; omega)))⟩
   · -- 28F
    refine reg_nil ?_
    refine hK1360 _ _ ?_
    refine wp_cond_false (ev_hit hN1344 rfl) ?_
    refine wp_skip ?_
    refine hK1347 _ _ ?_
    refine one_reg ?_
    refine op_add (ev_base hN1344 rfl s1344_11) rfl (add64 (by omega)) ?_
    refine op_move (ev_hit hN1344 rfl) ?_
    refine reg_nil ?_
    -- round 12T 19F 28F
    exact loop_next _ hN1344 hd1344 ⟨i + 1, rfl, (sl_base hN1344 rfl s1344_0), (sl_base hN1344 rfl s1344_1), (sl_base hN1344 rfl s1344_9), (sl_base hN1344 rfl s1344_10), (sl_hit hN1344 rfl).trans (congrArg (Value.int .i64) (by omega)), (by omega), (he.trans ((cmpG_step (by omega) (by omega)).trans (by simp only [cmpI] at c28; (repeat' split at c28) <;> (first | omega | (rw [if_neg (by omega), if_neg (by omega)]))))), hb, (by omega), hl, hm⟩ (by omega)
 · -- 12F
  refine reg_nil ?_
  refine hK1345 _ _ ?_
  refine seq_any fun K1362 hK1362 => ?_
  refine wp_cond_false (ev_hit hN1344 rfl) ?_
  refine wp_exit (then_exit (then_exit (blk_hit ?_)))
  refine hK1342 _ _ ?_
  refine seq_any fun K1363 hK1363 => ?_
  refine seq_any fun K1364 hK1364 => ?_
  refine one_reg ?_
  refine op_move (ev_base hN1344 rfl s1344_0) ?_
  refine op_len_rd Try.underlying23 (ev_hit hN1344 rfl) hl ?_
  refine op_move (ev_base hN1344 rfl s1344_1) ?_
  refine op_len_rd Try.underlying23 (ev_hit hN1344 rfl) hm ?_
  refine op_lss (ev_hit hN1344 rfl) (ev_hit hN1344 rfl) (fun c35 => ?_) (fun c35 => ?_)
  · -- 35T
   refine reg_nil ?_
   refine hK1364 _ _ ?_
   refine wp_cond_true (ev_hit hN1344 rfl) ?_
   refine seq_any fun K1365 hK1365 => ?_
   refine one_reg ?_
   refine op_assign rfl ?_
   refine reg_nil ?_
   refine hK1365 _ _ ?_
   refine wp_ret (then_ret ( ?_))
   refine ret1 rfl hd1344 (ev_hit hN1344 rfl) ⟨_, rfl, ?_⟩
   -- path 12F 35T
   exact ⟨hb, congrArg (Value.int .i64) (by rw [he, cmpG_lt (by omega) (by omega)])⟩
  · -- 35F
   refine reg_nil ?_
   refine hK1364 _ _ ?_
   refine wp_cond_false (ev_hit hN1344 rfl) ?_
   refine wp_skip ?_
   refine hK1363 _ _ ?_
   refine seq_any fun K1366 hK1366 => ?_
   refine one_reg ?_
   refine op_assign rfl ?_
   refine reg_nil ?_
   refine hK1366 _ _ ?_
   refine wp_ret ?_
   refine ret1 rfl hd1344 (ev_hit hN1344 rfl) ⟨_, rfl, ?_⟩
   -- path 12F 35F
   exact ⟨hb, congrArg (Value.int .i64) (by rw [he, cmpG_end (by omega) (by omega)])⟩

theorem lcmpW_ret (l m : Lb) (v u : Value) (w : World) (hl2 : l.length ≤ 1000000000000) (hm2 : m.length ≤ 1000000000000) (hl : RdC w 0 w.heap.size 1 v l.length (l.map u16v)) (hm : RdC w 0 w.heap.size 1 u m.length (m.map u16v)) : Ret Try.prog 31 #[v, u] w (fun v' w' => Below w.heap.size w w' ∧ v' = .int .i64 (cmpL l m)) := by
 have hb := Below.refl w.heap.size w
 refine enter (N := 15) Try.func31 rfl rfl (by simp) fun a0 hN hd hA => ?_
 have s0 : a0.tmps.getD 0 undef = v := hA 0 (by simp)
 have s1 : a0.tmps.getD 1 undef = u := hA 1 (by simp)
 clear hA
 refine seq_any fun K1367 hK1367 => ?_
 refine one_reg ?_
 refine op_assign rfl ?_
 refine reg_nil ?_
 refine hK1367 _ _ ?_
 refine seq_any fun K1368 hK1368 => ?_
 refine one_reg ?_
 refine op_move (ev_base hN rfl s0) ?_
 refine op_len_rd Try.underlying23 (ev_hit hN rfl) hl ?_
 refine op_move (ev_base hN rfl s1) ?_
 refine op_len_rd Try.underlying23 (ev_hit hN rfl) hm ?_
 refine op_fn (vs := [(Value.int .i64 ((l.length : Nat) : Int)), (Value.int .i64 ((m.length : Nat) : Int))]) ok54 ⟨(ev_hit hN rfl), ⟨(ev_hit hN rfl), trivial⟩⟩ (Ret.flip (cmpCompare_int_ret ((l.length : Nat) : Int) ((m.length : Nat) : Int) _)) ?_
 rintro _ _ ⟨rfl, rfl⟩
 refine op_move (ev_base hN rfl s0) ?_
 refine op_move (ev_base hN rfl s1) ?_
 refine op_fn (vs := [v, u]) ok55 ⟨(ev_hit hN rfl), ⟨(ev_hit hN rfl), trivial⟩⟩ (scmpW_ret l m _ _ _ (by first | assumption | omega | (simp only [List.length_append, List.length_cons, List.length_nil, List.length_drop, List.length_take]; omega) | (dsimp only; omega) | decide | (simp [keyV, be8_len]; done)) (by first | assumption | omega | (simp only [List.length_append, List.length_cons, List.length_nil, List.length_drop, List.length_take]; omega) | (dsimp only; omega) | decide | (simp [keyV, be8_len]; done)) (show RdC w 0 w.heap.size 1 v l.length (l.map u16v) from by have hh : RdC w 0 w.heap.size 1 _ _ _ := (hl.mono (L' := 0) (B' := w.heap.size) (Nat.zero_le _) (by omega)); first | exact hh | exact hh.cast (by first | omega | (simp; try omega)) (by first | rfl | simp [u16v])) (show RdC w 0 w.heap.size 1 u m.length (m.map u16v) from by have hh : RdC w 0 w.heap.size 1 _ _ _ := (hm.mono (L' := 0) (B' := w.heap.size) (Nat.zero_le _) (by omega)); first | exact hh | exact hh.cast (by first | omega | (simp; try omega)) (by first | rfl | simp [u16v]))) ?_
 rintro _ w1369 ⟨E1370, rfl⟩
 have E1370 := grown_of_below E1370
 have z_w1369 := E1370.size
 have hl := hl.keep0 E1370
 have hm := hm.keep0 E1370
 have hb := below_step0 hb E1370 hb.size
 refine op_bslice (e := 3) (pv := [(0, (Value.int .i64 (cmpI ((l.length : Nat) : Int) ((m.length : Nat) : Int)))), (1, (Value.int .i64 (cmpG l m)))]) (cs := [(Value.int .i64 (cmpI ((l.length : Nat) : Int) ((m.length : Nat) : Int))), (Value.int .i64 (cmpG l m))]) ⟨rfl, (ev_hit hN rfl), ⟨rfl, (ev_hit hN rfl), trivial⟩⟩ (by kernel_rfl) ?_
 intro w1371 b1372 lo_b1372 hi_b1372 hB1374 E1373
 have z_w1371 := E1373.size
 have hl := hl.keep0 E1373
 have hm := hm.keep0 E1373
 have hb := below_step0 hb E1373 hb.size
 refine op_fn (vs := [(Value.slice (some ⟨b1372, 0, none⟩) 2 2)]) ok53 ⟨(ev_hit hN rfl), trivial⟩ (Or_ret (cmpI ((l.length : Nat) : Int) ((m.length : Nat) : Int)) (cmpG l m) _ _ ((RdC.ofBx (sz := 1) (n := 2) hB1374 rfl (by decide)).mono (Nat.zero_le _) (by have := hB1374.lt; omega))) ?_
 rintro _ w1375 ⟨E1376, rfl⟩
 have E1376 := grown_of_below E1376
 have z_w1375 := E1376.size
 have hl := hl.keep0 E1376
 have hm := hm.keep0 E1376
 have hB1374 := hB1374.keep0 E1376
 have hb := below_step0 hb E1376 hb.size
 refine op_assign (ev_hit hN rfl) ?_
 refine reg_nil ?_
 refine hK1368 _ _ ?_
 refine wp_ret ?_
 refine ret1 rfl hd (ev_hit hN rfl) ⟨_, rfl, ?_⟩
 -- path
 exact ⟨hb, congrArg (Value.int .i64) cmpL_or⟩

end Go.Proofs.Ytpmnljffdofkeaa

/- Walks, written by a program: what each function of the translation hands back. -/
namespace Go.Proofs.Ytpmnljffdofkeaa
open Go.Gx Go.RowKit
attribute [local irreducible] wpList wpStill Code.wp Calls

theorem growW_ret (n : Nat) (w : World) (hn : n ≤ 1000000000000) : Ret Try.prog 59 #[(Value.slice none 0 0), (Value.int .i64 ((n : Nat) : Int))] w (fun v' w' => Below w.heap.size w w' ∧ Own w' w.heap.size 35 1 v' 0 []) := by
 have hb := Below.refl w.heap.size w
 refine enter (N := 27) Try.func59 rfl rfl (by simp) fun a0 hN hd hA => ?_
 have s0 : a0.tmps.getD 0 undef = (Value.slice none 0 0) := hA 0 (by simp)
 have s1 : a0.tmps.getD 1 undef = (Value.int .i64 ((n : Nat) : Int)) := hA 1 (by simp)
 clear hA
 refine seq_any fun K1377 hK1377 => ?_
 refine one_reg ?_
 refine op_assign rfl ?_
 refine reg_nil ?_
 refine hK1377 _ _ ?_
 refine seq_any fun K1378 hK1378 => ?_
 refine seq_any fun K1379 hK1379 => ?_
 refine one_reg ?_
 refine op_move (ev_base hN rfl s1) ?_
 refine op_lss (ev_hit hN rfl) rfl (fun c6 => ?_) (fun c6 => ?_)
 · -- 6T
  exfalso; omega
 · -- 6F
  refine reg_nil ?_
  refine hK1379 _ _ ?_
  refine wp_cond_false (ev_hit hN rfl) ?_
  refine wp_skip ?_
  refine hK1378 _ _ ?_
  refine seq_any fun K1380 hK1380 => ?_
  refine seq_any fun K1381 hK1381 => ?_
  refine one_reg ?_
  refine op_move (ev_base hN rfl s1) ?_
  refine op_move (ev_base hN rfl s0) ?_
  refine op_cap (c := 0) Try.underlying23 (.inl ⟨(ev_hit hN rfl), rfl⟩) ?_
  refine op_move (ev_base hN rfl s0) ?_
  refine op_len_rd Try.underlying23 (ev_hit hN rfl) (RdC.nil _ 0 0 1) ?_
  refine op_sub (r := 0) (ev_hit hN rfl) (ev_hit hN rfl) (by decide) ?_
  refine op_sub (r := ((n : Nat) : Int)) (ev_hit hN rfl) (ev_hit hN rfl) (by rw [IntKind.wrap_i64]; omega) ?_
  refine op_assign (ev_hit hN rfl) ?_
  refine reg_nil ?_
  refine hK1381 _ _ ?_
  refine seq_any fun K1382 hK1382 => ?_
  refine one_reg ?_
  refine op_move (ev_hit hN rfl) ?_
  refine op_gtr (ev_hit hN rfl) rfl (fun c16 => ?_) (fun c16 => ?_)
  · -- 16T
   refine reg_nil ?_
   refine hK1382 _ _ ?_
   refine wp_cond_true (ev_hit hN rfl) ?_
   refine one_reg ?_
   refine op_move (ev_base hN rfl s0) ?_
   refine op_move (ev_base hN rfl s0) ?_
   refine op_cap (c := 0) Try.underlying23 (.inl ⟨(ev_hit hN rfl), rfl⟩) ?_
   refine op_slice_nil slt23 (ev_hit hN rfl) (ev_hit hN rfl) ?_
   refine op_move (ev_hit hN rfl) ?_
   refine op_append_zeros_nil (n := n) (base := w.heap.size) slt23 Try.underlying3 (ev_hit hN rfl) (ev_hit hN rfl) (by omega) (by omega) (by omega) hb.size ?_
   intro v1383 w1384 cs1388 hO1386 E1385 hk1387
   have z_w1384 := E1385.size
   have hb := below_step0 hb E1385 hb.size
   refine op_move (ev_base hN rfl s0) ?_
   refine op_len_rd Try.underlying23 (ev_hit hN rfl) (RdC.nil _ 0 0 1) ?_
   refine op_slice_own_hi (m := 0) slt23 (ev_hit hN rfl) hO1386 (ev_hit hN rfl) rfl (by omega) ?_
   intro v1389 hO1390 ho1391
   have hO1390 : Own w1384 w.heap.size 35 1 v1389 0 ([]) := by exact hO1390.cast rfl (by simp)
   refine op_assign (ev_hit hN rfl) ?_
   refine reg_nil ?_
   refine hK1380 _ _ ?_
   refine seq_any fun K1392 hK1392 => ?_
   refine one_reg ?_
   refine op_move (ev_hit hN rfl) ?_
   refine op_assign (ev_hit hN rfl) ?_
   refine reg_nil ?_
   refine hK1392 _ _ ?_
   refine wp_ret ?_
   refine ret1 rfl hd (ev_hit hN rfl) ⟨_, rfl, ?_⟩
   -- path 6F 16T
   exact ⟨hb, hO1390⟩
  · -- 16F
   refine reg_nil ?_
   refine hK1382 _ _ ?_
   refine wp_cond_false (ev_hit hN rfl) ?_
   refine wp_skip ?_
   refine hK1380 _ _ ?_
   refine seq_any fun K1393 hK1393 => ?_
   refine one_reg ?_
   refine op_move (ev_base hN rfl s0) ?_
   refine op_assign (ev_hit hN rfl) ?_
   refine reg_nil ?_
   refine hK1393 _ _ ?_
   refine wp_ret ?_
   refine ret1 rfl hd (ev_hit hN rfl) ⟨_, rfl, ?_⟩
   -- path 6F 16F
   exact ⟨hb, Own.nil _ _ _ _⟩

theorem concatW_ret (l m : Lb) (v u1 u2 : Value) (w : World) (hz : l.length ≤ 1000000000) (hzm : m.length ≤ 1000000000) (hv : RdC w 0 w.heap.size 1 v 2 [u1, u2]) (hl : RdC w 0 w.heap.size 1 u1 l.length (l.map u16v)) (hm : RdC w 0 w.heap.size 1 u2 m.length (m.map u16v)) : Ret Try.prog 48 #[v] w (fun v' w' => Below w.heap.size w w' ∧ Own w' w.heap.size 35 1 v' (l ++ m).length ((l ++ m).map u16v)) := by
 have hb := Below.refl w.heap.size w
 refine enter (N := 36) Try.func48 rfl rfl (by simp) fun a0 hN hd hA => ?_
 have s0 : a0.tmps.getD 0 undef = v := hA 0 (by simp)
 clear hA
 refine seq_any fun K1394 hK1394 => ?_
 refine one_reg ?_
 refine op_assign rfl ?_
 refine reg_nil ?_
 refine hK1394 _ _ ?_
 refine seq_any fun K1395 hK1395 => ?_
 refine one_reg ?_
 refine op_assign rfl ?_
 refine reg_nil ?_
 refine hK1395 _ _ ?_
 refine seq_any fun K1396 hK1396 => ?_
 refine seq_any fun K1397 hK1397 => ?_
 refine one_reg ?_
 refine op_move (ev_base hN rfl s0) ?_
 refine op_len_rd Try.underlying49 (ev_hit hN rfl) hv ?_
 refine op_move rfl ?_
 refine reg_nil ?_
 refine hK1397 _ _ ?_
 refine wp_block ?_
 refine wp_loop_rounds 3 ?_
 refine rounds_any fun K1398 hK1398 => ?_
 refine seq_any fun K1399 hK1399 => ?_
 refine one_reg ?_
 refine op_bin (v := .bool true) (ev_hit hN rfl) (ev_hit hN rfl) (by rw [binOp_lss]; rfl) ?_
 refine reg_nil ?_
 refine hK1399 _ _ ?_
 refine seq_any fun K1400 hK1400 => ?_
 refine wp_cond_true (ev_hit hN rfl) ?_
 refine wp_skip ?_
 refine hK1400 _ _ ?_
 refine seq_any fun K1401 hK1401 => ?_
 refine wp_block ?_
 refine seq_any fun K1402 hK1402 => ?_
 refine one_reg ?_
 refine op_index_rd slt49 (ev_hit hN rfl) hv (ev_hit hN rfl) (by omega) (by omega) ?_
 intro b1403 o1404 h0b1403 h1b1403 hc1405
 refine op_load1 (v := u1) one23 (ev_hit hN rfl) (by have := hc1405 0 u1 (by decide) rfl; simpa using this) ?_
 refine op_assign (ev_hit hN rfl) ?_
 refine reg_nil ?_
 refine hK1402 _ _ ?_
 refine seq_any fun K1406 hK1406 => ?_
 refine one_reg ?_
 refine op_move (ev_hit hN rfl) ?_
 refine op_move (ev_hit hN rfl) ?_
 refine op_len_rd Try.underlying23 (ev_hit hN rfl) hl ?_
 refine op_add (ev_hit hN rfl) (ev_hit hN rfl) (add64 (by omega)) ?_
 refine op_assign (ev_hit hN rfl) ?_
 refine reg_nil ?_
 refine hK1406 _ _ ?_
 refine seq_any fun K1407 hK1407 => ?_
 refine one_reg ?_
 refine op_move (ev_hit hN rfl) ?_
 refine op_lss (ev_hit hN rfl) rfl (fun c20 => ?_) (fun c20 => ?_)
 · -- 20T
  exfalso; omega
 · -- 20F
  refine reg_nil ?_
  refine hK1407 _ _ ?_
  refine wp_cond_false (ev_hit hN rfl) ?_
  refine wp_skip ?_
  refine hK1401 _ _ ?_
  refine one_reg ?_
  refine op_add (r := 1) (ev_hit hN rfl) rfl (by decide) ?_
  refine op_move (ev_hit hN rfl) ?_
  refine reg_nil ?_
  refine hK1398 _ _ ?_
  refine rounds_any fun K1408 hK1408 => ?_
  refine seq_any fun K1409 hK1409 => ?_
  refine one_reg ?_
  refine op_bin (v := .bool true) (ev_hit hN rfl) (ev_hit hN rfl) (by rw [binOp_lss]; rfl) ?_
  refine reg_nil ?_
  refine hK1409 _ _ ?_
  refine seq_any fun K1410 hK1410 => ?_
  refine wp_cond_true (ev_hit hN rfl) ?_
  refine wp_skip ?_
  refine hK1410 _ _ ?_
  refine seq_any fun K1411 hK1411 => ?_
  refine wp_block ?_
  refine seq_any fun K1412 hK1412 => ?_
  refine one_reg ?_
  refine op_index_rd slt49 (ev_hit hN rfl) hv (ev_hit hN rfl) (by omega) (by omega) ?_
  intro b1413 o1414 h0b1413 h1b1413 hc1415
  refine op_load1 (v := u2) one23 (ev_hit hN rfl) (by have := hc1415 0 u2 (by decide) rfl; simpa using this) ?_
  refine op_assign (ev_hit hN rfl) ?_
  refine reg_nil ?_
  refine hK1412 _ _ ?_
  refine seq_any fun K1416 hK1416 => ?_
  refine one_reg ?_
  refine op_move (ev_hit hN rfl) ?_
  refine op_move (ev_hit hN rfl) ?_
  refine op_len_rd Try.underlying23 (ev_hit hN rfl) hm ?_
  refine op_add (ev_hit hN rfl) (ev_hit hN rfl) (add64 (by omega)) ?_
  refine op_assign (ev_hit hN rfl) ?_
  refine reg_nil ?_
  refine hK1416 _ _ ?_
  refine seq_any fun K1417 hK1417 => ?_
  refine one_reg ?_
  refine op_move (ev_hit hN rfl) ?_
  refine op_lss (ev_hit hN rfl) rfl (fun c20 => ?_) (fun c20 => ?_)
  · -- 20T
   exfalso; omega
  · -- 20F
   refine reg_nil ?_
   refine hK1417 _ _ ?_
   refine wp_cond_false (ev_hit hN rfl) ?_
   refine wp_skip ?_
   refine hK1411 _ _ ?_
   refine one_reg ?_
   refine op_add (r := 2) (ev_hit hN rfl) rfl (by decide) ?_
   refine op_move (ev_hit hN rfl) ?_
   refine reg_nil ?_
   refine hK1408 _ _ ?_
   refine rounds_any fun K1418 hK1418 => ?_
   refine seq_any fun K1419 hK1419 => ?_
   refine one_reg ?_
   refine op_bin (v := .bool false) (ev_hit hN rfl) (ev_hit hN rfl) (by rw [binOp_lss]; rfl) ?_
   refine reg_nil ?_
   refine hK1419 _ _ ?_
   refine seq_any fun K1420 hK1420 => ?_
   refine wp_cond_false (ev_hit hN rfl) ?_
   refine wp_exit (then_exit (then_exit (blk_hit ?_)))
   refine hK1396 _ _ ?_
   refine seq_any fun K1421 hK1421 => ?_
   refine one_reg ?_
   refine op_move (ev_hit hN rfl) ?_
   refine op_fn (vs := [(Value.slice none 0 0), (Value.int .i64 ((0 + ((l.length : Nat) : Int)) + ((m.length : Nat) : Int)))]) ok59 ⟨rfl, ⟨(ev_hit hN rfl), trivial⟩⟩ (growW_ret ((0 + (l.length)) + (m.length)) _ (by omega)) ?_
   rintro v1422 w1423 ⟨E1424, hO1422⟩
   have E1424 := grown_of_below E1424
   have z_w1423 := E1424.size
   have hv := hv.keep0 E1424
   have hl := hl.keep0 E1424
   have hm := hm.keep0 E1424
   have hb := below_step0 hb E1424 hb.size
   have hO1422 := hO1422.mono (base' := w.heap.size) (by omega)
   refine op_assign (ev_hit hN rfl) ?_
   refine reg_nil ?_
   refine hK1421 _ _ ?_
   refine seq_any fun K1425 hK1425 => ?_
   refine seq_any fun K1426 hK1426 => ?_
   refine one_reg ?_
   refine op_move (ev_base hN rfl s0) ?_
   refine op_len_rd Try.underlying49 (ev_hit hN rfl) hv ?_
   refine op_move rfl ?_
   refine reg_nil ?_
   refine hK1426 _ _ ?_
   refine wp_block ?_
   refine wp_loop_rounds 3 ?_
   refine rounds_any fun K1427 hK1427 => ?_
   refine seq_any fun K1428 hK1428 => ?_
   refine one_reg ?_
   refine op_bin (v := .bool true) (ev_hit hN rfl) (ev_hit hN rfl) (by rw [binOp_lss]; rfl) ?_
   refine reg_nil ?_
   refine hK1428 _ _ ?_
   refine seq_any fun K1429 hK1429 => ?_
   refine wp_cond_true (ev_hit hN rfl) ?_
   refine wp_skip ?_
   refine hK1429 _ _ ?_
   refine seq_any fun K1430 hK1430 => ?_
   refine wp_block ?_
   refine seq_any fun K1431 hK1431 => ?_
   refine one_reg ?_
   refine op_index_rd slt49 (ev_hit hN rfl) hv (ev_hit hN rfl) (by omega) (by omega) ?_
   intro b1432 o1433 h0b1432 h1b1432 hc1434
   refine op_load1 (v := u1) one23 (ev_hit hN rfl) (by have := hc1434 0 u1 (by decide) rfl; simpa using this) ?_
   refine op_assign (ev_hit hN rfl) ?_
   refine reg_nil ?_
   refine hK1431 _ _ ?_
   refine one_reg ?_
   refine op_move (ev_hit hN rfl) ?_
   refine op_move (ev_hit hN rfl) ?_
   have hP1440 := hO1422
   refine op_append slt23 (ev_hit hN rfl) hP1440 (ev_hit hN rfl) (Src.ofRd Try.underlying23 (by decide) hl (one_u16 _)) (by unfold maxLen; omega) (by omega) hb.size ?_
   intro v1435 w1436 hO1438 E1437 hm1439
   have z_w1436 := E1437.size
   have hv := hv.keepO hP1440 E1437 (by omega)
   have hl := hl.keepO hP1440 E1437 (by omega)
   have hm := hm.keepO hP1440 E1437 (by omega)
   have hb := below_stepO hb hP1440 E1437 hb.size (by omega)
   have hO1438 : Own w1436 w.heap.size 35 1 v1435 (0 + l.length) ((l).map u16v) := by simpa [u8v, u16v, cellsV] using hO1438
   refine op_assign (ev_hit hN rfl) ?_
   refine reg_nil ?_
   refine hK1430 _ _ ?_
   refine one_reg ?_
   refine op_add (r := 1) (ev_hit hN rfl) rfl (by decide) ?_
   refine op_move (ev_hit hN rfl) ?_
   refine reg_nil ?_
   refine hK1427 _ _ ?_
   refine rounds_any fun K1441 hK1441 => ?_
   refine seq_any fun K1442 hK1442 => ?_
   refine one_reg ?_
   refine op_bin (v := .bool true) (ev_hit hN rfl) (ev_hit hN rfl) (by rw [binOp_lss]; rfl) ?_
   refine reg_nil ?_
   refine hK1442 _ _ ?_
   refine seq_any fun K1443 hK1443 => ?_
   refine wp_cond_true (ev_hit hN rfl) ?_
   refine wp_skip ?_
   refine hK1443 _ _ ?_
   refine seq_any fun K1444 hK1444 => ?_
   refine wp_block ?_
   refine seq_any fun K1445 hK1445 => ?_
   refine one_reg ?_
   refine op_index_rd slt49 (ev_hit hN rfl) hv (ev_hit hN rfl) (by omega) (by omega) ?_
   intro b1446 o1447 h0b1446 h1b1446 hc1448
   refine op_load1 (v := u2) one23 (ev_hit hN rfl) (by have := hc1448 0 u2 (by decide) rfl; simpa using this) ?_
   refine op_assign (ev_hit hN rfl) ?_
   refine reg_nil ?_
   refine hK1445 _ _ ?_
   refine one_reg ?_
   refine op_move (ev_hit hN rfl) ?_
   refine op_move (ev_hit hN rfl) ?_
   have hP1454 := hO1438
   refine op_append slt23 (ev_hit hN rfl) hP1454 (ev_hit hN rfl) (Src.ofRd Try.underlying23 (by decide) hm (one_u16 _)) (by unfold maxLen; omega) (by omega) hb.size ?_
   intro v1449 w1450 hO1452 E1451 hm1453
   have z_w1450 := E1451.size
   have hv := hv.keepO hP1454 E1451 (by omega)
   have hl := hl.keepO hP1454 E1451 (by omega)
   have hm := hm.keepO hP1454 E1451 (by omega)
   have hb := below_stepO hb hP1454 E1451 hb.size (by omega)
   have hO1452 : Own w1450 w.heap.size 35 1 v1449 ((0 + l.length) + m.length) (((l ++ m)).map u16v) := by simpa [u8v, u16v, cellsV] using hO1452
   refine op_assign (ev_hit hN rfl) ?_
   refine reg_nil ?_
   refine hK1444 _ _ ?_
   refine one_reg ?_
   refine op_add (r := 2) (ev_hit hN rfl) rfl (by decide) ?_
   refine op_move (ev_hit hN rfl) ?_
   refine reg_nil ?_
   refine hK1441 _ _ ?_
   refine rounds_any fun K1455 hK1455 => ?_
   refine seq_any fun K1456 hK1456 => ?_
   refine one_reg ?_
   refine op_bin (v := .bool false) (ev_hit hN rfl) (ev_hit hN rfl) (by rw [binOp_lss]; rfl) ?_
   refine reg_nil ?_
   refine hK1456 _ _ ?_
   refine seq_any fun K1457 hK1457 => ?_
   refine wp_cond_false (ev_hit hN rfl) ?_
   refine wp_exit (then_exit (then_exit (blk_hit ?_)))
   refine hK1425 _ _ ?_
   refine seq_any fun K1458 hK1458 => ?_
   refine one_reg ?_
   refine op_move (ev_hit hN rfl) ?_
   refine op_assign (ev_hit hN rfl) ?_
   refine reg_nil ?_
   refine hK1458 _ _ ?_
   refine wp_ret ?_
   refine ret1 rfl hd (ev_hit hN rfl) ⟨_, rfl, ?_⟩
   -- path 20F 20F
   exact ⟨hb, hO1452.cast (by simp) (by simp)⟩

theorem joinW_ret (l m : Lb) (v u : Value) (w : World) (hl2 : l.length ≤ 1000000000) (hm2 : m.length ≤ 1000000000) (hl : RdC w 0 w.heap.size 1 v l.length (l.map u16v)) (hm : RdC w 0 w.heap.size 1 u m.length (m.map u16v)) : Ret Try.prog 28 #[v, u] w (fun v' w' => Below w.heap.size w w' ∧ Own w' w.heap.size 35 1 v' (joinL l m).length ((joinL l m).map u16v)) := by
 have hb := Below.refl w.heap.size w
 refine enter (N := 10) Try.func28 rfl rfl (by simp) fun a0 hN hd hA => ?_
 have s0 : a0.tmps.getD 0 undef = v := hA 0 (by simp)
 have s1 : a0.tmps.getD 1 undef = u := hA 1 (by simp)
 clear hA
 refine seq_any fun K1459 hK1459 => ?_
 refine one_reg ?_
 refine op_assign rfl ?_
 refine reg_nil ?_
 refine hK1459 _ _ ?_
 refine seq_any fun K1460 hK1460 => ?_
 refine one_reg ?_
 refine op_move (ev_base hN rfl s0) ?_
 refine op_move (ev_base hN rfl s1) ?_
 refine op_bslice (e := 23) (pv := [(0, v), (1, u)]) (cs := [v, u]) ⟨rfl, (ev_hit hN rfl), ⟨rfl, (ev_hit hN rfl), trivial⟩⟩ (by obtain ⟨_, _, _, rfl⟩ := hl.sl; obtain ⟨_, _, _, rfl⟩ := hm.sl; kernel_rfl) ?_
 intro w1461 b1462 lo_b1462 hi_b1462 hB1464 E1463
 have z_w1461 := E1463.size
 have hl := hl.keep0 E1463
 have hm := hm.keep0 E1463
 have hb := below_step0 hb E1463 hb.size
 refine op_fn (vs := [(Value.slice (some ⟨b1462, 0, none⟩) 2 2)]) ok48 ⟨(ev_hit hN rfl), trivial⟩ (concatW_ret l m _ _ _ _ (by first | assumption | omega | (simp only [List.length_append, List.length_cons, List.length_nil, List.length_drop, List.length_take]; omega) | (dsimp only; omega) | decide | (simp [keyV, be8_len]; done)) (by first | assumption | omega | (simp only [List.length_append, List.length_cons, List.length_nil, List.length_drop, List.length_take]; omega) | (dsimp only; omega) | decide | (simp [keyV, be8_len]; done)) ((RdC.ofBx (sz := 1) (n := 2) hB1464 rfl (by decide)).mono (Nat.zero_le _) (by have := hB1464.lt; omega)) (show RdC w1461 0 w1461.heap.size 1 v l.length (l.map u16v) from by have hh : RdC w1461 0 w1461.heap.size 1 _ _ _ := (hl.mono (L' := 0) (B' := w1461.heap.size) (Nat.zero_le _) (by omega)); first | exact hh | exact hh.cast (by first | omega | (simp; try omega)) (by first | rfl | simp [u16v])) (show RdC w1461 0 w1461.heap.size 1 u m.length (m.map u16v) from by have hh : RdC w1461 0 w1461.heap.size 1 _ _ _ := (hm.mono (L' := 0) (B' := w1461.heap.size) (Nat.zero_le _) (by omega)); first | exact hh | exact hh.cast (by first | omega | (simp; try omega)) (by first | rfl | simp [u16v]))) ?_
 rintro v1465 w1466 ⟨E1467, hO1465⟩
 have E1467 := grown_of_below E1467
 have z_w1466 := E1467.size
 have hl := hl.keep0 E1467
 have hm := hm.keep0 E1467
 have hB1464 := hB1464.keep0 E1467
 have hb := below_step0 hb E1467 hb.size
 have hO1465 := hO1465.mono (base' := w.heap.size) (by omega)
 refine op_fn (vs := [v1465]) ok46 ⟨(ev_hit hN rfl), trivial⟩ (sortedW_ret (l ++ m) _ _ (by first | assumption | omega | (simp only [List.length_append, List.length_cons, List.length_nil, List.length_drop, List.length_take]; omega) | (dsimp only; omega) | decide | (simp [keyV, be8_len]; done)) (show RdC w1466 0 w1466.heap.size 1 v1465 (l ++ m).length ((l ++ m).map u16v) from by have hh : RdC w1466 0 w1466.heap.size 1 _ _ _ := (hO1465.rdw.mono (L' := 0) (B' := w1466.heap.size) (Nat.zero_le _) (by omega)); first | exact hh | exact hh.cast (by first | omega | (simp; try omega)) (by first | rfl | simp [u16v]))) ?_
 rintro v1468 w1469 ⟨E1470, hO1468⟩
 have dj1471 : DJ v1468 v1465 := fun k hk hg => by have q1 := (hO1468.lt k hk).1; have q2 := (hO1465.lt k hg).2; omega
 have E1470 := grown_of_below E1470
 have z_w1469 := E1470.size
 have hl := hl.keep0 E1470
 have hm := hm.keep0 E1470
 have hB1464 := hB1464.keep0 E1470
 have hO1465 := hO1465.keep0 E1470
 have hb := below_step0 hb E1470 hb.size
 have hO1468 := hO1468.mono (base' := w.heap.size) (by omega)
 refine op_assign (ev_hit hN rfl) ?_
 refine reg_nil ?_
 refine hK1460 _ _ ?_
 refine wp_ret ?_
 refine ret1 rfl hd (ev_hit hN rfl) ⟨_, rfl, ?_⟩
 -- path
 exact ⟨hb, hO1468⟩

theorem rjoinW_ret (l m : Lb) (v u : Value) (w : World) (hl2 : l.length ≤ 1000000000) (hm2 : m.length ≤ 1000000000) (hl : RdC w 0 w.heap.size 1 v l.length (l.map u16v)) (hm : RdC w 0 w.heap.size 1 u m.length (m.map u16v)) : Ret Try.prog 21 #[v, u] w (fun v' w' => Below w.heap.size w w' ∧ Own w' w.heap.size 35 1 v' (joinL l m).length ((joinL l m).map u16v)) := by
 have hb := Below.refl w.heap.size w
 refine enter (N := 11) Try.func21 rfl rfl (by simp) fun a0 hN hd hA => ?_
 have s0 : a0.tmps.getD 0 undef = v := hA 0 (by simp)
 have s1 : a0.tmps.getD 1 undef = u := hA 1 (by simp)
 clear hA
 refine seq_any fun K1472 hK1472 => ?_
 refine one_reg ?_
 refine op_assign rfl ?_
 refine reg_nil ?_
 refine hK1472 _ _ ?_
 refine seq_any fun K1473 hK1473 => ?_
 refine one_reg ?_
 refine op_bslice (e := 35) (pv := []) (cs := []) trivial (by kernel_rfl) ?_
 intro w1474 b1475 lo_b1475 hi_b1475 hB1477 E1476
 have z_w1474 := E1476.size
 have hl := hl.keep0 E1476
 have hm := hm.keep0 E1476
 have hb := below_step0 hb E1476 hb.size
 refine op_move (ev_base hN rfl s0) ?_
 have hP1483 := (Own.ofBx (base := w.heap.size) (sz := 1) (n := 0) hB1477 rfl (by decide) (by omega))
 refine op_append slt22 (ev_hit hN rfl) hP1483 (ev_hit hN rfl) (Src.ofRd Try.underlying23 (by decide) hl (one_u16 _)) (by unfold maxLen; omega) (by omega) hb.size ?_
 intro v1478 w1479 hO1481 E1480 hm1482
 have z_w1479 := E1480.size
 have hl := hl.keepO hP1483 E1480 (by omega)
 have hm := hm.keepO hP1483 E1480 (by omega)
 have hb := below_stepO hb hP1483 E1480 hb.size (by omega)
 have hO1481 : Own w1479 w.heap.size 35 1 v1478 (0 + l.length) ((l).map u16v) := by simpa [u8v, u16v, cellsV] using hO1481
 refine op_move (ev_base hN rfl s1) ?_
 have hP1489 := hO1481
 refine op_append slt22 (ev_hit hN rfl) hP1489 (ev_hit hN rfl) (Src.ofRd Try.underlying23 (by decide) hm (one_u16 _)) (by unfold maxLen; omega) (by omega) hb.size ?_
 intro v1484 w1485 hO1487 E1486 hm1488
 have z_w1485 := E1486.size
 have hl := hl.keepO hP1489 E1486 (by omega)
 have hm := hm.keepO hP1489 E1486 (by omega)
 have hb := below_stepO hb hP1489 E1486 hb.size (by omega)
 have hO1487 : Own w1485 w.heap.size 35 1 v1484 ((0 + l.length) + m.length) (((l ++ m)).map u16v) := by simpa [u8v, u16v, cellsV] using hO1487
 refine op_fn (vs := [v1484]) ok45 ⟨(ev_hit hN rfl), trivial⟩ (rallW_ret (l ++ m) _ _ (by first | assumption | omega | (simp only [List.length_append, List.length_cons, List.length_nil, List.length_drop, List.length_take]; omega) | (dsimp only; omega) | decide | (simp [keyV, be8_len]; done)) (show RdC w1485 0 w1485.heap.size 1 v1484 (l ++ m).length ((l ++ m).map u16v) from by have hh : RdC w1485 0 w1485.heap.size 1 _ _ _ := (hO1487.rdw.mono (L' := 0) (B' := w1485.heap.size) (Nat.zero_le _) (by omega)); first | exact hh | exact hh.cast (by first | omega | (simp; try omega)) (by first | rfl | simp [u16v]))) ?_
 rintro v1490 w1491 ⟨E1492, hO1490⟩
 have dj1493 : DJ v1490 v1484 := fun k hk hg => by have q1 := (hO1490.lt k hk).1; have q2 := (hO1487.lt k hg).2; omega
 have E1492 := grown_of_below E1492
 have z_w1491 := E1492.size
 have hl := hl.keep0 E1492
 have hm := hm.keep0 E1492
 have hO1487 := hO1487.keep0 E1492
 have hb := below_step0 hb E1492 hb.size
 have hO1490 := hO1490.mono (base' := w.heap.size) (by omega)
 refine op_assign (ev_hit hN rfl) ?_
 refine reg_nil ?_
 refine hK1473 _ _ ?_
 refine wp_ret ?_
 refine ret1 rfl hd (ev_hit hN rfl) ⟨_, rfl, ?_⟩
 -- path
 exact ⟨hb, hO1490⟩

end Go.Proofs.Ytpmnljffdofkeaa

/- Walks, written by a program: what each function of the translation hands back. -/
namespace Go.Proofs.Ytpmnljffdofkeaa
open Go.Gx Go.RowKit
attribute [local irreducible] wpList wpStill Code.wp Calls

theorem normW_ret (l : Lb) (v : Value) (w : World) (hz : l.length ≤ 100000000) (hl : RdC w 0 w.heap.size 1 v l.length (l.map u16v)) : Ret Try.prog 24 #[v] w (fun v' w' => Below w.heap.size w w' ∧ ∃ u, v' = .tuple #[u, .int .i64 (normE l)] ∧ Own w' w.heap.size 35 1 u (normL l).length ((normL l).map u16v)) := by
 have hb := Below.refl w.heap.size w
 refine enter (N := 11) Try.func24 rfl rfl (by simp) fun a0 hN hd hA => ?_
 have s0 : a0.tmps.getD 0 undef = v := hA 0 (by simp)
 clear hA
 refine seq_any fun K1494 hK1494 => ?_
 refine one_reg ?_
 refine op_assign rfl ?_
 refine op_assign rfl ?_
 refine reg_nil ?_
 refine hK1494 _ _ ?_
 refine seq_any fun K1495 hK1495 => ?_
 refine one_reg ?_
 refine op_move (ev_base hN rfl s0) ?_
 refine op_fn (vs := [v]) ok46 ⟨(ev_hit hN rfl), trivial⟩ (sortedW_ret l _ _ (by first | assumption | omega | (simp only [List.length_append, List.length_cons, List.length_nil, List.length_drop, List.length_take]; omega) | (dsimp only; omega) | decide | (simp [keyV, be8_len]; done)) (show RdC w 0 w.heap.size 1 v l.length (l.map u16v) from by have hh : RdC w 0 w.heap.size 1 _ _ _ := (hl.mono (L' := 0) (B' := w.heap.size) (Nat.zero_le _) (by omega)); first | exact hh | exact hh.cast (by first | omega | (simp; try omega)) (by first | rfl | simp [u16v]))) ?_
 rintro v1496 w1497 ⟨E1498, hO1496⟩
 have E1498 := grown_of_below E1498
 have z_w1497 := E1498.size
 have hl := hl.keep0 E1498
 have hb := below_step0 hb E1498 hb.size
 have hO1496 := hO1496.mono (base' := w.heap.size) (by omega)
 refine op_assign (ev_hit hN rfl) ?_
 refine reg_nil ?_
 refine hK1495 _ _ ?_
 refine seq_any fun K1499 hK1499 => ?_
 refine seq_any fun K1500 hK1500 => ?_
 refine one_reg ?_
 refine op_move (ev_hit hN rfl) ?_
 refine op_len_rd Try.underlying22 (ev_hit hN rfl) hO1496.rdw ?_
 refine op_gtr (ev_hit hN rfl) rfl (fun c9 => ?_) (fun c9 => ?_)
 · -- 9T
  refine reg_nil ?_
  refine hK1500 _ _ ?_
  refine wp_cond_true (ev_hit hN rfl) ?_
  refine seq_any fun K1501 hK1501 => ?_
  refine one_reg ?_
  refine op_assign rfl ?_
  refine op_assign rfl ?_
  refine reg_nil ?_
  refine hK1501 _ _ ?_
  refine wp_ret (then_ret ( ?_))
  refine ret2 rfl hd (ev_hit hN rfl) (ev_hit hN rfl) ⟨_, rfl, ?_⟩
  -- path 9T
  have h8 : 8 < (nrm l).length := by omega
  rw [normE_bad h8, normL_bad h8]
  exact ⟨hb, _, rfl, Own.nil _ _ _ _⟩
 · -- 9F
  refine reg_nil ?_
  refine hK1500 _ _ ?_
  refine wp_cond_false (ev_hit hN rfl) ?_
  refine wp_skip ?_
  refine hK1499 _ _ ?_
  refine seq_any fun K1502 hK1502 => ?_
  refine one_reg ?_
  refine op_move (ev_hit hN rfl) ?_
  refine op_assign (ev_hit hN rfl) ?_
  refine op_assign rfl ?_
  refine reg_nil ?_
  refine hK1502 _ _ ?_
  refine wp_ret ?_
  refine ret2 rfl hd (ev_hit hN rfl) (ev_hit hN rfl) ⟨_, rfl, ?_⟩
  -- path 9F
  have h8 : ¬ 8 < (nrm l).length := by omega
  rw [normE_ok h8, normL_ok h8]
  exact ⟨hb, _, rfl, hO1496⟩

theorem rnormW_ret (l : Lb) (v : Value) (w : World) (hz : l.length ≤ 100000000) (hl : RdC w 0 w.heap.size 1 v l.length (l.map u16v)) : Ret Try.prog 25 #[v] w (fun v' w' => Below w.heap.size w w' ∧ ∃ u, v' = .tuple #[u, .int .i64 (normE l)] ∧ Own w' w.heap.size 35 1 u (normL l).length ((normL l).map u16v)) := by
 have hb := Below.refl w.heap.size w
 refine enter (N := 11) Try.func25 rfl rfl (by simp) fun a0 hN hd hA => ?_
 have s0 : a0.tmps.getD 0 undef = v := hA 0 (by simp)
 clear hA
 refine seq_any fun K1503 hK1503 => ?_
 refine one_reg ?_
 refine op_assign rfl ?_
 refine op_assign rfl ?_
 refine reg_nil ?_
 refine hK1503 _ _ ?_
 refine seq_any fun K1504 hK1504 => ?_
 refine one_reg ?_
 refine op_move (ev_base hN rfl s0) ?_
 refine op_fn (vs := [v]) ok45 ⟨(ev_hit hN rfl), trivial⟩ (rallW_ret l _ _ (by first | assumption | omega | (simp only [List.length_append, List.length_cons, List.length_nil, List.length_drop, List.length_take]; omega) | (dsimp only; omega) | decide | (simp [keyV, be8_len]; done)) (show RdC w 0 w.heap.size 1 v l.length (l.map u16v) from by have hh : RdC w 0 w.heap.size 1 _ _ _ := (hl.mono (L' := 0) (B' := w.heap.size) (Nat.zero_le _) (by omega)); first | exact hh | exact hh.cast (by first | omega | (simp; try omega)) (by first | rfl | simp [u16v]))) ?_
 rintro v1505 w1506 ⟨E1507, hO1505⟩
 have E1507 := grown_of_below E1507
 have z_w1506 := E1507.size
 have hl := hl.keep0 E1507
 have hb := below_step0 hb E1507 hb.size
 have hO1505 := hO1505.mono (base' := w.heap.size) (by omega)
 refine op_assign (ev_hit hN rfl) ?_
 refine reg_nil ?_
 refine hK1504 _ _ ?_
 refine seq_any fun K1508 hK1508 => ?_
 refine seq_any fun K1509 hK1509 => ?_
 refine one_reg ?_
 refine op_move (ev_hit hN rfl) ?_
 refine op_len_rd Try.underlying23 (ev_hit hN rfl) hO1505.rdw ?_
 refine op_gtr (ev_hit hN rfl) rfl (fun c9 => ?_) (fun c9 => ?_)
 · -- 9T
  refine reg_nil ?_
  refine hK1509 _ _ ?_
  refine wp_cond_true (ev_hit hN rfl) ?_
  refine seq_any fun K1510 hK1510 => ?_
  refine one_reg ?_
  refine op_assign rfl ?_
  refine op_assign rfl ?_
  refine reg_nil ?_
  refine hK1510 _ _ ?_
  refine wp_ret (then_ret ( ?_))
  refine ret2 rfl hd (ev_hit hN rfl) (ev_hit hN rfl) ⟨_, rfl, ?_⟩
  -- path 9T
  have h8 : 8 < (nrm l).length := by omega
  rw [normE_bad h8, normL_bad h8]
  exact ⟨hb, _, rfl, Own.nil _ _ _ _⟩
 · -- 9F
  refine reg_nil ?_
  refine hK1509 _ _ ?_
  refine wp_cond_false (ev_hit hN rfl) ?_
  refine wp_skip ?_
  refine hK1508 _ _ ?_
  refine seq_any fun K1511 hK1511 => ?_
  refine one_reg ?_
  refine op_move (ev_hit hN rfl) ?_
  refine op_assign (ev_hit hN rfl) ?_
  refine op_assign rfl ?_
  refine reg_nil ?_
  refine hK1511 _ _ ?_
  refine wp_ret ?_
  refine ret2 rfl hd (ev_hit hN rfl) (ev_hit hN rfl) ⟨_, rfl, ?_⟩
  -- path 9F
  have h8 : ¬ 8 < (nrm l).length := by omega
  rw [normE_ok h8, normL_ok h8]
  exact ⟨hb, _, rfl, hO1505⟩

theorem labMay_ret (l : Lb) (v : Value) (w : World) (hz : l.length ≤ 1000000000000) (hl : RdC w 0 w.heap.size 1 v l.length (l.map u16v)) : Ret Try.prog 26 #[v] w (fun v' w' => Below w.heap.size w w' ∧ v' = .bool (mayL l)) := by
 have hb := Below.refl w.heap.size w
 refine enter (N := 10) Try.func26 rfl rfl (by simp) fun a0 hN hd hA => ?_
 have s0 : a0.tmps.getD 0 undef = v := hA 0 (by simp)
 clear hA
 refine seq_any fun K1512 hK1512 => ?_
 refine one_reg ?_
 refine op_assign rfl ?_
 refine reg_nil ?_
 refine hK1512 _ _ ?_
 refine seq_any fun K1513 hK1513 => ?_
 refine one_reg ?_
 refine op_move (ev_base hN rfl s0) ?_
 refine op_len_rd Try.underlying23 (ev_hit hN rfl) hl ?_
 refine op_leq (ev_hit hN rfl) rfl (fun c5 => ?_) (fun c5 => ?_)
 · -- 5T
  refine op_move (ev_hit hN rfl) ?_
  refine g_true (j := 3) (dj := 6) (b := true) rfl rfl rfl (ev_hit hN rfl) ?_
  refine op_move (ev_base hN rfl s0) ?_
  refine g_true (j := 3) (dj := 6) (b := true) rfl rfl rfl (ev_hit hN rfl) ?_
  refine op_fn (vs := [v]) ok47 ⟨(ev_hit hN rfl), trivial⟩ (rises_ret l _ _ (by first | assumption | omega | (simp only [List.length_append, List.length_cons, List.length_nil, List.length_drop, List.length_take]; omega) | (dsimp only; omega) | decide | (simp [keyV, be8_len]; done)) (show RdC w 0 w.heap.size 1 v l.length (l.map u16v) from by have hh : RdC w 0 w.heap.size 1 _ _ _ := (hl.mono (L' := 0) (B' := w.heap.size) (Nat.zero_le _) (by omega)); first | exact hh | exact hh.cast (by first | omega | (simp; try omega)) (by first | rfl | simp [u16v]))) ?_
  rintro _ w1514 ⟨E1515, rfl⟩
  have E1515 := grown_of_below E1515
  have z_w1514 := E1515.size
  have hl := hl.keep0 E1515
  have hb := below_step0 hb E1515 hb.size
  refine op_pick_t (ev_hit hN rfl) (ev_hit hN rfl) ?_
  refine op_assign (ev_hit hN rfl) ?_
  refine reg_nil ?_
  refine hK1513 _ _ ?_
  refine wp_ret ?_
  refine ret1 rfl hd (ev_hit hN rfl) ⟨_, rfl, ?_⟩
  -- path 5T
  exact ⟨hb, congrArg Value.bool (by unfold mayL; first | (rw [decide_eq_true (show l.length ≤ 8 by omega), Bool.and_true]; done) | (rw [decide_eq_false (show ¬ l.length ≤ 8 by omega), Bool.and_false]))⟩
 · -- 5F
  refine op_move (ev_hit hN rfl) ?_
  refine g_false (j := 3) (dj := 6) (b := true) rfl rfl rfl (ev_hit hN rfl) rfl rfl ?_
  refine g_false (j := 3) (dj := 6) (b := true) rfl rfl rfl (ev_hit hN rfl) rfl rfl ?_
  refine op_pick_f (ev_hit hN rfl) rfl ?_
  refine op_assign (ev_hit hN rfl) ?_
  refine reg_nil ?_
  refine hK1513 _ _ ?_
  refine wp_ret ?_
  refine ret1 rfl hd (ev_hit hN rfl) ⟨_, rfl, ?_⟩
  -- path 5F
  exact ⟨hb, congrArg Value.bool (by unfold mayL; first | (rw [decide_eq_true (show l.length ≤ 8 by omega), Bool.and_true]; done) | (rw [decide_eq_false (show ¬ l.length ≤ 8 by omega), Bool.and_false]))⟩

end Go.Proofs.Ytpmnljffdofkeaa

/- Walks, written by a program: what each function of the translation hands back. -/
namespace Go.Proofs.Ytpmnljffdofkeaa
open Go.Gx Go.RowKit
attribute [local irreducible] wpList wpStill Code.wp Calls

theorem stripW_ret (l m : Lb) (v u : Value) (w : World) (hz : l.length ≤ 1000000000000) (hzm : m.length ≤ 1000000000000) (hl : RdC w 0 w.heap.size 1 v l.length (l.map u16v)) (hm : RdC w 0 w.heap.size 1 u m.length (m.map u16v)) : Ret Try.prog 20 #[v, u] w (fun v' w' => Below w.heap.size w w' ∧ Own w' w.heap.size 35 1 v' (minusL l m).length ((minusL l m).map u16v)) := by
 have hb := Below.refl w.heap.size w
 refine enter (N := 8) Try.func20 rfl rfl (by simp) fun a0 hN hd hA => ?_
 have s0 : a0.tmps.getD 0 undef = v := hA 0 (by simp)
 have s1 : a0.tmps.getD 1 undef = u := hA 1 (by simp)
 clear hA
 refine seq_any fun K1516 hK1516 => ?_
 refine one_reg ?_
 refine op_assign rfl ?_
 refine reg_nil ?_
 refine hK1516 _ _ ?_
 refine seq_any fun K1517 hK1517 => ?_
 refine one_reg ?_
 refine op_move (ev_base hN rfl s0) ?_
 refine op_move (ev_base hN rfl s1) ?_
 refine op_fn (vs := [v, u]) ok30 ⟨(ev_hit hN rfl), ⟨(ev_hit hN rfl), trivial⟩⟩ (minusW_ret l m _ _ _ (by first | assumption | omega | (simp only [List.length_append, List.length_cons, List.length_nil, List.length_drop, List.length_take]; omega) | (dsimp only; omega) | decide | (simp [keyV, be8_len]; done)) (by first | assumption | omega | (simp only [List.length_append, List.length_cons, List.length_nil, List.length_drop, List.length_take]; omega) | (dsimp only; omega) | decide | (simp [keyV, be8_len]; done)) (show RdC w 0 w.heap.size 1 v l.length (l.map u16v) from by have hh : RdC w 0 w.heap.size 1 _ _ _ := (hl.mono (L' := 0) (B' := w.heap.size) (Nat.zero_le _) (by omega)); first | exact hh | exact hh.cast (by first | omega | (simp; try omega)) (by first | rfl | simp [u16v])) (show RdC w 0 w.heap.size 1 u m.length (m.map u16v) from by have hh : RdC w 0 w.heap.size 1 _ _ _ := (hm.mono (L' := 0) (B' := w.heap.size) (Nat.zero_le _) (by omega)); first | exact hh | exact hh.cast (by first | omega | (simp; try omega)) (by first | rfl | simp [u16v]))) ?_
 rintro v1518 w1519 ⟨E1520, hO1518⟩
 have E1520 := grown_of_below E1520
 have z_w1519 := E1520.size
 have hl := hl.keep0 E1520
 have hm := hm.keep0 E1520
 have hb := below_step0 hb E1520 hb.size
 have hO1518 := hO1518.mono (base' := w.heap.size) (by omega)
 refine op_assign (ev_hit hN rfl) ?_
 refine reg_nil ?_
 refine hK1517 _ _ ?_
 refine wp_ret ?_
 refine ret1 rfl hd (ev_hit hN rfl) ⟨_, rfl, ?_⟩
 -- path
 exact ⟨hb, hO1518⟩

theorem oflowsW_ret (l m o : Lb) (v u x : Value) (w : World) (hz : l.length ≤ 1000000000000) (hzm : m.length ≤ 1000000000000) (hzo : o.length ≤ 1000000000000) (hl : RdC w 0 w.heap.size 1 v l.length (l.map u16v)) (hm : RdC w 0 w.heap.size 1 u m.length (m.map u16v)) (ho : RdC w 0 w.heap.size 1 x o.length (o.map u16v)) : Ret Try.prog 16 #[v, u, x] w (fun v' w' => Below w.heap.size w w' ∧ v' = .bool (flowsL (minusL l o) m)) := by
 have hmin : (minusL l o).length ≤ l.length := List.length_filter_le _ _
 have hb := Below.refl w.heap.size w
 refine enter (N := 12) Try.func16 rfl rfl (by simp) fun a0 hN hd hA => ?_
 have s0 : a0.tmps.getD 0 undef = v := hA 0 (by simp)
 have s1 : a0.tmps.getD 1 undef = u := hA 1 (by simp)
 have s2 : a0.tmps.getD 2 undef = x := hA 2 (by simp)
 clear hA
 refine seq_any fun K1521 hK1521 => ?_
 refine one_reg ?_
 refine op_assign rfl ?_
 refine reg_nil ?_
 refine hK1521 _ _ ?_
 refine seq_any fun K1522 hK1522 => ?_
 refine one_reg ?_
 refine op_move (ev_base hN rfl s0) ?_
 refine op_move (ev_base hN rfl s2) ?_
 refine op_fn (vs := [v, x]) ok30 ⟨(ev_hit hN rfl), ⟨(ev_hit hN rfl), trivial⟩⟩ (minusW_ret l o _ _ _ (by first | assumption | omega | (simp only [List.length_append, List.length_cons, List.length_nil, List.length_drop, List.length_take]; omega) | (dsimp only; omega) | decide | (simp [keyV, be8_len]; done)) (by first | assumption | omega | (simp only [List.length_append, List.length_cons, List.length_nil, List.length_drop, List.length_take]; omega) | (dsimp only; omega) | decide | (simp [keyV, be8_len]; done)) (show RdC w 0 w.heap.size 1 v l.length (l.map u16v) from by have hh : RdC w 0 w.heap.size 1 _ _ _ := (hl.mono (L' := 0) (B' := w.heap.size) (Nat.zero_le _) (by omega)); first | exact hh | exact hh.cast (by first | omega | (simp; try omega)) (by first | rfl | simp [u16v])) (show RdC w 0 w.heap.size 1 x o.length (o.map u16v) from by have hh : RdC w 0 w.heap.size 1 _ _ _ := (ho.mono (L' := 0) (B' := w.heap.size) (Nat.zero_le _) (by omega)); first | exact hh | exact hh.cast (by first | omega | (simp; try omega)) (by first | rfl | simp [u16v]))) ?_
 rintro v1523 w1524 ⟨E1525, hO1523⟩
 have E1525 := grown_of_below E1525
 have z_w1524 := E1525.size
 have hl := hl.keep0 E1525
 have hm := hm.keep0 E1525
 have ho := ho.keep0 E1525
 have hb := below_step0 hb E1525 hb.size
 have hO1523 := hO1523.mono (base' := w.heap.size) (by omega)
 refine op_move (ev_base hN rfl s1) ?_
 refine op_fn (vs := [v1523, u]) ok27 ⟨(ev_hit hN rfl), ⟨(ev_hit hN rfl), trivial⟩⟩ (flowsW_ret (minusL l o) m _ _ _ (by first | assumption | omega | (simp only [List.length_append, List.length_cons, List.length_nil, List.length_drop, List.length_take]; omega) | (dsimp only; omega) | decide | (simp [keyV, be8_len]; done)) (by first | assumption | omega | (simp only [List.length_append, List.length_cons, List.length_nil, List.length_drop, List.length_take]; omega) | (dsimp only; omega) | decide | (simp [keyV, be8_len]; done)) (show RdC w1524 0 w1524.heap.size 1 v1523 (minusL l o).length ((minusL l o).map u16v) from by have hh : RdC w1524 0 w1524.heap.size 1 _ _ _ := (hO1523.rdw.mono (L' := 0) (B' := w1524.heap.size) (Nat.zero_le _) (by omega)); first | exact hh | exact hh.cast (by first | omega | (simp; try omega)) (by first | rfl | simp [u16v])) (show RdC w1524 0 w1524.heap.size 1 u m.length (m.map u16v) from by have hh : RdC w1524 0 w1524.heap.size 1 _ _ _ := (hm.mono (L' := 0) (B' := w1524.heap.size) (Nat.zero_le _) (by omega)); first | exact hh | exact hh.cast (by first | omega | (simp; try omega)) (by first | rfl | simp [u16v]))) ?_
 rintro _ w1526 ⟨E1527, rfl⟩
 have E1527 := grown_of_below E1527
 have z_w1526 := E1527.size
 have hl := hl.keep0 E1527
 have hm := hm.keep0 E1527
 have ho := ho.keep0 E1527
 have hO1523 := hO1523.keep0 E1527
 have hb := below_step0 hb E1527 hb.size
 refine op_assign (ev_hit hN rfl) ?_
 refine reg_nil ?_
 refine hK1522 _ _ ?_
 refine wp_ret ?_
 refine ret1 rfl hd (ev_hit hN rfl) ⟨_, rfl, ?_⟩
 -- path
 exact ⟨hb, rfl⟩

theorem may1W_ret (x : UInt16) (m : Lb) (u : Value) (bc : Nat) (w : World) (hzm : m.length ≤ 1000000000000) (hbc : Bx w bc 23 [u]) (hm : RdC w 0 w.heap.size 1 u m.length (m.map u16v)) : Ret Try.prog 43 #[(Value.int .u16 (x.toNat : Int)), (ptr bc 0)] w (fun v' w' => Below w.heap.size w w' ∧ v' = .bool (inL x m)) := by
 have hb := Below.refl w.heap.size w
 refine enter (N := 8) Try.func43 rfl rfl (by simp) fun a0 hN hd hA => ?_
 have s0 : a0.tmps.getD 0 undef = (Value.int .u16 (x.toNat : Int)) := hA 0 (by simp)
 have s1 : a0.tmps.getD 1 undef = (ptr bc 0) := hA 1 (by simp)
 clear hA
 refine seq_any fun K1528 hK1528 => ?_
 refine one_reg ?_
 refine op_assign rfl ?_
 refine reg_nil ?_
 refine hK1528 _ _ ?_
 refine seq_any fun K1529 hK1529 => ?_
 refine one_reg ?_
 refine op_move (ev_base hN rfl s0) ?_
 refine op_bslice (e := 35) (pv := [(0, (Value.int .u16 (x.toNat : Int)))]) (cs := [(Value.int .u16 (x.toNat : Int))]) ⟨rfl, (ev_hit hN rfl), trivial⟩ (by kernel_rfl) ?_
 intro w1530 b1531 lo_b1531 hi_b1531 hB1533 E1532
 have z_w1530 := E1532.size
 have hbc := hbc.keep0 E1532
 have hm := hm.keep0 E1532
 have hb := below_step0 hb E1532 hb.size
 refine op_load1 (v := u) one23 (ev_base hN rfl s1) (hbc.cell rfl) ?_
 refine op_fn (vs := [(Value.slice (some ⟨b1531, 0, none⟩) 1 1), u]) ok27 ⟨(ev_hit hN rfl), ⟨(ev_hit hN rfl), trivial⟩⟩ (flowsW_ret [x] m _ _ _ (by first | assumption | omega | (simp only [List.length_append, List.length_cons, List.length_nil, List.length_drop, List.length_take]; omega) | (dsimp only; omega) | decide | (simp [keyV, be8_len]; done)) (by first | assumption | omega | (simp only [List.length_append, List.length_cons, List.length_nil, List.length_drop, List.length_take]; omega) | (dsimp only; omega) | decide | (simp [keyV, be8_len]; done)) (show RdC w1530 0 w1530.heap.size 1 (Value.slice (some ⟨b1531, 0, none⟩) 1 1) [x].length ([x].map u16v) from by have hh : RdC w1530 0 w1530.heap.size 1 _ _ _ := ((RdC.ofBx (sz := 1) (n := 1) hB1533 rfl (by decide)).mono (L' := 0) (B' := w1530.heap.size) (Nat.zero_le _) (by have := hB1533.lt; omega)); first | exact hh | exact hh.cast (by first | omega | (simp; try omega)) (by first | rfl | simp [u16v])) (show RdC w1530 0 w1530.heap.size 1 u m.length (m.map u16v) from by have hh : RdC w1530 0 w1530.heap.size 1 _ _ _ := (hm.mono (L' := 0) (B' := w1530.heap.size) (Nat.zero_le _) (by omega)); first | exact hh | exact hh.cast (by first | omega | (simp; try omega)) (by first | rfl | simp [u16v]))) ?_
 rintro _ w1534 ⟨E1535, rfl⟩
 have E1535 := grown_of_below E1535
 have z_w1534 := E1535.size
 have hbc := hbc.keep0 E1535
 have hm := hm.keep0 E1535
 have hB1533 := hB1533.keep0 E1535
 have hb := below_step0 hb E1535 hb.size
 refine op_assign (ev_hit hN rfl) ?_
 refine reg_nil ?_
 refine hK1529 _ _ ?_
 refine wp_ret ?_
 refine ret1 rfl hd (ev_hit hN rfl) ⟨_, rfl, ?_⟩
 -- path
 exact ⟨hb, congrArg Value.bool (flows_one x m)⟩

theorem oallW_ret (l : Lb) (v : Value) (m : Lb) (u : Value) (bc : Nat) (w : World) (hz : l.length ≤ 1000000000000) (hl : RdC w 0 w.heap.size 1 v l.length (l.map u16v)) (hzm : m.length ≤ 1000000000000) (hbc : Bx w bc 23 [u]) (hm : RdC w 0 w.heap.size 1 u m.length (m.map u16v)) : Ret Try.prog 42 #[v, (Value.func (.func 43) #[] #[(ptr bc 0)])] w (fun v' w' => Below w.heap.size w w' ∧ v' = .bool (flowsL l m)) := by
 have hbc_lt := hbc.lt
 have hb := Below.refl w.heap.size w
 refine enter (N := 18) Try.func42 rfl rfl (by simp) fun a0 hN hd hA => ?_
 have s0 : a0.tmps.getD 0 undef = v := hA 0 (by simp)
 have s1 : a0.tmps.getD 1 undef = (Value.func (.func 43) #[] #[(ptr bc 0)]) := hA 1 (by simp)
 clear hA
 refine seq_any fun K1536 hK1536 => ?_
 refine one_reg ?_
 refine op_assign rfl ?_
 refine reg_nil ?_
 refine hK1536 _ _ ?_
 refine seq_any fun K1537 hK1537 => ?_
 refine seq_any fun K1538 hK1538 => ?_
 refine one_reg ?_
 refine op_move (ev_base hN rfl s0) ?_
 refine op_len_rd Try.underlying22 (ev_hit hN rfl) hl ?_
 refine op_move rfl ?_
 refine reg_nil ?_
 refine hK1538 _ _ ?_
 refine wp_block ?_
 refine loop_m (fun mz_ az_ w' => ∃ (i : Nat), mz_ = l.length - i ∧ (az_.tmps.getD 1 undef = (Value.func (.func 43) #[] #[(ptr bc 0)])) ∧ (az_.tmps.getD 7 undef = v) ∧ (az_.tmps.getD 8 undef = (Value.int .i64 ((l.length : Nat) : Int))) ∧ (az_.tmps.getD 9 undef = (Value.int .i64 ((i : Nat) : Int))) ∧ (i ≤ l.length) ∧ ((l.take i).all (fun x => inL x m) = true) ∧ (Below w.heap.size w w') ∧ (w.heap.size ≤ w'.heap.size) ∧ (RdC w' 0 w.heap.size 1 v l.length (l.map u16v)) ∧ (Bx w' bc 23 [u]) ∧ (RdC w' 0 w.heap.size 1 u m.length (m.map u16v))) _ hN hd ⟨0, rfl, (sl_base hN rfl s1), (sl_hit hN rfl), (sl_hit hN rfl), (sl_hit hN rfl), Nat.zero_le _, rfl, hb, (Nat.le_refl _), hl, hbc, hm⟩ ?_
 rintro _ a1539 w1539 hN1539 hd1539 ⟨i, rfl, s1539_1, s1539_7, s1539_8, s1539_9, hi, hall, hb, zl_w1539, hl, hbc, hm⟩
 have z_w1539 := hb.size
 refine seq_any fun K1540 hK1540 => ?_
 refine one_reg ?_
 refine op_lss (ev_base hN1539 rfl s1539_9) (ev_base hN1539 rfl s1539_8) (fun c10 => ?_) (fun c10 => ?_)
 · -- 10T
  refine reg_nil ?_
  refine hK1540 _ _ ?_
  refine seq_any fun K1541 hK1541 => ?_
  refine wp_cond_true (ev_hit hN1539 rfl) ?_
  refine wp_skip ?_
  refine hK1541 _ _ ?_
  refine seq_any fun K1542 hK1542 => ?_
  refine wp_block ?_
  refine seq_any fun K1543 hK1543 => ?_
  refine one_reg ?_
  refine op_index_rd slt22 (ev_base hN1539 rfl s1539_7) hl (ev_base hN1539 rfl s1539_9) (by omega) (by omega) ?_
  intro b1544 o1545 h0b1544 h1b1544 hc1546
  refine op_load1 (v := (Value.int .u16 ((l.getD i 0).toNat : Int))) one35 (ev_hit hN1539 rfl) (by have := hc1546 0 (Value.int .u16 ((l.getD i 0).toNat : Int)) (by decide) (el_u16 (i := i) (by omega) (by omega)); simpa using this) ?_
  refine op_assign (ev_hit hN1539 rfl) ?_
  refine reg_nil ?_
  refine hK1543 _ _ ?_
  refine seq_any fun K1547 hK1547 => ?_
  refine one_reg ?_
  refine op_move (ev_base hN1539 rfl s1539_1) ?_
  refine op_move (ev_hit hN1539 rfl) ?_
  refine op_fnv (fs := []) (vs := [(Value.int .u16 ((l.getD i 0).toNat : Int))]) (cs := [(ptr bc 0)]) (ev_hit hN1539 rfl) ok43 ⟨(ev_hit hN1539 rfl), trivial⟩ (may1W_ret (l.getD i 0) m _ _ _ (by omega) hbc (show RdC w1539 0 w1539.heap.size 1 u m.length (m.map u16v) from by have hh : RdC w1539 0 w1539.heap.size 1 _ _ _ := (hm.mono (L' := 0) (B' := w1539.heap.size) (Nat.zero_le _) (by omega)); first | exact hh | exact hh.cast (by first | omega | (simp; try omega)) (by first | rfl | simp [u16v]))) ?_
  rintro _ w1548 ⟨E1549, rfl⟩
  have E1549 := grown_of_below E1549
  have z_w1548 := E1549.size
  have hl := hl.keep0 E1549
  have hbc := hbc.keep0 E1549
  have hm := hm.keep0 E1549
  have hb := below_step0 hb E1549 hb.size
  rcases Bool.eq_false_or_eq_true ((inL (l.getD i 0) m)) with c15 | c15
  · -- 15T
   rw [c15]
   refine op_not (ev_hit hN1539 rfl) ?_
   refine reg_nil ?_
   refine hK1547 _ _ ?_
   refine wp_cond_false (ev_hit hN1539 rfl) ?_
   refine wp_skip ?_
   refine hK1542 _ _ ?_
   refine one_reg ?_
   refine op_add (ev_base hN1539 rfl s1539_9) rfl (add64 (by omega)) ?_
   refine op_move (ev_hit hN1539 rfl) ?_
   refine reg_nil ?_
   -- round 10T 15T
   exact loop_next _ hN1539 hd1539 ⟨i + 1, rfl, (sl_base hN1539 rfl s1539_1), (sl_base hN1539 rfl s1539_7), (sl_base hN1539 rfl s1539_8), (sl_hit hN1539 rfl).trans (congrArg (Value.int .i64) (by omega)), (by omega), (all_step (by omega) hall c15), hb, (by omega), hl, hbc, hm⟩ (by omega)
  · -- 15F
   rw [c15]
   refine op_not (ev_hit hN1539 rfl) ?_
   refine reg_nil ?_
   refine hK1547 _ _ ?_
   refine wp_cond_true (ev_hit hN1539 rfl) ?_
   refine seq_any fun K1550 hK1550 => ?_
   refine one_reg ?_
   refine op_assign rfl ?_
   refine reg_nil ?_
   refine hK1550 _ _ ?_
   refine wp_ret (blk_ret (then_ret (then_ret (blk_ret (then_ret ( ?_))))))
   refine ret1 rfl hd1539 (ev_hit hN1539 rfl) ⟨_, rfl, ?_⟩
   -- path 10T 15F
   exact ⟨hb, congrArg Value.bool (all_f (i := i) (by omega) c15).symm⟩
 · -- 10F
  refine reg_nil ?_
  refine hK1540 _ _ ?_
  refine seq_any fun K1551 hK1551 => ?_
  refine wp_cond_false (ev_hit hN1539 rfl) ?_
  refine wp_exit (then_exit (then_exit (blk_hit ?_)))
  refine hK1537 _ _ ?_
  refine seq_any fun K1552 hK1552 => ?_
  refine one_reg ?_
  refine op_assign rfl ?_
  refine reg_nil ?_
  refine hK1552 _ _ ?_
  refine wp_ret ?_
  refine ret1 rfl hd1539 (ev_hit hN1539 rfl) ⟨_, rfl, ?_⟩
  -- path 10F
  exact ⟨hb, congrArg Value.bool (all_end (i := i) (by omega) hall).symm⟩

theorem omayW_ret (o l : Lb) (x v : Value) (w : World) (hzo : o.length ≤ 100000000) (hz : l.length ≤ 100000000) (ho : RdC w 0 w.heap.size 1 x o.length (o.map u16v)) (hl : RdC w 0 w.heap.size 1 v l.length (l.map u16v)) : Ret Try.prog 14 #[x, v] w (fun v' w' => Below w.heap.size w w' ∧ v' = .int .i64 (ownE o l)) := by
 have hb := Below.refl w.heap.size w
 refine enter (N := 21) Try.func14 rfl rfl (by simp) fun a0 hN hd hA => ?_
 have s0 : a0.tmps.getD 0 undef = x := hA 0 (by simp)
 have s1 : a0.tmps.getD 1 undef = v := hA 1 (by simp)
 clear hA
 refine seq_any fun K1553 hK1553 => ?_
 refine one_reg ?_
 refine op_box (cs := [x]) (ev_base hN rfl s0) (RdC.cells ho) ?_
 intro w1554 b1555 lo_b1555 hi_b1555 hB1557 E1556
 have z_w1554 := E1556.size
 have ho := ho.keep0 E1556
 have hl := hl.keep0 E1556
 have hb := below_step0 hb E1556 hb.size
 refine op_assign rfl ?_
 refine reg_nil ?_
 refine hK1553 _ _ ?_
 refine seq_any fun K1558 hK1558 => ?_
 refine one_reg ?_
 refine op_move (ev_base hN rfl s1) ?_
 refine op_fn (vs := [v]) ok24 ⟨(ev_hit hN rfl), trivial⟩ (normW_ret l _ _ (by first | assumption | omega | (simp only [List.length_append, List.length_cons, List.length_nil, List.length_drop, List.length_take]; omega) | (dsimp only; omega) | decide | (simp [keyV, be8_len]; done)) (show RdC w1554 0 w1554.heap.size 1 v l.length (l.map u16v) from by have hh : RdC w1554 0 w1554.heap.size 1 _ _ _ := (hl.mono (L' := 0) (B' := w1554.heap.size) (Nat.zero_le _) (by omega)); first | exact hh | exact hh.cast (by first | omega | (simp; try omega)) (by first | rfl | simp [u16v]))) ?_
 rintro _ w1560 ⟨E1561, v1559, rfl, hO1559⟩
 have E1561 := grown_of_below E1561
 have z_w1560 := E1561.size
 have ho := ho.keep0 E1561
 have hl := hl.keep0 E1561
 have hB1557 := hB1557.keep0 E1561
 have hb := below_step0 hb E1561 hb.size
 have hO1559 := hO1559.mono (base' := w.heap.size) (by omega)
 have hnl1559 := normL_len l
 refine op_move (ev_hit hN rfl) ?_
 refine op_extract (ev_hit hN rfl) rfl ?_
 refine op_extract (ev_hit hN rfl) rfl ?_
 refine op_assign (ev_hit hN rfl) ?_
 refine op_assign (ev_hit hN rfl) ?_
 refine reg_nil ?_
 refine hK1558 _ _ ?_
 refine seq_any fun K1562 hK1562 => ?_
 refine wp_block ?_
 refine seq_any fun K1563 hK1563 => ?_
 refine one_reg ?_
 refine op_move (ev_hit hN rfl) ?_
 refine op_neq (ev_hit hN rfl) rfl (fun c14 => ?_) (fun c14 => ?_)
 · -- 14T
  refine op_assign (ev_hit hN rfl) ?_
  refine reg_nil ?_
  refine hK1563 _ _ ?_
  refine wp_cond_true (ev_hit hN rfl) ?_
  refine seq_any fun K1564 hK1564 => ?_
  refine one_reg ?_
  refine op_move (ev_hit hN rfl) ?_
  refine op_assign (ev_hit hN rfl) ?_
  refine reg_nil ?_
  refine hK1564 _ _ ?_
  refine wp_ret (blk_ret (then_ret ( ?_)))
  refine ret1 rfl hd (ev_hit hN rfl) ⟨_, rfl, ?_⟩
  -- path 14T
  exact ⟨hb, congrArg (Value.int .i64) (ownE_bad (by omega)).symm⟩
 · -- 14F
  refine op_assign (ev_hit hN rfl) ?_
  refine reg_nil ?_
  refine hK1563 _ _ ?_
  refine wp_cond_false (ev_hit hN rfl) ?_
  refine seq_any fun K1565 hK1565 => ?_
  refine one_reg ?_
  refine op_move (ev_hit hN rfl) ?_
  refine op_mkfn (cv := [(ptr b1555 0)]) ⟨(ev_hit hN rfl), trivial⟩ ?_
  refine op_fn (vs := [v1559, (Value.func (.func 43) #[] #[(ptr b1555 0)])]) ok42 ⟨(ev_hit hN rfl), ⟨(ev_hit hN rfl), trivial⟩⟩ (oallW_ret (normL l) _ o _ _ _ (by omega) (show RdC w1560 0 w1560.heap.size 1 v1559 (normL l).length ((normL l).map u16v) from by have hh : RdC w1560 0 w1560.heap.size 1 _ _ _ := (hO1559.rdw.mono (L' := 0) (B' := w1560.heap.size) (Nat.zero_le _) (by omega)); first | exact hh | exact hh.cast (by first | omega | (simp; try omega)) (by first | rfl | simp [u16v])) (by omega) hB1557 (show RdC w1560 0 w1560.heap.size 1 x o.length (o.map u16v) from by have hh : RdC w1560 0 w1560.heap.size 1 _ _ _ := (ho.mono (L' := 0) (B' := w1560.heap.size) (Nat.zero_le _) (by omega)); first | exact hh | exact hh.cast (by first | omega | (simp; try omega)) (by first | rfl | simp [u16v]))) ?_
  rintro _ w1566 ⟨E1567, rfl⟩
  have E1567 := grown_of_below E1567
  have z_w1566 := E1567.size
  have ho := ho.keep0 E1567
  have hl := hl.keep0 E1567
  have hB1557 := hB1557.keep0 E1567
  have hO1559 := hO1559.keep0 E1567
  have hb := below_step0 hb E1567 hb.size
  rcases Bool.eq_false_or_eq_true ((flowsL (normL l) o)) with c19 | c19
  · -- 19T
   rw [c19]
   refine op_not (ev_hit hN rfl) ?_
   refine op_assign (ev_hit hN rfl) ?_
   refine reg_nil ?_
   refine hK1565 _ _ ?_
   refine wp_cond_false (ev_hit hN rfl) ?_
   refine wp_skip ?_
   refine hK1562 _ _ ?_
   refine seq_any fun K1568 hK1568 => ?_
   refine one_reg ?_
   refine op_assign rfl ?_
   refine reg_nil ?_
   refine hK1568 _ _ ?_
   refine wp_ret ?_
   refine ret1 rfl hd (ev_hit hN rfl) ⟨_, rfl, ?_⟩
   -- path 14F 19T
   exact ⟨hb, congrArg (Value.int .i64) (ownE_ok (by omega) c19).symm⟩
  · -- 19F
   rw [c19]
   refine op_not (ev_hit hN rfl) ?_
   refine op_assign (ev_hit hN rfl) ?_
   refine reg_nil ?_
   refine hK1565 _ _ ?_
   refine wp_cond_true (ev_hit hN rfl) ?_
   refine seq_any fun K1569 hK1569 => ?_
   refine one_reg ?_
   refine op_assign rfl ?_
   refine reg_nil ?_
   refine hK1569 _ _ ?_
   refine wp_ret (blk_ret (then_ret ( ?_)))
   refine ret1 rfl hd (ev_hit hN rfl) ⟨_, rfl, ?_⟩
   -- path 14F 19F
   exact ⟨hb, congrArg (Value.int .i64) (ownE_not (by omega) c19).symm⟩

theorem rownW_ret (o l : Lb) (x v : Value) (w : World) (hzo : o.length ≤ 100000000) (hz : l.length ≤ 100000000) (ho : RdC w 0 w.heap.size 1 x o.length (o.map u16v)) (hl : RdC w 0 w.heap.size 1 v l.length (l.map u16v)) : Ret Try.prog 15 #[x, v] w (fun v' w' => Below w.heap.size w w' ∧ v' = .int .i64 (ownE o l)) := by
 have hb := Below.refl w.heap.size w
 refine enter (N := 19) Try.func15 rfl rfl (by simp) fun a0 hN hd hA => ?_
 have s0 : a0.tmps.getD 0 undef = x := hA 0 (by simp)
 have s1 : a0.tmps.getD 1 undef = v := hA 1 (by simp)
 clear hA
 refine seq_any fun K1570 hK1570 => ?_
 refine one_reg ?_
 refine op_assign rfl ?_
 refine reg_nil ?_
 refine hK1570 _ _ ?_
 refine seq_any fun K1571 hK1571 => ?_
 refine one_reg ?_
 refine op_move (ev_base hN rfl s1) ?_
 refine op_fn (vs := [v]) ok25 ⟨(ev_hit hN rfl), trivial⟩ (rnormW_ret l _ _ (by first | assumption | omega | (simp only [List.length_append, List.length_cons, List.length_nil, List.length_drop, List.length_take]; omega) | (dsimp only; omega) | decide | (simp [keyV, be8_len]; done)) (show RdC w 0 w.heap.size 1 v l.length (l.map u16v) from by have hh : RdC w 0 w.heap.size 1 _ _ _ := (hl.mono (L' := 0) (B' := w.heap.size) (Nat.zero_le _) (by omega)); first | exact hh | exact hh.cast (by first | omega | (simp; try omega)) (by first | rfl | simp [u16v]))) ?_
 rintro _ w1573 ⟨E1574, v1572, rfl, hO1572⟩
 have E1574 := grown_of_below E1574
 have z_w1573 := E1574.size
 have ho := ho.keep0 E1574
 have hl := hl.keep0 E1574
 have hb := below_step0 hb E1574 hb.size
 have hO1572 := hO1572.mono (base' := w.heap.size) (by omega)
 have hnl1572 := normL_len l
 refine op_move (ev_hit hN rfl) ?_
 refine op_extract (ev_hit hN rfl) rfl ?_
 refine op_extract (ev_hit hN rfl) rfl ?_
 refine op_assign (ev_hit hN rfl) ?_
 refine op_assign (ev_hit hN rfl) ?_
 refine reg_nil ?_
 refine hK1571 _ _ ?_
 refine seq_any fun K1575 hK1575 => ?_
 refine seq_any fun K1576 hK1576 => ?_
 refine one_reg ?_
 refine op_move (ev_hit hN rfl) ?_
 refine op_neq (ev_hit hN rfl) rfl (fun c13 => ?_) (fun c13 => ?_)
 · -- 13T
  refine reg_nil ?_
  refine hK1576 _ _ ?_
  refine wp_cond_true (ev_hit hN rfl) ?_
  refine seq_any fun K1577 hK1577 => ?_
  refine one_reg ?_
  refine op_move (ev_hit hN rfl) ?_
  refine op_assign (ev_hit hN rfl) ?_
  refine reg_nil ?_
  refine hK1577 _ _ ?_
  refine wp_ret (then_ret ( ?_))
  refine ret1 rfl hd (ev_hit hN rfl) ⟨_, rfl, ?_⟩
  -- path 13T
  exact ⟨hb, congrArg (Value.int .i64) (ownE_bad (by omega)).symm⟩
 · -- 13F
  refine reg_nil ?_
  refine hK1576 _ _ ?_
  refine wp_cond_false (ev_hit hN rfl) ?_
  refine wp_skip ?_
  refine hK1575 _ _ ?_
  refine seq_any fun K1578 hK1578 => ?_
  refine seq_any fun K1579 hK1579 => ?_
  refine one_reg ?_
  refine op_move (ev_hit hN rfl) ?_
  refine op_move (ev_base hN rfl s0) ?_
  refine op_fn (vs := [v1572, x]) ok17 ⟨(ev_hit hN rfl), ⟨(ev_hit hN rfl), trivial⟩⟩ (rflowsW_ret (normL l) o _ _ _ (by first | assumption | omega | (simp only [List.length_append, List.length_cons, List.length_nil, List.length_drop, List.length_take]; omega) | (dsimp only; omega) | decide | (simp [keyV, be8_len]; done)) (by first | assumption | omega | (simp only [List.length_append, List.length_cons, List.length_nil, List.length_drop, List.length_take]; omega) | (dsimp only; omega) | decide | (simp [keyV, be8_len]; done)) (show RdC w1573 0 w1573.heap.size 1 v1572 (normL l).length ((normL l).map u16v) from by have hh : RdC w1573 0 w1573.heap.size 1 _ _ _ := (hO1572.rdw.mono (L' := 0) (B' := w1573.heap.size) (Nat.zero_le _) (by omega)); first | exact hh | exact hh.cast (by first | omega | (simp; try omega)) (by first | rfl | simp [u16v])) (show RdC w1573 0 w1573.heap.size 1 x o.length (o.map u16v) from by have hh : RdC w1573 0 w1573.heap.size 1 _ _ _ := (ho.mono (L' := 0) (B' := w1573.heap.size) (Nat.zero_le _) (by omega)); first | exact hh | exact hh.cast (by first | omega | (simp; try omega)) (by first | rfl | simp [u16v]))) ?_
  rintro _ w1580 ⟨E1581, rfl⟩
  have E1581 := grown_of_below E1581
  have z_w1580 := E1581.size
  have ho := ho.keep0 E1581
  have hl := hl.keep0 E1581
  have hO1572 := hO1572.keep0 E1581
  have hb := below_step0 hb E1581 hb.size
  rcases Bool.eq_false_or_eq_true ((flowsL (normL l) o)) with c17 | c17
  · -- 17T
   rw [c17]
   refine op_not (ev_hit hN rfl) ?_
   refine reg_nil ?_
   refine hK1579 _ _ ?_
   refine wp_cond_false (ev_hit hN rfl) ?_
   refine wp_skip ?_
   refine hK1578 _ _ ?_
   refine seq_any fun K1582 hK1582 => ?_
   refine one_reg ?_
   refine op_assign rfl ?_
   refine reg_nil ?_
   refine hK1582 _ _ ?_
   refine wp_ret ?_
   refine ret1 rfl hd (ev_hit hN rfl) ⟨_, rfl, ?_⟩
   -- path 13F 17T
   exact ⟨hb, congrArg (Value.int .i64) (ownE_ok (by omega) c17).symm⟩
  · -- 17F
   rw [c17]
   refine op_not (ev_hit hN rfl) ?_
   refine reg_nil ?_
   refine hK1579 _ _ ?_
   refine wp_cond_true (ev_hit hN rfl) ?_
   refine seq_any fun K1583 hK1583 => ?_
   refine one_reg ?_
   refine op_assign rfl ?_
   refine reg_nil ?_
   refine hK1583 _ _ ?_
   refine wp_ret (then_ret ( ?_))
   refine ret1 rfl hd (ev_hit hN rfl) ⟨_, rfl, ?_⟩
   -- path 13F 17F
   exact ⟨hb, congrArg (Value.int .i64) (ownE_not (by omega) c17).symm⟩

end Go.Proofs.Ytpmnljffdofkeaa

/- What is owned, plainly. -/
namespace Go.Proofs.Ytpmnljffdofkeaa
open Go.Gx Go.RowKit
theorem flows_iff {l m : Lb} : flowsL l m = true ↔ ∀ x ∈ l, x ∈ m := by simp [flowsL, inL]
theorem mem_minus {x : UInt16} {l m : Lb} : x ∈ minusL l m ↔ x ∈ l ∧ x ∉ m := by simp [minusL, ninL, inL]
theorem mem_meet {x : UInt16} {l m : Lb} : x ∈ meetL l m ↔ x ∈ l ∧ x ∈ m := by simp [meetL, inL]
theorem mem_join {x : UInt16} {l m : Lb} : x ∈ joinL l m ↔ x ∈ l ∨ x ∈ m := by simp [joinL, nrm_mem]
theorem minus_len (l m : Lb) : (minusL l m).length ≤ l.length := List.length_filter_le _ _
theorem meet_len (l m : Lb) : (meetL l m).length ≤ l.length := List.length_filter_le _ _
theorem join_len (l m : Lb) : (joinL l m).length ≤ l.length + m.length := by unfold joinL; exact Nat.le_trans (nrm_lenL _) (by simp)
theorem flows_none {a b : Lb} : flowsL (minusL a []) b = flowsL a b := by
  have : minusL a [] = a := by unfold minusL ninL inL; rw [List.filter_eq_self]; intro x _; simp
  rw [this]
theorem flows_more {a b o m : Lb} (h : flowsL (minusL a o) b = true) : flowsL (minusL a (joinL o m)) b = true := by
  rw [flows_iff] at *
  intro x hx
  rw [mem_minus, mem_join] at hx
  exact h x (mem_minus.2 ⟨hx.1, fun q => hx.2 (.inl q)⟩)
theorem flows_join {a b o : Lb} : flowsL (minusL a o) (joinL b a) = true := by
  rw [flows_iff]; intro x hx; exact mem_join.2 (.inr (mem_minus.1 hx).1)
theorem flows_self {a b : Lb} : flowsL (minusL a a) b = true := by
  rw [flows_iff]; intro x hx; exact absurd (mem_minus.1 hx).1 (mem_minus.1 hx).2
theorem own_more {o m l : Lb} (h : ownE o l = 0) : ownE (joinL o m) l = 0 := by
  unfold ownE at *
  split at h
  · contradiction
  · rename_i h1
    rw [if_neg h1]
    split at h
    · rename_i h2
      rw [if_pos]
      rw [flows_iff] at *
      exact fun x hx => mem_join.2 (.inl (h2 x hx))
    · cases h
theorem own_none {o : Lb} : ownE o [] = 0 := by
  have e : nrm ([] : Lb) = [] := rfl
  simp [ownE, normE, normL, e, flowsL]
theorem minus_twice {l s : Lb} : minusL (minusL l s) s = minusL l s := by
  unfold minusL; rw [List.filter_filter]; simp
theorem flows_minus_l {l s : Lb} : flowsL (minusL l s) l = true := by
  rw [flows_iff]; intro x hx; exact (mem_minus.1 hx).1
theorem meet_minus {l s : Lb} : meetL (minusL l s) s = [] := by
  rw [List.eq_nil_iff_forall_not_mem]
  intro x hx
  have := mem_meet.1 hx
  exact (mem_minus.1 this.1).2 this.2
theorem join_minus {l s : Lb} : joinL (minusL l s) s = joinL l s := by
  unfold joinL
  refine nrm_congr fun x => ?_
  simp only [List.mem_append, mem_minus]
  by_cases h : x ∈ s <;> simp [h]
theorem flows_refl {l : Lb} : flowsL l l = true := by rw [flows_iff]; exact fun x h => h
end Go.Proofs.Ytpmnljffdofkeaa

/- Walks, written by a program: what each function of the translation hands back. -/
namespace Go.Proofs.Ytpmnljffdofkeaa
open Go.Gx Go.RowKit
attribute [local irreducible] wpList wpStill Code.wp Calls

theorem begun2_ret (w : World) : Ret Try.prog 12 #[] w (fun v' w' => Below w.heap.size w w' ∧ v' = .bool true) := by
 have hb := Below.refl w.heap.size w
 refine enter (N := 22) Try.func12 rfl rfl (by simp) fun a0 hN hd hA => ?_
 clear hA
 refine seq_any fun K1584 hK1584 => ?_
 refine one_reg ?_
 refine op_assign rfl ?_
 refine reg_nil ?_
 refine hK1584 _ _ ?_
 refine seq_any fun K1585 hK1585 => ?_
 refine one_reg ?_
 refine op_bslice (e := 35) (pv := [(0, (Value.int .u16 1))]) (cs := [(Value.int .u16 1)]) ⟨rfl, rfl, trivial⟩ (by kernel_rfl) ?_
 intro w1586 b1587 lo_b1587 hi_b1587 hB1589 E1588
 have z_w1586 := E1588.size
 have hb := below_step0 hb E1588 hb.size
 refine op_bslice (e := 35) (pv := [(0, (Value.int .u16 1))]) (cs := [(Value.int .u16 1)]) ⟨rfl, rfl, trivial⟩ (by kernel_rfl) ?_
 intro w1590 b1591 lo_b1591 hi_b1591 hB1593 E1592
 have z_w1590 := E1592.size
 have hB1589 := hB1589.keep0 E1592
 have hb := below_step0 hb E1592 hb.size
 refine op_fn (vs := [(Value.slice (some ⟨b1587, 0, none⟩) 1 1), (Value.slice (some ⟨b1591, 0, none⟩) 1 1)]) ok14 ⟨(ev_hit hN rfl), ⟨(ev_hit hN rfl), trivial⟩⟩ (omayW_ret [1] [1] _ _ _ (by first | assumption | omega | (simp only [List.length_append, List.length_cons, List.length_nil, List.length_drop, List.length_take]; omega) | (dsimp only; omega) | decide | (simp [keyV, be8_len]; done)) (by first | assumption | omega | (simp only [List.length_append, List.length_cons, List.length_nil, List.length_drop, List.length_take]; omega) | (dsimp only; omega) | decide | (simp [keyV, be8_len]; done)) (show RdC w1590 0 w1590.heap.size 1 (Value.slice (some ⟨b1587, 0, none⟩) 1 1) [1].length ([1].map u16v) from by have hh : RdC w1590 0 w1590.heap.size 1 _ _ _ := ((RdC.ofBx (sz := 1) (n := 1) hB1589 rfl (by decide)).mono (L' := 0) (B' := w1590.heap.size) (Nat.zero_le _) (by have := hB1589.lt; omega)); first | exact hh | exact hh.cast (by first | omega | (simp; try omega)) (by first | rfl | simp [u16v])) (show RdC w1590 0 w1590.heap.size 1 (Value.slice (some ⟨b1591, 0, none⟩) 1 1) [1].length ([1].map u16v) from by have hh : RdC w1590 0 w1590.heap.size 1 _ _ _ := ((RdC.ofBx (sz := 1) (n := 1) hB1593 rfl (by decide)).mono (L' := 0) (B' := w1590.heap.size) (Nat.zero_le _) (by have := hB1593.lt; omega)); first | exact hh | exact hh.cast (by first | omega | (simp; try omega)) (by first | rfl | simp [u16v]))) ?_
 rintro _ w1594 ⟨E1595, rfl⟩
 have E1595 := grown_of_below E1595
 have z_w1594 := E1595.size
 have hB1589 := hB1589.keep0 E1595
 have hB1593 := hB1593.keep0 E1595
 have hb := below_step0 hb E1595 hb.size
 refine op_eql (ev_hit hN rfl) rfl (fun c4 => ?_) (fun c4 => ?_)
 · -- 4T
  refine op_move (ev_hit hN rfl) ?_
  refine g_true (j := 4) (dj := 5) (b := true) rfl rfl rfl (ev_hit hN rfl) ?_
  refine op_bslice (e := 35) (pv := [(0, (Value.int .u16 1))]) (cs := [(Value.int .u16 1)]) ⟨rfl, rfl, trivial⟩ (by kernel_rfl) ?_
  intro w1596 b1597 lo_b1597 hi_b1597 hB1599 E1598
  have z_w1596 := E1598.size
  have hB1589 := hB1589.keep0 E1598
  have hB1593 := hB1593.keep0 E1598
  have hb := below_step0 hb E1598 hb.size
  refine g_true (j := 4) (dj := 5) (b := true) rfl rfl rfl (ev_hit hN rfl) ?_
  refine op_fn (vs := [(Value.slice none 0 0), (Value.slice (some ⟨b1597, 0, none⟩) 1 1)]) ok14 ⟨rfl, ⟨(ev_hit hN rfl), trivial⟩⟩ (omayW_ret ([] : Lb) [1] _ _ _ (by first | assumption | omega | (simp only [List.length_append, List.length_cons, List.length_nil, List.length_drop, List.length_take]; omega) | (dsimp only; omega) | decide | (simp [keyV, be8_len]; done)) (by first | assumption | omega | (simp only [List.length_append, List.length_cons, List.length_nil, List.length_drop, List.length_take]; omega) | (dsimp only; omega) | decide | (simp [keyV, be8_len]; done)) (show RdC w1596 0 w1596.heap.size 1 (Value.slice none 0 0) ([] : Lb).length (([] : Lb).map u16v) from by have hh : RdC w1596 0 w1596.heap.size 1 _ _ _ := ((RdC.nil _ 0 0 1).mono (L' := 0) (B' := w1596.heap.size) (Nat.zero_le _) (by omega)); first | exact hh | exact hh.cast (by first | omega | (simp; try omega)) (by first | rfl | simp [u16v])) (show RdC w1596 0 w1596.heap.size 1 (Value.slice (some ⟨b1597, 0, none⟩) 1 1) [1].length ([1].map u16v) from by have hh : RdC w1596 0 w1596.heap.size 1 _ _ _ := ((RdC.ofBx (sz := 1) (n := 1) hB1599 rfl (by decide)).mono (L' := 0) (B' := w1596.heap.size) (Nat.zero_le _) (by have := hB1599.lt; omega)); first | exact hh | exact hh.cast (by first | omega | (simp; try omega)) (by first | rfl | simp [u16v]))) ?_
  rintro _ w1600 ⟨E1601, rfl⟩
  have E1601 := grown_of_below E1601
  have z_w1600 := E1601.size
  have hB1589 := hB1589.keep0 E1601
  have hB1593 := hB1593.keep0 E1601
  have hB1599 := hB1599.keep0 E1601
  have hb := below_step0 hb E1601 hb.size
  refine g_true (j := 4) (dj := 5) (b := true) rfl rfl rfl (ev_hit hN rfl) ?_
  refine op_eql (ev_hit hN rfl) rfl (fun c8 => ?_) (fun c8 => ?_)
  · -- 8T
   refine op_pick_t (ev_hit hN rfl) (ev_hit hN rfl) ?_
   refine op_move (ev_hit hN rfl) ?_
   refine g_true (j := 9) (dj := 10) (b := true) rfl rfl rfl (ev_hit hN rfl) ?_
   refine op_bslice (e := 35) (pv := [(0, (Value.int .u16 1))]) (cs := [(Value.int .u16 1)]) ⟨rfl, rfl, trivial⟩ (by kernel_rfl) ?_
   intro w1602 b1603 lo_b1603 hi_b1603 hB1605 E1604
   have z_w1602 := E1604.size
   have hB1589 := hB1589.keep0 E1604
   have hB1593 := hB1593.keep0 E1604
   have hB1599 := hB1599.keep0 E1604
   have hb := below_step0 hb E1604 hb.size
   refine g_true (j := 9) (dj := 10) (b := true) rfl rfl rfl (ev_hit hN rfl) ?_
   refine op_bslice (e := 35) (pv := [(0, (Value.int .u16 1))]) (cs := [(Value.int .u16 1)]) ⟨rfl, rfl, trivial⟩ (by kernel_rfl) ?_
   intro w1606 b1607 lo_b1607 hi_b1607 hB1609 E1608
   have z_w1606 := E1608.size
   have hB1589 := hB1589.keep0 E1608
   have hB1593 := hB1593.keep0 E1608
   have hB1599 := hB1599.keep0 E1608
   have hB1605 := hB1605.keep0 E1608
   have hb := below_step0 hb E1608 hb.size
   refine g_true (j := 9) (dj := 10) (b := true) rfl rfl rfl (ev_hit hN rfl) ?_
   refine op_fn (vs := [(Value.slice (some ⟨b1603, 0, none⟩) 1 1), (Value.slice none 0 0), (Value.slice (some ⟨b1607, 0, none⟩) 1 1)]) ok16 ⟨(ev_hit hN rfl), ⟨rfl, ⟨(ev_hit hN rfl), trivial⟩⟩⟩ (oflowsW_ret [1] ([] : Lb) [1] _ _ _ _ (by first | assumption | omega | (simp only [List.length_append, List.length_cons, List.length_nil, List.length_drop, List.length_take]; omega) | (dsimp only; omega) | decide | (simp [keyV, be8_len]; done)) (by first | assumption | omega | (simp only [List.length_append, List.length_cons, List.length_nil, List.length_drop, List.length_take]; omega) | (dsimp only; omega) | decide | (simp [keyV, be8_len]; done)) (by first | assumption | omega | (simp only [List.length_append, List.length_cons, List.length_nil, List.length_drop, List.length_take]; omega) | (dsimp only; omega) | decide | (simp [keyV, be8_len]; done)) (show RdC w1606 0 w1606.heap.size 1 (Value.slice (some ⟨b1603, 0, none⟩) 1 1) [1].length ([1].map u16v) from by have hh : RdC w1606 0 w1606.heap.size 1 _ _ _ := ((RdC.ofBx (sz := 1) (n := 1) hB1605 rfl (by decide)).mono (L' := 0) (B' := w1606.heap.size) (Nat.zero_le _) (by have := hB1605.lt; omega)); first | exact hh | exact hh.cast (by first | omega | (simp; try omega)) (by first | rfl | simp [u16v])) (show RdC w1606 0 w1606.heap.size 1 (Value.slice none 0 0) ([] : Lb).length (([] : Lb).map u16v) from by have hh : RdC w1606 0 w1606.heap.size 1 _ _ _ := ((RdC.nil _ 0 0 1).mono (L' := 0) (B' := w1606.heap.size) (Nat.zero_le _) (by omega)); first | exact hh | exact hh.cast (by first | omega | (simp; try omega)) (by first | rfl | simp [u16v])) (show RdC w1606 0 w1606.heap.size 1 (Value.slice (some ⟨b1607, 0, none⟩) 1 1) [1].length ([1].map u16v) from by have hh : RdC w1606 0 w1606.heap.size 1 _ _ _ := ((RdC.ofBx (sz := 1) (n := 1) hB1609 rfl (by decide)).mono (L' := 0) (B' := w1606.heap.size) (Nat.zero_le _) (by have := hB1609.lt; omega)); first | exact hh | exact hh.cast (by first | omega | (simp; try omega)) (by first | rfl | simp [u16v]))) ?_
   rintro _ w1610 ⟨E1611, rfl⟩
   have E1611 := grown_of_below E1611
   have z_w1610 := E1611.size
   have hB1589 := hB1589.keep0 E1611
   have hB1593 := hB1593.keep0 E1611
   have hB1599 := hB1599.keep0 E1611
   have hB1605 := hB1605.keep0 E1611
   have hB1609 := hB1609.keep0 E1611
   have hb := below_step0 hb E1611 hb.size
   rcases Bool.eq_false_or_eq_true ((flowsL (minusL [1] [1]) ([] : Lb))) with c13 | c13
   · -- 13T
    rw [c13]
    refine op_pick_t (ev_hit hN rfl) (ev_hit hN rfl) ?_
    refine op_move (ev_hit hN rfl) ?_
    refine g_true (j := 14) (dj := 15) (b := true) rfl rfl rfl (ev_hit hN rfl) ?_
    refine op_bslice (e := 35) (pv := [(0, (Value.int .u16 1)), (1, (Value.int .u16 2))]) (cs := [(Value.int .u16 1), (Value.int .u16 2)]) ⟨rfl, rfl, ⟨rfl, rfl, trivial⟩⟩ (by kernel_rfl) ?_
    intro w1612 b1613 lo_b1613 hi_b1613 hB1615 E1614
    have z_w1612 := E1614.size
    have hB1589 := hB1589.keep0 E1614
    have hB1593 := hB1593.keep0 E1614
    have hB1599 := hB1599.keep0 E1614
    have hB1605 := hB1605.keep0 E1614
    have hB1609 := hB1609.keep0 E1614
    have hb := below_step0 hb E1614 hb.size
    refine g_true (j := 14) (dj := 15) (b := true) rfl rfl rfl (ev_hit hN rfl) ?_
    refine op_bslice (e := 35) (pv := [(0, (Value.int .u16 1))]) (cs := [(Value.int .u16 1)]) ⟨rfl, rfl, trivial⟩ (by kernel_rfl) ?_
    intro w1616 b1617 lo_b1617 hi_b1617 hB1619 E1618
    have z_w1616 := E1618.size
    have hB1589 := hB1589.keep0 E1618
    have hB1593 := hB1593.keep0 E1618
    have hB1599 := hB1599.keep0 E1618
    have hB1605 := hB1605.keep0 E1618
    have hB1609 := hB1609.keep0 E1618
    have hB1615 := hB1615.keep0 E1618
    have hb := below_step0 hb E1618 hb.size
    refine g_true (j := 14) (dj := 15) (b := true) rfl rfl rfl (ev_hit hN rfl) ?_
    refine op_fn (vs := [(Value.slice (some ⟨b1613, 0, none⟩) 2 2), (Value.slice (some ⟨b1617, 0, none⟩) 1 1)]) ok20 ⟨(ev_hit hN rfl), ⟨(ev_hit hN rfl), trivial⟩⟩ (stripW_ret [1, 2] [1] _ _ _ (by first | assumption | omega | (simp only [List.length_append, List.length_cons, List.length_nil, List.length_drop, List.length_take]; omega) | (dsimp only; omega) | decide | (simp [keyV, be8_len]; done)) (by first | assumption | omega | (simp only [List.length_append, List.length_cons, List.length_nil, List.length_drop, List.length_take]; omega) | (dsimp only; omega) | decide | (simp [keyV, be8_len]; done)) (show RdC w1616 0 w1616.heap.size 1 (Value.slice (some ⟨b1613, 0, none⟩) 2 2) [1, 2].length ([1, 2].map u16v) from by have hh : RdC w1616 0 w1616.heap.size 1 _ _ _ := ((RdC.ofBx (sz := 1) (n := 2) hB1615 rfl (by decide)).mono (L' := 0) (B' := w1616.heap.size) (Nat.zero_le _) (by have := hB1615.lt; omega)); first | exact hh | exact hh.cast (by first | omega | (simp; try omega)) (by first | rfl | simp [u16v])) (show RdC w1616 0 w1616.heap.size 1 (Value.slice (some ⟨b1617, 0, none⟩) 1 1) [1].length ([1].map u16v) from by have hh : RdC w1616 0 w1616.heap.size 1 _ _ _ := ((RdC.ofBx (sz := 1) (n := 1) hB1619 rfl (by decide)).mono (L' := 0) (B' := w1616.heap.size) (Nat.zero_le _) (by have := hB1619.lt; omega)); first | exact hh | exact hh.cast (by first | omega | (simp; try omega)) (by first | rfl | simp [u16v]))) ?_
    rintro v1620 w1621 ⟨E1622, hO1620⟩
    have E1622 := grown_of_below E1622
    have z_w1621 := E1622.size
    have hB1589 := hB1589.keep0 E1622
    have hB1593 := hB1593.keep0 E1622
    have hB1599 := hB1599.keep0 E1622
    have hB1605 := hB1605.keep0 E1622
    have hB1609 := hB1609.keep0 E1622
    have hB1615 := hB1615.keep0 E1622
    have hB1619 := hB1619.keep0 E1622
    have hb := below_step0 hb E1622 hb.size
    have hO1620 := hO1620.mono (base' := w.heap.size) (by omega)
    refine g_true (j := 14) (dj := 15) (b := true) rfl rfl rfl (ev_hit hN rfl) ?_
    refine op_len_rd Try.underlying23 (ev_hit hN rfl) hO1620.rdw ?_
    refine g_true (j := 14) (dj := 15) (b := true) rfl rfl rfl (ev_hit hN rfl) ?_
    refine op_eql (ev_hit hN rfl) rfl (fun c20 => ?_) (fun c20 => ?_)
    · -- 20T
     refine op_pick_t (ev_hit hN rfl) (ev_hit hN rfl) ?_
     refine op_assign (ev_hit hN rfl) ?_
     refine reg_nil ?_
     refine hK1585 _ _ ?_
     refine wp_ret ?_
     refine ret1 rfl hd (ev_hit hN rfl) ⟨_, rfl, ?_⟩
     -- path 4T 8T 13T 20T
     exact ⟨hb, rfl⟩
    · -- 20F
     exact absurd c20 (by decide +kernel)
   · -- 13F
    exact absurd c13 (by decide +kernel)
  · -- 8F
   exact absurd c8 (by decide +kernel)
 · -- 4F
  exact absurd c4 (by decide +kernel)

theorem OwnAll_ret (a : Lb) (b : Lb) (o : Lb) (s : Lb) (va : Value) (vb : Value) (vo : Value) (vs : Value) (w : World) (hla : a.length ≤ 9223372036854775807) (hlb : b.length ≤ 9223372036854775807) (hlo : o.length ≤ 9223372036854775807) (hls : s.length ≤ 9223372036854775807) (hra : RdC w 0 w.heap.size 1 va a.length (a.map u16v)) (hrb : RdC w 0 w.heap.size 1 vb b.length (b.map u16v)) (hro : RdC w 0 w.heap.size 1 vo o.length (o.map u16v)) (hrs : RdC w 0 w.heap.size 1 vs s.length (s.map u16v)) : Ret Try.prog 3 #[va, vb, vo, vs] w (fun v' w' => Below w.heap.size w w' ∧ v' = .bool true) := by
 have hb := Below.refl w.heap.size w
 refine enter (N := 57) Try.func3 rfl rfl (by simp) fun a0 hN hd hA => ?_
 have s0 : a0.tmps.getD 0 undef = va := hA 0 (by simp)
 have s1 : a0.tmps.getD 1 undef = vb := hA 1 (by simp)
 have s2 : a0.tmps.getD 2 undef = vo := hA 2 (by simp)
 have s3 : a0.tmps.getD 3 undef = vs := hA 3 (by simp)
 clear hA
 refine seq_any fun K1623 hK1623 => ?_
 refine one_reg ?_
 refine op_assign rfl ?_
 refine reg_nil ?_
 refine hK1623 _ _ ?_
 refine seq_any fun K1624 hK1624 => ?_
 refine seq_any fun K1625 hK1625 => ?_
 refine one_reg ?_
 refine op_fn (vs := []) ok12 trivial (begun2_ret _) ?_
 rintro _ w1626 ⟨E1627, rfl⟩
 have E1627 := grown_of_below E1627
 have z_w1626 := E1627.size
 have hra := hra.keep0 E1627
 have hrb := hrb.keep0 E1627
 have hro := hro.keep0 E1627
 have hrs := hrs.keep0 E1627
 have hb := below_step0 hb E1627 hb.size
 refine op_not (ev_hit hN rfl) ?_
 refine reg_nil ?_
 refine hK1625 _ _ ?_
 refine wp_cond_false (ev_hit hN rfl) ?_
 refine wp_skip ?_
 refine hK1624 _ _ ?_
 refine seq_any fun K1628 hK1628 => ?_
 refine seq_any fun K1629 hK1629 => ?_
 refine one_reg ?_
 refine op_move (ev_base hN rfl s0) ?_
 refine op_fn (vs := [va]) ok13 ⟨(ev_hit hN rfl), trivial⟩ (refMay_ret a _ _ (by first | assumption | omega | (simp only [List.length_append, List.length_cons, List.length_nil, List.length_drop, List.length_take]; omega) | (dsimp only; omega) | decide | (simp [keyV, be8_len]; done)) (show RdC w1626 0 w1626.heap.size 1 va a.length (a.map u16v) from by have hh : RdC w1626 0 w1626.heap.size 1 _ _ _ := (hra.mono (L' := 0) (B' := w1626.heap.size) (Nat.zero_le _) (by omega)); first | exact hh | exact hh.cast (by first | omega | (simp; try omega)) (by first | rfl | simp [u16v]))) ?_
 rintro _ w1630 ⟨E1631, rfl⟩
 have E1631 := grown_of_below E1631
 have z_w1630 := E1631.size
 have hra := hra.keep0 E1631
 have hrb := hrb.keep0 E1631
 have hro := hro.keep0 E1631
 have hrs := hrs.keep0 E1631
 have hb := below_step0 hb E1631 hb.size
 rcases Bool.eq_false_or_eq_true ((mayL a)) with c12 | c12
 · -- 12T
  rw [c12]
  refine op_not (ev_hit hN rfl) ?_
  refine op_move (ev_hit hN rfl) ?_
  refine g_true (j := 3) (dj := 14) (b := false) rfl rfl rfl (ev_hit hN rfl) ?_
  refine op_move (ev_base hN rfl s1) ?_
  refine g_true (j := 3) (dj := 14) (b := false) rfl rfl rfl (ev_hit hN rfl) ?_
  refine op_fn (vs := [vb]) ok13 ⟨(ev_hit hN rfl), trivial⟩ (refMay_ret b _ _ (by first | assumption | omega | (simp only [List.length_append, List.length_cons, List.length_nil, List.length_drop, List.length_take]; omega) | (dsimp only; omega) | decide | (simp [keyV, be8_len]; done)) (show RdC w1630 0 w1630.heap.size 1 vb b.length (b.map u16v) from by have hh : RdC w1630 0 w1630.heap.size 1 _ _ _ := (hrb.mono (L' := 0) (B' := w1630.heap.size) (Nat.zero_le _) (by omega)); first | exact hh | exact hh.cast (by first | omega | (simp; try omega)) (by first | rfl | simp [u16v]))) ?_
  rintro _ w1632 ⟨E1633, rfl⟩
  have E1633 := grown_of_below E1633
  have z_w1632 := E1633.size
  have hra := hra.keep0 E1633
  have hrb := hrb.keep0 E1633
  have hro := hro.keep0 E1633
  have hrs := hrs.keep0 E1633
  have hb := below_step0 hb E1633 hb.size
  rcases Bool.eq_false_or_eq_true ((mayL b)) with c16 | c16
  · -- 16T
   rw [c16]
   refine g_true (j := 3) (dj := 14) (b := false) rfl rfl rfl (ev_hit hN rfl) ?_
   refine op_not (ev_hit hN rfl) ?_
   refine op_pick_f (ev_hit hN rfl) (ev_hit hN rfl) ?_
   refine op_move (ev_hit hN rfl) ?_
   refine g_true (j := 8) (dj := 19) (b := false) rfl rfl rfl (ev_hit hN rfl) ?_
   refine op_move (ev_base hN rfl s2) ?_
   refine g_true (j := 8) (dj := 19) (b := false) rfl rfl rfl (ev_hit hN rfl) ?_
   refine op_fn (vs := [vo]) ok13 ⟨(ev_hit hN rfl), trivial⟩ (refMay_ret o _ _ (by first | assumption | omega | (simp only [List.length_append, List.length_cons, List.length_nil, List.length_drop, List.length_take]; omega) | (dsimp only; omega) | decide | (simp [keyV, be8_len]; done)) (show RdC w1632 0 w1632.heap.size 1 vo o.length (o.map u16v) from by have hh : RdC w1632 0 w1632.heap.size 1 _ _ _ := (hro.mono (L' := 0) (B' := w1632.heap.size) (Nat.zero_le _) (by omega)); first | exact hh | exact hh.cast (by first | omega | (simp; try omega)) (by first | rfl | simp [u16v]))) ?_
   rintro _ w1634 ⟨E1635, rfl⟩
   have E1635 := grown_of_below E1635
   have z_w1634 := E1635.size
   have hra := hra.keep0 E1635
   have hrb := hrb.keep0 E1635
   have hro := hro.keep0 E1635
   have hrs := hrs.keep0 E1635
   have hb := below_step0 hb E1635 hb.size
   rcases Bool.eq_false_or_eq_true ((mayL o)) with c21 | c21
   · -- 21T
    rw [c21]
    refine g_true (j := 8) (dj := 19) (b := false) rfl rfl rfl (ev_hit hN rfl) ?_
    refine op_not (ev_hit hN rfl) ?_
    refine op_pick_f (ev_hit hN rfl) (ev_hit hN rfl) ?_
    refine op_move (ev_hit hN rfl) ?_
    refine g_true (j := 13) (dj := 24) (b := false) rfl rfl rfl (ev_hit hN rfl) ?_
    refine op_move (ev_base hN rfl s3) ?_
    refine g_true (j := 13) (dj := 24) (b := false) rfl rfl rfl (ev_hit hN rfl) ?_
    refine op_len_rd Try.underlying22 (ev_hit hN rfl) hrs ?_
    refine g_true (j := 13) (dj := 24) (b := false) rfl rfl rfl (ev_hit hN rfl) ?_
    refine op_gtr (ev_hit hN rfl) rfl (fun c27 => ?_) (fun c27 => ?_)
    · -- 27T
     refine op_pick_f (ev_hit hN rfl) (ev_hit hN rfl) ?_
     refine reg_nil ?_
     refine hK1629 _ _ ?_
     refine wp_cond_true (ev_hit hN rfl) ?_
     refine seq_any fun K1636 hK1636 => ?_
     refine one_reg ?_
     refine op_assign rfl ?_
     refine reg_nil ?_
     refine hK1636 _ _ ?_
     refine wp_ret (then_ret ( ?_))
     refine ret1 rfl hd (ev_hit hN rfl) ⟨_, rfl, ?_⟩
     -- path 12T 16T 21T 27T
     exact ⟨hb, rfl⟩
    · -- 27F
     refine op_pick_f (ev_hit hN rfl) (ev_hit hN rfl) ?_
     refine reg_nil ?_
     refine hK1629 _ _ ?_
     refine wp_cond_false (ev_hit hN rfl) ?_
     refine wp_skip ?_
     refine hK1628 _ _ ?_
     refine seq_any fun K1637 hK1637 => ?_
     refine one_reg ?_
     refine op_move (ev_base hN rfl s2) ?_
     refine op_move (ev_base hN rfl s3) ?_
     have la := mayL_len c12
     have lb := mayL_len c16
     have lo := mayL_len c21
     have lm1 := minus_len a o
     have lm2 := minus_len a b
     refine op_fn (vs := [vo, vs]) ok14 ⟨(ev_hit hN rfl), ⟨(ev_hit hN rfl), trivial⟩⟩ (omayW_ret o s _ _ _ (by first | assumption | omega | (simp only [List.length_append, List.length_cons, List.length_nil, List.length_drop, List.length_take]; omega) | (dsimp only; omega) | decide | (simp [keyV, be8_len]; done)) (by first | assumption | omega | (simp only [List.length_append, List.length_cons, List.length_nil, List.length_drop, List.length_take]; omega) | (dsimp only; omega) | decide | (simp [keyV, be8_len]; done)) (show RdC w1634 0 w1634.heap.size 1 vo o.length (o.map u16v) from by have hh : RdC w1634 0 w1634.heap.size 1 _ _ _ := (hro.mono (L' := 0) (B' := w1634.heap.size) (Nat.zero_le _) (by omega)); first | exact hh | exact hh.cast (by first | omega | (simp; try omega)) (by first | rfl | simp [u16v])) (show RdC w1634 0 w1634.heap.size 1 vs s.length (s.map u16v) from by have hh : RdC w1634 0 w1634.heap.size 1 _ _ _ := (hrs.mono (L' := 0) (B' := w1634.heap.size) (Nat.zero_le _) (by omega)); first | exact hh | exact hh.cast (by first | omega | (simp; try omega)) (by first | rfl | simp [u16v]))) ?_
     rintro _ w1638 ⟨E1639, rfl⟩
     have E1639 := grown_of_below E1639
     have z_w1638 := E1639.size
     have hra := hra.keep0 E1639
     have hrb := hrb.keep0 E1639
     have hro := hro.keep0 E1639
     have hrs := hrs.keep0 E1639
     have hb := below_step0 hb E1639 hb.size
     refine op_move (ev_base hN rfl s2) ?_
     refine op_move (ev_base hN rfl s3) ?_
     refine op_fn (vs := [vo, vs]) ok15 ⟨(ev_hit hN rfl), ⟨(ev_hit hN rfl), trivial⟩⟩ (rownW_ret o s _ _ _ (by first | assumption | omega | (simp only [List.length_append, List.length_cons, List.length_nil, List.length_drop, List.length_take]; omega) | (dsimp only; omega) | decide | (simp [keyV, be8_len]; done)) (by first | assumption | omega | (simp only [List.length_append, List.length_cons, List.length_nil, List.length_drop, List.length_take]; omega) | (dsimp only; omega) | decide | (simp [keyV, be8_len]; done)) (show RdC w1638 0 w1638.heap.size 1 vo o.length (o.map u16v) from by have hh : RdC w1638 0 w1638.heap.size 1 _ _ _ := (hro.mono (L' := 0) (B' := w1638.heap.size) (Nat.zero_le _) (by omega)); first | exact hh | exact hh.cast (by first | omega | (simp; try omega)) (by first | rfl | simp [u16v])) (show RdC w1638 0 w1638.heap.size 1 vs s.length (s.map u16v) from by have hh : RdC w1638 0 w1638.heap.size 1 _ _ _ := (hrs.mono (L' := 0) (B' := w1638.heap.size) (Nat.zero_le _) (by omega)); first | exact hh | exact hh.cast (by first | omega | (simp; try omega)) (by first | rfl | simp [u16v]))) ?_
     rintro _ w1640 ⟨E1641, rfl⟩
     have E1641 := grown_of_below E1641
     have z_w1640 := E1641.size
     have hra := hra.keep0 E1641
     have hrb := hrb.keep0 E1641
     have hro := hro.keep0 E1641
     have hrs := hrs.keep0 E1641
     have hb := below_step0 hb E1641 hb.size
     refine op_eql (ev_hit hN rfl) (ev_hit hN rfl) (fun c35 => ?_) (fun c35 => ?_)
     · -- 35T
      refine op_move (ev_hit hN rfl) ?_
      refine g_true (j := 7) (dj := 36) (b := true) rfl rfl rfl (ev_hit hN rfl) ?_
      refine op_move (ev_base hN rfl s0) ?_
      refine g_true (j := 7) (dj := 36) (b := true) rfl rfl rfl (ev_hit hN rfl) ?_
      refine op_move (ev_base hN rfl s1) ?_
      refine g_true (j := 7) (dj := 36) (b := true) rfl rfl rfl (ev_hit hN rfl) ?_
      refine op_move (ev_base hN rfl s2) ?_
      refine g_true (j := 7) (dj := 36) (b := true) rfl rfl rfl (ev_hit hN rfl) ?_
      refine op_fn (vs := [va, vb, vo]) ok16 ⟨(ev_hit hN rfl), ⟨(ev_hit hN rfl), ⟨(ev_hit hN rfl), trivial⟩⟩⟩ (oflowsW_ret a b o _ _ _ _ (by first | assumption | omega | (simp only [List.length_append, List.length_cons, List.length_nil, List.length_drop, List.length_take]; omega) | (dsimp only; omega) | decide | (simp [keyV, be8_len]; done)) (by first | assumption | omega | (simp only [List.length_append, List.length_cons, List.length_nil, List.length_drop, List.length_take]; omega) | (dsimp only; omega) | decide | (simp [keyV, be8_len]; done)) (by first | assumption | omega | (simp only [List.length_append, List.length_cons, List.length_nil, List.length_drop, List.length_take]; omega) | (dsimp only; omega) | decide | (simp [keyV, be8_len]; done)) (show RdC w1640 0 w1640.heap.size 1 va a.length (a.map u16v) from by have hh : RdC w1640 0 w1640.heap.size 1 _ _ _ := (hra.mono (L' := 0) (B' := w1640.heap.size) (Nat.zero_le _) (by omega)); first | exact hh | exact hh.cast (by first | omega | (simp; try omega)) (by first | rfl | simp [u16v])) (show RdC w1640 0 w1640.heap.size 1 vb b.length (b.map u16v) from by have hh : RdC w1640 0 w1640.heap.size 1 _ _ _ := (hrb.mono (L' := 0) (B' := w1640.heap.size) (Nat.zero_le _) (by omega)); first | exact hh | exact hh.cast (by first | omega | (simp; try omega)) (by first | rfl | simp [u16v])) (show RdC w1640 0 w1640.heap.size 1 vo o.length (o.map u16v) from by have hh : RdC w1640 0 w1640.heap.size 1 _ _ _ := (hro.mono (L' := 0) (B' := w1640.heap.size) (Nat.zero_le _) (by omega)); first | exact hh | exact hh.cast (by first | omega | (simp; try omega)) (by first | rfl | simp [u16v]))) ?_
      rintro _ w1642 ⟨E1643, rfl⟩
      have E1643 := grown_of_below E1643
      have z_w1642 := E1643.size
      have hra := hra.keep0 E1643
      have hrb := hrb.keep0 E1643
      have hro := hro.keep0 E1643
      have hrs := hrs.keep0 E1643
      have hb := below_step0 hb E1643 hb.size
      rcases Bool.eq_false_or_eq_true ((flowsL (minusL a o) b)) with c40 | c40
      · -- 40T
       rw [c40]
       refine g_true (j := 7) (dj := 36) (b := true) rfl rfl rfl (ev_hit hN rfl) ?_
       refine op_move (ev_base hN rfl s0) ?_
       refine g_true (j := 7) (dj := 36) (b := true) rfl rfl rfl (ev_hit hN rfl) ?_
       refine op_move (ev_base hN rfl s2) ?_
       refine g_true (j := 7) (dj := 36) (b := true) rfl rfl rfl (ev_hit hN rfl) ?_
       refine op_fn (vs := [va, vo]) ok18 ⟨(ev_hit hN rfl), ⟨(ev_hit hN rfl), trivial⟩⟩ (rminusW_ret a o _ _ _ (by first | assumption | omega | (simp only [List.length_append, List.length_cons, List.length_nil, List.length_drop, List.length_take]; omega) | (dsimp only; omega) | decide | (simp [keyV, be8_len]; done)) (by first | assumption | omega | (simp only [List.length_append, List.length_cons, List.length_nil, List.length_drop, List.length_take]; omega) | (dsimp only; omega) | decide | (simp [keyV, be8_len]; done)) (show RdC w1642 0 w1642.heap.size 1 va a.length (a.map u16v) from by have hh : RdC w1642 0 w1642.heap.size 1 _ _ _ := (hra.mono (L' := 0) (B' := w1642.heap.size) (Nat.zero_le _) (by omega)); first | exact hh | exact hh.cast (by first | omega | (simp; try omega)) (by first | rfl | simp [u16v])) (show RdC w1642 0 w1642.heap.size 1 vo o.length (o.map u16v) from by have hh : RdC w1642 0 w1642.heap.size 1 _ _ _ := (hro.mono (L' := 0) (B' := w1642.heap.size) (Nat.zero_le _) (by omega)); first | exact hh | exact hh.cast (by first | omega | (simp; try omega)) (by first | rfl | simp [u16v]))) ?_
       rintro v1644 w1645 ⟨E1646, hO1644⟩
       have E1646 := grown_of_below E1646
       have z_w1645 := E1646.size
       have hra := hra.keep0 E1646
       have hrb := hrb.keep0 E1646
       have hro := hro.keep0 E1646
       have hrs := hrs.keep0 E1646
       have hb := below_step0 hb E1646 hb.size
       have hO1644 := hO1644.mono (base' := w.heap.size) (by omega)
       refine g_true (j := 7) (dj := 36) (b := true) rfl rfl rfl (ev_hit hN rfl) ?_
       refine op_move (ev_base hN rfl s1) ?_
       refine g_true (j := 7) (dj := 36) (b := true) rfl rfl rfl (ev_hit hN rfl) ?_
       refine op_fn (vs := [v1644, vb]) ok17 ⟨(ev_hit hN rfl), ⟨(ev_hit hN rfl), trivial⟩⟩ (rflowsW_ret (minusL a o) b _ _ _ (by first | assumption | omega | (simp only [List.length_append, List.length_cons, List.length_nil, List.length_drop, List.length_take]; omega) | (dsimp only; omega) | decide | (simp [keyV, be8_len]; done)) (by first | assumption | omega | (simp only [List.length_append, List.length_cons, List.length_nil, List.length_drop, List.length_take]; omega) | (dsimp only; omega) | decide | (simp [keyV, be8_len]; done)) (show RdC w1645 0 w1645.heap.size 1 v1644 (minusL a o).length ((minusL a o).map u16v) from by have hh : RdC w1645 0 w1645.heap.size 1 _ _ _ := (hO1644.rdw.mono (L' := 0) (B' := w1645.heap.size) (Nat.zero_le _) (by omega)); first | exact hh | exact hh.cast (by first | omega | (simp; try omega)) (by first | rfl | simp [u16v])) (show RdC w1645 0 w1645.heap.size 1 vb b.length (b.map u16v) from by have hh : RdC w1645 0 w1645.heap.size 1 _ _ _ := (hrb.mono (L' := 0) (B' := w1645.heap.size) (Nat.zero_le _) (by omega)); first | exact hh | exact hh.cast (by first | omega | (simp; try omega)) (by first | rfl | simp [u16v]))) ?_
       rintro _ w1647 ⟨E1648, rfl⟩
       have E1648 := grown_of_below E1648
       have z_w1647 := E1648.size
       have hra := hra.keep0 E1648
       have hrb := hrb.keep0 E1648
       have hro := hro.keep0 E1648
       have hrs := hrs.keep0 E1648
       have hO1644 := hO1644.keep0 E1648
       have hb := below_step0 hb E1648 hb.size
       rcases Bool.eq_false_or_eq_true ((flowsL (minusL a o) b)) with c45 | c45
       · -- 45T
        rw [c45]
        refine g_true (j := 7) (dj := 36) (b := true) rfl rfl rfl (ev_hit hN rfl) ?_
        refine op_eqb Try.underlying4 (ev_hit hN rfl) (ev_hit hN rfl) ?_
        refine op_pick_t (ev_hit hN rfl) (ev_hit hN rfl) ?_
        refine op_move (ev_hit hN rfl) ?_
        refine g_true (j := 19) (dj := 48) (b := true) rfl rfl rfl (ev_hit hN rfl) ?_
        refine op_move (ev_base hN rfl s0) ?_
        refine g_true (j := 19) (dj := 48) (b := true) rfl rfl rfl (ev_hit hN rfl) ?_
        refine op_move (ev_base hN rfl s1) ?_
        refine g_true (j := 19) (dj := 48) (b := true) rfl rfl rfl (ev_hit hN rfl) ?_
        refine op_fn (vs := [va, vb]) ok20 ⟨(ev_hit hN rfl), ⟨(ev_hit hN rfl), trivial⟩⟩ (stripW_ret a b _ _ _ (by first | assumption | omega | (simp only [List.length_append, List.length_cons, List.length_nil, List.length_drop, List.length_take]; omega) | (dsimp only; omega) | decide | (simp [keyV, be8_len]; done)) (by first | assumption | omega | (simp only [List.length_append, List.length_cons, List.length_nil, List.length_drop, List.length_take]; omega) | (dsimp only; omega) | decide | (simp [keyV, be8_len]; done)) (show RdC w1647 0 w1647.heap.size 1 va a.length (a.map u16v) from by have hh : RdC w1647 0 w1647.heap.size 1 _ _ _ := (hra.mono (L' := 0) (B' := w1647.heap.size) (Nat.zero_le _) (by omega)); first | exact hh | exact hh.cast (by first | omega | (simp; try omega)) (by first | rfl | simp [u16v])) (show RdC w1647 0 w1647.heap.size 1 vb b.length (b.map u16v) from by have hh : RdC w1647 0 w1647.heap.size 1 _ _ _ := (hrb.mono (L' := 0) (B' := w1647.heap.size) (Nat.zero_le _) (by omega)); first | exact hh | exact hh.cast (by first | omega | (simp; try omega)) (by first | rfl | simp [u16v]))) ?_
        rintro v1649 w1650 ⟨E1651, hO1649⟩
        have dj1652 : DJ v1649 v1644 := fun k hk hg => by have q1 := (hO1649.lt k hk).1; have q2 := (hO1644.lt k hg).2; omega
        have E1651 := grown_of_below E1651
        have z_w1650 := E1651.size
        have hra := hra.keep0 E1651
        have hrb := hrb.keep0 E1651
        have hro := hro.keep0 E1651
        have hrs := hrs.keep0 E1651
        have hO1644 := hO1644.keep0 E1651
        have hb := below_step0 hb E1651 hb.size
        have hO1649 := hO1649.mono (base' := w.heap.size) (by omega)
        refine g_true (j := 19) (dj := 48) (b := true) rfl rfl rfl (ev_hit hN rfl) ?_
        refine op_move (ev_base hN rfl s0) ?_
        refine g_true (j := 19) (dj := 48) (b := true) rfl rfl rfl (ev_hit hN rfl) ?_
        refine op_move (ev_base hN rfl s1) ?_
        refine g_true (j := 19) (dj := 48) (b := true) rfl rfl rfl (ev_hit hN rfl) ?_
        refine op_fn (vs := [va, vb]) ok18 ⟨(ev_hit hN rfl), ⟨(ev_hit hN rfl), trivial⟩⟩ (rminusW_ret a b _ _ _ (by first | assumption | omega | (simp only [List.length_append, List.length_cons, List.length_nil, List.length_drop, List.length_take]; omega) | (dsimp only; omega) | decide | (simp [keyV, be8_len]; done)) (by first | assumption | omega | (simp only [List.length_append, List.length_cons, List.length_nil, List.length_drop, List.length_take]; omega) | (dsimp only; omega) | decide | (simp [keyV, be8_len]; done)) (show RdC w1650 0 w1650.heap.size 1 va a.length (a.map u16v) from by have hh : RdC w1650 0 w1650.heap.size 1 _ _ _ := (hra.mono (L' := 0) (B' := w1650.heap.size) (Nat.zero_le _) (by omega)); first | exact hh | exact hh.cast (by first | omega | (simp; try omega)) (by first | rfl | simp [u16v])) (show RdC w1650 0 w1650.heap.size 1 vb b.length (b.map u16v) from by have hh : RdC w1650 0 w1650.heap.size 1 _ _ _ := (hrb.mono (L' := 0) (B' := w1650.heap.size) (Nat.zero_le _) (by omega)); first | exact hh | exact hh.cast (by first | omega | (simp; try omega)) (by first | rfl | simp [u16v]))) ?_
        rintro v1653 w1654 ⟨E1655, hO1653⟩
        have dj1656 : DJ v1653 v1644 := fun k hk hg => by have q1 := (hO1653.lt k hk).1; have q2 := (hO1644.lt k hg).2; omega
        have dj1657 : DJ v1653 v1649 := fun k hk hg => by have q1 := (hO1653.lt k hk).1; have q2 := (hO1649.lt k hg).2; omega
        have E1655 := grown_of_below E1655
        have z_w1654 := E1655.size
        have hra := hra.keep0 E1655
        have hrb := hrb.keep0 E1655
        have hro := hro.keep0 E1655
        have hrs := hrs.keep0 E1655
        have hO1644 := hO1644.keep0 E1655
        have hO1649 := hO1649.keep0 E1655
        have hb := below_step0 hb E1655 hb.size
        have hO1653 := hO1653.mono (base' := w.heap.size) (by omega)
        refine g_true (j := 19) (dj := 48) (b := true) rfl rfl rfl (ev_hit hN rfl) ?_
        refine op_fn (vs := [v1649, v1653]) ok19 ⟨(ev_hit hN rfl), ⟨(ev_hit hN rfl), trivial⟩⟩ (sameL_ret (minusL a b) (minusL a b) _ _ _ (by first | assumption | omega | (simp only [List.length_append, List.length_cons, List.length_nil, List.length_drop, List.length_take]; omega) | (dsimp only; omega) | decide | (simp [keyV, be8_len]; done)) (by first | assumption | omega | (simp only [List.length_append, List.length_cons, List.length_nil, List.length_drop, List.length_take]; omega) | (dsimp only; omega) | decide | (simp [keyV, be8_len]; done)) (show RdC w1654 0 w1654.heap.size 1 v1649 (minusL a b).length ((minusL a b).map u16v) from by have hh : RdC w1654 0 w1654.heap.size 1 _ _ _ := (hO1649.rdw.mono (L' := 0) (B' := w1654.heap.size) (Nat.zero_le _) (by omega)); first | exact hh | exact hh.cast (by first | omega | (simp; try omega)) (by first | rfl | simp [u16v])) (show RdC w1654 0 w1654.heap.size 1 v1653 (minusL a b).length ((minusL a b).map u16v) from by have hh : RdC w1654 0 w1654.heap.size 1 _ _ _ := (hO1653.rdw.mono (L' := 0) (B' := w1654.heap.size) (Nat.zero_le _) (by omega)); first | exact hh | exact hh.cast (by first | omega | (simp; try omega)) (by first | rfl | simp [u16v]))) ?_
        rintro _ w1658 ⟨E1659, rfl⟩
        have E1659 := grown_of_below E1659
        have z_w1658 := E1659.size
        have hra := hra.keep0 E1659
        have hrb := hrb.keep0 E1659
        have hro := hro.keep0 E1659
        have hrs := hrs.keep0 E1659
        have hO1644 := hO1644.keep0 E1659
        have hO1649 := hO1649.keep0 E1659
        have hO1653 := hO1653.keep0 E1659
        have hb := below_step0 hb E1659 hb.size
        rcases Bool.eq_false_or_eq_true ((decide ((minusL a b) = (minusL a b)))) with c55 | c55
        · -- 55T
         rw [c55]
         refine op_pick_t (ev_hit hN rfl) (ev_hit hN rfl) ?_
         refine op_assign (ev_hit hN rfl) ?_
         refine reg_nil ?_
         refine hK1637 _ _ ?_
         refine wp_ret ?_
         refine ret1 rfl hd (ev_hit hN rfl) ⟨_, rfl, ?_⟩
         -- path 12T 16T 21T 27F 35T 40T 45T 55T
         exact ⟨hb, rfl⟩
        · -- 55F
         exact absurd c55 (by simp)
       · -- 45F
        rw [c45]
        refine g_true (j := 7) (dj := 36) (b := true) rfl rfl rfl (ev_hit hN rfl) ?_
        refine op_eqb Try.underlying4 (ev_hit hN rfl) (ev_hit hN rfl) ?_
        refine op_pick_t (ev_hit hN rfl) (ev_hit hN rfl) ?_
        refine op_move (ev_hit hN rfl) ?_
        refine g_false (j := 19) (dj := 48) (b := true) rfl rfl rfl (ev_hit hN rfl) rfl rfl ?_
        refine g_false (j := 19) (dj := 48) (b := true) rfl rfl rfl (ev_hit hN rfl) rfl rfl ?_
        refine g_false (j := 19) (dj := 48) (b := true) rfl rfl rfl (ev_hit hN rfl) rfl rfl ?_
        refine g_false (j := 19) (dj := 48) (b := true) rfl rfl rfl (ev_hit hN rfl) rfl rfl ?_
        refine g_false (j := 19) (dj := 48) (b := true) rfl rfl rfl (ev_hit hN rfl) rfl rfl ?_
        refine g_false (j := 19) (dj := 48) (b := true) rfl rfl rfl (ev_hit hN rfl) rfl rfl ?_
        refine g_false (j := 19) (dj := 48) (b := true) rfl rfl rfl (ev_hit hN rfl) rfl rfl ?_
        refine op_pick_f (ev_hit hN rfl) rfl ?_
        refine op_assign (ev_hit hN rfl) ?_
        refine reg_nil ?_
        refine hK1637 _ _ ?_
        refine wp_ret ?_
        refine ret1 rfl hd (ev_hit hN rfl) ⟨_, rfl, ?_⟩
        -- path 12T 16T 21T 27F 35T 40T 45F
        exact ⟨hb, congrArg Value.bool (by first | (simp; done) | (simp_all; done))⟩
      · -- 40F
       rw [c40]
       refine g_true (j := 7) (dj := 36) (b := true) rfl rfl rfl (ev_hit hN rfl) ?_
       refine op_move (ev_base hN rfl s0) ?_
       refine g_true (j := 7) (dj := 36) (b := true) rfl rfl rfl (ev_hit hN rfl) ?_
       refine op_move (ev_base hN rfl s2) ?_
       refine g_true (j := 7) (dj := 36) (b := true) rfl rfl rfl (ev_hit hN rfl) ?_
       refine op_fn (vs := [va, vo]) ok18 ⟨(ev_hit hN rfl), ⟨(ev_hit hN rfl), trivial⟩⟩ (rminusW_ret a o _ _ _ (by first | assumption | omega | (simp only [List.length_append, List.length_cons, List.length_nil, List.length_drop, List.length_take]; omega) | (dsimp only; omega) | decide | (simp [keyV, be8_len]; done)) (by first | assumption | omega | (simp only [List.length_append, List.length_cons, List.length_nil, List.length_drop, List.length_take]; omega) | (dsimp only; omega) | decide | (simp [keyV, be8_len]; done)) (show RdC w1642 0 w1642.heap.size 1 va a.length (a.map u16v) from by have hh : RdC w1642 0 w1642.heap.size 1 _ _ _ := (hra.mono (L' := 0) (B' := w1642.heap.size) (Nat.zero_le _) (by omega)); first | exact hh | exact hh.cast (by first | omega | (simp; try omega)) (by first | rfl | simp [u16v])) (show RdC w1642 0 w1642.heap.size 1 vo o.length (o.map u16v) from by have hh : RdC w1642 0 w1642.heap.size 1 _ _ _ := (hro.mono (L' := 0) (B' := w1642.heap.size) (Nat.zero_le _) (by omega)); first | exact hh | exact hh.cast (by first | omega | (simp; try omega)) (by first | rfl | simp [u16v]))) ?_
       rintro v1660 w1661 ⟨E1662, hO1660⟩
       have E1662 := grown_of_below E1662
       have z_w1661 := E1662.size
       have hra := hra.keep0 E1662
       have hrb := hrb.keep0 E1662
       have hro := hro.keep0 E1662
       have hrs := hrs.keep0 E1662
       have hb := below_step0 hb E1662 hb.size
       have hO1660 := hO1660.mono (base' := w.heap.size) (by omega)
       refine g_true (j := 7) (dj := 36) (b := true) rfl rfl rfl (ev_hit hN rfl) ?_
       refine op_move (ev_base hN rfl s1) ?_
       refine g_true (j := 7) (dj := 36) (b := true) rfl rfl rfl (ev_hit hN rfl) ?_
       refine op_fn (vs := [v1660, vb]) ok17 ⟨(ev_hit hN rfl), ⟨(ev_hit hN rfl), trivial⟩⟩ (rflowsW_ret (minusL a o) b _ _ _ (by first | assumption | omega | (simp only [List.length_append, List.length_cons, List.length_nil, List.length_drop, List.length_take]; omega) | (dsimp only; omega) | decide | (simp [keyV, be8_len]; done)) (by first | assumption | omega | (simp only [List.length_append, List.length_cons, List.length_nil, List.length_drop, List.length_take]; omega) | (dsimp only; omega) | decide | (simp [keyV, be8_len]; done)) (show RdC w1661 0 w1661.heap.size 1 v1660 (minusL a o).length ((minusL a o).map u16v) from by have hh : RdC w1661 0 w1661.heap.size 1 _ _ _ := (hO1660.rdw.mono (L' := 0) (B' := w1661.heap.size) (Nat.zero_le _) (by omega)); first | exact hh | exact hh.cast (by first | omega | (simp; try omega)) (by first | rfl | simp [u16v])) (show RdC w1661 0 w1661.heap.size 1 vb b.length (b.map u16v) from by have hh : RdC w1661 0 w1661.heap.size 1 _ _ _ := (hrb.mono (L' := 0) (B' := w1661.heap.size) (Nat.zero_le _) (by omega)); first | exact hh | exact hh.cast (by first | omega | (simp; try omega)) (by first | rfl | simp [u16v]))) ?_
       rintro _ w1663 ⟨E1664, rfl⟩
       have E1664 := grown_of_below E1664
       have z_w1663 := E1664.size
       have hra := hra.keep0 E1664
       have hrb := hrb.keep0 E1664
       have hro := hro.keep0 E1664
       have hrs := hrs.keep0 E1664
       have hO1660 := hO1660.keep0 E1664
       have hb := below_step0 hb E1664 hb.size
       rcases Bool.eq_false_or_eq_true ((flowsL (minusL a o) b)) with c45 | c45
       · -- 45T
        rw [c45]
        refine g_true (j := 7) (dj := 36) (b := true) rfl rfl rfl (ev_hit hN rfl) ?_
        refine op_eqb Try.underlying4 (ev_hit hN rfl) (ev_hit hN rfl) ?_
        refine op_pick_t (ev_hit hN rfl) (ev_hit hN rfl) ?_
        refine op_move (ev_hit hN rfl) ?_
        refine g_false (j := 19) (dj := 48) (b := true) rfl rfl rfl (ev_hit hN rfl) rfl rfl ?_
        refine g_false (j := 19) (dj := 48) (b := true) rfl rfl rfl (ev_hit hN rfl) rfl rfl ?_
        refine g_false (j := 19) (dj := 48) (b := true) rfl rfl rfl (ev_hit hN rfl) rfl rfl ?_
        refine g_false (j := 19) (dj := 48) (b := true) rfl rfl rfl (ev_hit hN rfl) rfl rfl ?_
        refine g_false (j := 19) (dj := 48) (b := true) rfl rfl rfl (ev_hit hN rfl) rfl rfl ?_
        refine g_false (j := 19) (dj := 48) (b := true) rfl rfl rfl (ev_hit hN rfl) rfl rfl ?_
        refine g_false (j := 19) (dj := 48) (b := true) rfl rfl rfl (ev_hit hN rfl) rfl rfl ?_
        refine op_pick_f (ev_hit hN rfl) rfl ?_
        refine op_assign (ev_hit hN rfl) ?_
        refine reg_nil ?_
        refine hK1637 _ _ ?_
        refine wp_ret ?_
        refine ret1 rfl hd (ev_hit hN rfl) ⟨_, rfl, ?_⟩
        -- path 12T 16T 21T 27F 35T 40F 45T
        exact ⟨hb, congrArg Value.bool (by first | (simp; done) | (simp_all; done))⟩
       · -- 45F
        rw [c45]
        refine g_true (j := 7) (dj := 36) (b := true) rfl rfl rfl (ev_hit hN rfl) ?_
        refine op_eqb Try.underlying4 (ev_hit hN rfl) (ev_hit hN rfl) ?_
        refine op_pick_t (ev_hit hN rfl) (ev_hit hN rfl) ?_
        refine op_move (ev_hit hN rfl) ?_
        refine g_true (j := 19) (dj := 48) (b := true) rfl rfl rfl (ev_hit hN rfl) ?_
        refine op_move (ev_base hN rfl s0) ?_
        refine g_true (j := 19) (dj := 48) (b := true) rfl rfl rfl (ev_hit hN rfl) ?_
        refine op_move (ev_base hN rfl s1) ?_
        refine g_true (j := 19) (dj := 48) (b := true) rfl rfl rfl (ev_hit hN rfl) ?_
        refine op_fn (vs := [va, vb]) ok20 ⟨(ev_hit hN rfl), ⟨(ev_hit hN rfl), trivial⟩⟩ (stripW_ret a b _ _ _ (by first | assumption | omega | (simp only [List.length_append, List.length_cons, List.length_nil, List.length_drop, List.length_take]; omega) | (dsimp only; omega) | decide | (simp [keyV, be8_len]; done)) (by first | assumption | omega | (simp only [List.length_append, List.length_cons, List.length_nil, List.length_drop, List.length_take]; omega) | (dsimp only; omega) | decide | (simp [keyV, be8_len]; done)) (show RdC w1663 0 w1663.heap.size 1 va a.length (a.map u16v) from by have hh : RdC w1663 0 w1663.heap.size 1 _ _ _ := (hra.mono (L' := 0) (B' := w1663.heap.size) (Nat.zero_le _) (by omega)); first | exact hh | exact hh.cast (by first | omega | (simp; try omega)) (by first | rfl | simp [u16v])) (show RdC w1663 0 w1663.heap.size 1 vb b.length (b.map u16v) from by have hh : RdC w1663 0 w1663.heap.size 1 _ _ _ := (hrb.mono (L' := 0) (B' := w1663.heap.size) (Nat.zero_le _) (by omega)); first | exact hh | exact hh.cast (by first | omega | (simp; try omega)) (by first | rfl | simp [u16v]))) ?_
        rintro v1665 w1666 ⟨E1667, hO1665⟩
        have dj1668 : DJ v1665 v1660 := fun k hk hg => by have q1 := (hO1665.lt k hk).1; have q2 := (hO1660.lt k hg).2; omega
        have E1667 := grown_of_below E1667
        have z_w1666 := E1667.size
        have hra := hra.keep0 E1667
        have hrb := hrb.keep0 E1667
        have hro := hro.keep0 E1667
        have hrs := hrs.keep0 E1667
        have hO1660 := hO1660.keep0 E1667
        have hb := below_step0 hb E1667 hb.size
        have hO1665 := hO1665.mono (base' := w.heap.size) (by omega)
        refine g_true (j := 19) (dj := 48) (b := true) rfl rfl rfl (ev_hit hN rfl) ?_
        refine op_move (ev_base hN rfl s0) ?_
        refine g_true (j := 19) (dj := 48) (b := true) rfl rfl rfl (ev_hit hN rfl) ?_
        refine op_move (ev_base hN rfl s1) ?_
        refine g_true (j := 19) (dj := 48) (b := true) rfl rfl rfl (ev_hit hN rfl) ?_
        refine op_fn (vs := [va, vb]) ok18 ⟨(ev_hit hN rfl), ⟨(ev_hit hN rfl), trivial⟩⟩ (rminusW_ret a b _ _ _ (by first | assumption | omega | (simp only [List.length_append, List.length_cons, List.length_nil, List.length_drop, List.length_take]; omega) | (dsimp only; omega) | decide | (simp [keyV, be8_len]; done)) (by first | assumption | omega | (simp only [List.length_append, List.length_cons, List.length_nil, List.length_drop, List.length_take]; omega) | (dsimp only; omega) | decide | (simp [keyV, be8_len]; done)) (show RdC w1666 0 w1666.heap.size 1 va a.length (a.map u16v) from by have hh : RdC w1666 0 w1666.heap.size 1 _ _ _ := (hra.mono (L' := 0) (B' := w1666.heap.size) (Nat.zero_le _) (by omega)); first | exact hh | exact hh.cast (by first | omega | (simp; try omega)) (by first | rfl | simp [u16v])) (show RdC w1666 0 w1666.heap.size 1 vb b.length (b.map u16v) from by have hh : RdC w1666 0 w1666.heap.size 1 _ _ _ := (hrb.mono (L' := 0) (B' := w1666.heap.size) (Nat.zero_le _) (by omega)); first | exact hh | exact hh.cast (by first | omega | (simp; try omega)) (by first | rfl | simp [u16v]))) ?_
        rintro v1669 w1670 ⟨E1671, hO1669⟩
        have dj1672 : DJ v1669 v1660 := fun k hk hg => by have q1 := (hO1669.lt k hk).1; have q2 := (hO1660.lt k hg).2; omega
        have dj1673 : DJ v1669 v1665 := fun k hk hg => by have q1 := (hO1669.lt k hk).1; have q2 := (hO1665.lt k hg).2; omega
        have E1671 := grown_of_below E1671
        have z_w1670 := E1671.size
        have hra := hra.keep0 E1671
        have hrb := hrb.keep0 E1671
        have hro := hro.keep0 E1671
        have hrs := hrs.keep0 E1671
        have hO1660 := hO1660.keep0 E1671
        have hO1665 := hO1665.keep0 E1671
        have hb := below_step0 hb E1671 hb.size
        have hO1669 := hO1669.mono (base' := w.heap.size) (by omega)
        refine g_true (j := 19) (dj := 48) (b := true) rfl rfl rfl (ev_hit hN rfl) ?_
        refine op_fn (vs := [v1665, v1669]) ok19 ⟨(ev_hit hN rfl), ⟨(ev_hit hN rfl), trivial⟩⟩ (sameL_ret (minusL a b) (minusL a b) _ _ _ (by first | assumption | omega | (simp only [List.length_append, List.length_cons, List.length_nil, List.length_drop, List.length_take]; omega) | (dsimp only; omega) | decide | (simp [keyV, be8_len]; done)) (by first | assumption | omega | (simp only [List.length_append, List.length_cons, List.length_nil, List.length_drop, List.length_take]; omega) | (dsimp only; omega) | decide | (simp [keyV, be8_len]; done)) (show RdC w1670 0 w1670.heap.size 1 v1665 (minusL a b).length ((minusL a b).map u16v) from by have hh : RdC w1670 0 w1670.heap.size 1 _ _ _ := (hO1665.rdw.mono (L' := 0) (B' := w1670.heap.size) (Nat.zero_le _) (by omega)); first | exact hh | exact hh.cast (by first | omega | (simp; try omega)) (by first | rfl | simp [u16v])) (show RdC w1670 0 w1670.heap.size 1 v1669 (minusL a b).length ((minusL a b).map u16v) from by have hh : RdC w1670 0 w1670.heap.size 1 _ _ _ := (hO1669.rdw.mono (L' := 0) (B' := w1670.heap.size) (Nat.zero_le _) (by omega)); first | exact hh | exact hh.cast (by first | omega | (simp; try omega)) (by first | rfl | simp [u16v]))) ?_
        rintro _ w1674 ⟨E1675, rfl⟩
        have E1675 := grown_of_below E1675
        have z_w1674 := E1675.size
        have hra := hra.keep0 E1675
        have hrb := hrb.keep0 E1675
        have hro := hro.keep0 E1675
        have hrs := hrs.keep0 E1675
        have hO1660 := hO1660.keep0 E1675
        have hO1665 := hO1665.keep0 E1675
        have hO1669 := hO1669.keep0 E1675
        have hb := below_step0 hb E1675 hb.size
        rcases Bool.eq_false_or_eq_true ((decide ((minusL a b) = (minusL a b)))) with c55 | c55
        · -- 55T
         rw [c55]
         refine op_pick_t (ev_hit hN rfl) (ev_hit hN rfl) ?_
         refine op_assign (ev_hit hN rfl) ?_
         refine reg_nil ?_
         refine hK1637 _ _ ?_
         refine wp_ret ?_
         refine ret1 rfl hd (ev_hit hN rfl) ⟨_, rfl, ?_⟩
         -- path 12T 16T 21T 27F 35T 40F 45F 55T
         exact ⟨hb, rfl⟩
        · -- 55F
         exact absurd c55 (by simp)
     · -- 35F
      exact absurd rfl c35
   · -- 21F
    rw [c21]
    refine g_true (j := 8) (dj := 19) (b := false) rfl rfl rfl (ev_hit hN rfl) ?_
    refine op_not (ev_hit hN rfl) ?_
    refine op_pick_f (ev_hit hN rfl) (ev_hit hN rfl) ?_
    refine op_move (ev_hit hN rfl) ?_
    refine g_false (j := 13) (dj := 24) (b := false) rfl rfl rfl (ev_hit hN rfl) rfl rfl ?_
    refine g_false (j := 13) (dj := 24) (b := false) rfl rfl rfl (ev_hit hN rfl) rfl rfl ?_
    refine g_false (j := 13) (dj := 24) (b := false) rfl rfl rfl (ev_hit hN rfl) rfl rfl ?_
    refine op_pick_t (ev_hit hN rfl) rfl ?_
    refine reg_nil ?_
    refine hK1629 _ _ ?_
    refine wp_cond_true (ev_hit hN rfl) ?_
    refine seq_any fun K1676 hK1676 => ?_
    refine one_reg ?_
    refine op_assign rfl ?_
    refine reg_nil ?_
    refine hK1676 _ _ ?_
    refine wp_ret (then_ret ( ?_))
    refine ret1 rfl hd (ev_hit hN rfl) ⟨_, rfl, ?_⟩
    -- path 12T 16T 21F
    exact ⟨hb, rfl⟩
  · -- 16F
   rw [c16]
   refine g_true (j := 3) (dj := 14) (b := false) rfl rfl rfl (ev_hit hN rfl) ?_
   refine op_not (ev_hit hN rfl) ?_
   refine op_pick_f (ev_hit hN rfl) (ev_hit hN rfl) ?_
   refine op_move (ev_hit hN rfl) ?_
   refine g_false (j := 8) (dj := 19) (b := false) rfl rfl rfl (ev_hit hN rfl) rfl rfl ?_
   refine g_false (j := 8) (dj := 19) (b := false) rfl rfl rfl (ev_hit hN rfl) rfl rfl ?_
   refine g_false (j := 8) (dj := 19) (b := false) rfl rfl rfl (ev_hit hN rfl) rfl rfl ?_
   refine op_pick_t (ev_hit hN rfl) rfl ?_
   refine op_move (ev_hit hN rfl) ?_
   refine g_false (j := 13) (dj := 24) (b := false) rfl rfl rfl (ev_hit hN rfl) rfl rfl ?_
   refine g_false (j := 13) (dj := 24) (b := false) rfl rfl rfl (ev_hit hN rfl) rfl rfl ?_
   refine g_false (j := 13) (dj := 24) (b := false) rfl rfl rfl (ev_hit hN rfl) rfl rfl ?_
   refine op_pick_t (ev_hit hN rfl) rfl ?_
   refine reg_nil ?_
   refine hK1629 _ _ ?_
   refine wp_cond_true (ev_hit hN rfl) ?_
   refine seq_any fun K1677 hK1677 => ?_
   refine one_reg ?_
   refine op_assign rfl ?_
   refine reg_nil ?_
   refine hK1677 _ _ ?_
   refine wp_ret (then_ret ( ?_))
   refine ret1 rfl hd (ev_hit hN rfl) ⟨_, rfl, ?_⟩
   -- path 12T 16F
   exact ⟨hb, rfl⟩
 · -- 12F
  rw [c12]
  refine op_not (ev_hit hN rfl) ?_
  refine op_move (ev_hit hN rfl) ?_
  refine g_false (j := 3) (dj := 14) (b := false) rfl rfl rfl (ev_hit hN rfl) rfl rfl ?_
  refine g_false (j := 3) (dj := 14) (b := false) rfl rfl rfl (ev_hit hN rfl) rfl rfl ?_
  refine g_false (j := 3) (dj := 14) (b := false) rfl rfl rfl (ev_hit hN rfl) rfl rfl ?_
  refine op_pick_t (ev_hit hN rfl) rfl ?_
  refine op_move (ev_hit hN rfl) ?_
  refine g_false (j := 8) (dj := 19) (b := false) rfl rfl rfl (ev_hit hN rfl) rfl rfl ?_
  refine g_false (j := 8) (dj := 19) (b := false) rfl rfl rfl (ev_hit hN rfl) rfl rfl ?_
  refine g_false (j := 8) (dj := 19) (b := false) rfl rfl rfl (ev_hit hN rfl) rfl rfl ?_
  refine op_pick_t (ev_hit hN rfl) rfl ?_
  refine op_move (ev_hit hN rfl) ?_
  refine g_false (j := 13) (dj := 24) (b := false) rfl rfl rfl (ev_hit hN rfl) rfl rfl ?_
  refine g_false (j := 13) (dj := 24) (b := false) rfl rfl rfl (ev_hit hN rfl) rfl rfl ?_
  refine g_false (j := 13) (dj := 24) (b := false) rfl rfl rfl (ev_hit hN rfl) rfl rfl ?_
  refine op_pick_t (ev_hit hN rfl) rfl ?_
  refine reg_nil ?_
  refine hK1629 _ _ ?_
  refine wp_cond_true (ev_hit hN rfl) ?_
  refine seq_any fun K1678 hK1678 => ?_
  refine one_reg ?_
  refine op_assign rfl ?_
  refine reg_nil ?_
  refine hK1678 _ _ ?_
  refine wp_ret (then_ret ( ?_))
  refine ret1 rfl hd (ev_hit hN rfl) ⟨_, rfl, ?_⟩
  -- path 12F
  exact ⟨hb, rfl⟩

end Go.Proofs.Ytpmnljffdofkeaa

/- What the arguments of the laws are, told by their types. -/
namespace Go.Proofs.Ytpmnljffdofkeaa
open Go.Gx Go.RowKit
theorem rd_le {w : World} {L B sz n : Nat} {v : Value} {cs : List Value} (h : RdC w L B sz v n cs) : n ≤ 9223372036854775807 := by obtain ⟨_, _, _, _, hq, hm, _⟩ := h; exact Nat.le_trans hq hm
theorem cells35 : Try.prog.cellsOf 35 = 1 := by kernel_rfl
theorem flat_u16v (l : List UInt16) : l.flatMap (fun c => [u16v c]) = l.map u16v := by induction l with | nil => rfl | cons c l ih => simp [ih]
theorem dec23 {H : Type} {enc : TypeId × Value → H} {w : World} {base : Nat} {spare : Nat → Bool} {held : Bool} : Dec enc Try.prog w base spare held 23 (fun p : Value × List UInt16 => [p.1]) (fun p => RdC w 0 w.heap.size 1 p.1 p.2.length (p.2.map u16v)) :=
  (Dec.slice Try.underlying23 (by rw [cells35]; decide) (Dec.u16 Try.underlying35) (fun _ _ => by rw [cells35]; rfl)).map fun p hp => ⟨p, rfl, by have hq := hp.1; rwa [cells35, flat_u16v] at hq⟩
theorem dec22 {H : Type} {enc : TypeId × Value → H} {w : World} {base : Nat} {spare : Nat → Bool} {held : Bool} : Dec enc Try.prog w base spare held 22 (fun p : Value × List UInt16 => [p.1]) (fun p => RdC w 0 w.heap.size 1 p.1 p.2.length (p.2.map u16v)) :=
  (Dec.slice Try.underlying22 (by rw [cells35]; decide) (Dec.u16 Try.underlying35) (fun _ _ => by rw [cells35]; rfl)).map fun p hp => ⟨p, rfl, by have hq := hp.1; rwa [cells35, flat_u16v] at hq⟩
theorem cells5 : Try.prog.cellsOf 5 = 1 := by kernel_rfl
theorem flat_u8v (l : List UInt8) : l.flatMap (fun c => [u8v c]) = l.map u8v := by induction l with | nil => rfl | cons c l ih => simp [ih]
theorem dec39 {H : Type} {enc : TypeId × Value → H} {w : World} {base : Nat} {spare : Nat → Bool} {held : Bool} : Dec enc Try.prog w base spare held 39 (fun p : Value × List UInt8 => [p.1]) (fun p => RdC w 0 w.heap.size 1 p.1 p.2.length (p.2.map u8v)) :=
  (Dec.slice Try.underlying39 (by rw [cells5]; decide) (Dec.u8 Try.underlying5) (fun _ _ => by rw [cells5]; rfl)).map fun p hp => ⟨p, rfl, by have hq := hp.1; rwa [cells5, flat_u8v] at hq⟩
theorem cells23 : Try.prog.cellsOf 23 = 1 := by kernel_rfl
theorem dec49 {H : Type} {enc : TypeId × Value → H} {w : World} {base : Nat} {spare : Nat → Bool} {held : Bool} : Dec enc Try.prog w base spare held 49 (fun p : Value × List (Value × List UInt16) => [p.1]) (fun p => RdC w 0 w.heap.size 1 p.1 p.2.length (p.2.flatMap (fun (x9 : Value × List UInt16) => [x9.1])) ∧ ∀ x ∈ p.2, (RdC w 0 w.heap.size 1 x.1 x.2.length (x.2.map u16v))) :=
  (Dec.slice Try.underlying49 (by rw [cells23]; decide) dec23 (fun _ _ => by rw [cells23]; rfl)).map fun p hp => ⟨p, rfl, by have hq := hp.1; rw [cells23] at hq; exact hq, hp.2⟩
end Go.Proofs.Ytpmnljffdofkeaa

/- Walks, written by a program: what each function of the translation hands back. -/
namespace Go.Proofs.Ytpmnljffdofkeaa
open Go.Gx Go.RowKit
attribute [local irreducible] wpList wpStill Code.wp Calls

theorem OwnMore_ret (a : Lb) (b : Lb) (o : Lb) (m : Lb) (va : Value) (vb : Value) (vo : Value) (vm : Value) (w : World) (hla : a.length ≤ 9223372036854775807) (hlb : b.length ≤ 9223372036854775807) (hlo : o.length ≤ 9223372036854775807) (hlm : m.length ≤ 9223372036854775807) (hra : RdC w 0 w.heap.size 1 va a.length (a.map u16v)) (hrb : RdC w 0 w.heap.size 1 vb b.length (b.map u16v)) (hro : RdC w 0 w.heap.size 1 vo o.length (o.map u16v)) (hrm : RdC w 0 w.heap.size 1 vm m.length (m.map u16v)) : Ret Try.prog 4 #[va, vb, vo, vm] w (fun v' w' => Below w.heap.size w w' ∧ v' = .bool true) := by
 have hb := Below.refl w.heap.size w
 refine enter (N := 86) Try.func4 rfl rfl (by simp) fun a0 hN hd hA => ?_
 have s0 : a0.tmps.getD 0 undef = va := hA 0 (by simp)
 have s1 : a0.tmps.getD 1 undef = vb := hA 1 (by simp)
 have s2 : a0.tmps.getD 2 undef = vo := hA 2 (by simp)
 have s3 : a0.tmps.getD 3 undef = vm := hA 3 (by simp)
 clear hA
 refine seq_any fun K1679 hK1679 => ?_
 refine one_reg ?_
 refine op_assign rfl ?_
 refine reg_nil ?_
 refine hK1679 _ _ ?_
 refine seq_any fun K1680 hK1680 => ?_
 refine seq_any fun K1681 hK1681 => ?_
 refine one_reg ?_
 refine op_fn (vs := []) ok12 trivial (begun2_ret _) ?_
 rintro _ w1682 ⟨E1683, rfl⟩
 have E1683 := grown_of_below E1683
 have z_w1682 := E1683.size
 have hra := hra.keep0 E1683
 have hrb := hrb.keep0 E1683
 have hro := hro.keep0 E1683
 have hrm := hrm.keep0 E1683
 have hb := below_step0 hb E1683 hb.size
 refine op_not (ev_hit hN rfl) ?_
 refine reg_nil ?_
 refine hK1681 _ _ ?_
 refine wp_cond_false (ev_hit hN rfl) ?_
 refine wp_skip ?_
 refine hK1680 _ _ ?_
 refine seq_any fun K1684 hK1684 => ?_
 refine seq_any fun K1685 hK1685 => ?_
 refine one_reg ?_
 refine op_move (ev_base hN rfl s0) ?_
 refine op_fn (vs := [va]) ok13 ⟨(ev_hit hN rfl), trivial⟩ (refMay_ret a _ _ (by first | assumption | omega | (simp only [List.length_append, List.length_cons, List.length_nil, List.length_drop, List.length_take]; omega) | (dsimp only; omega) | decide | (simp [keyV, be8_len]; done)) (show RdC w1682 0 w1682.heap.size 1 va a.length (a.map u16v) from by have hh : RdC w1682 0 w1682.heap.size 1 _ _ _ := (hra.mono (L' := 0) (B' := w1682.heap.size) (Nat.zero_le _) (by omega)); first | exact hh | exact hh.cast (by first | omega | (simp; try omega)) (by first | rfl | simp [u16v]))) ?_
 rintro _ w1686 ⟨E1687, rfl⟩
 have E1687 := grown_of_below E1687
 have z_w1686 := E1687.size
 have hra := hra.keep0 E1687
 have hrb := hrb.keep0 E1687
 have hro := hro.keep0 E1687
 have hrm := hrm.keep0 E1687
 have hb := below_step0 hb E1687 hb.size
 rcases Bool.eq_false_or_eq_true ((mayL a)) with c13 | c13
 · -- 13T
  rw [c13]
  refine op_not (ev_hit hN rfl) ?_
  refine op_move (ev_hit hN rfl) ?_
  refine g_true (j := 3) (dj := 15) (b := false) rfl rfl rfl (ev_hit hN rfl) ?_
  refine op_move (ev_base hN rfl s1) ?_
  refine g_true (j := 3) (dj := 15) (b := false) rfl rfl rfl (ev_hit hN rfl) ?_
  refine op_fn (vs := [vb]) ok13 ⟨(ev_hit hN rfl), trivial⟩ (refMay_ret b _ _ (by first | assumption | omega | (simp only [List.length_append, List.length_cons, List.length_nil, List.length_drop, List.length_take]; omega) | (dsimp only; omega) | decide | (simp [keyV, be8_len]; done)) (show RdC w1686 0 w1686.heap.size 1 vb b.length (b.map u16v) from by have hh : RdC w1686 0 w1686.heap.size 1 _ _ _ := (hrb.mono (L' := 0) (B' := w1686.heap.size) (Nat.zero_le _) (by omega)); first | exact hh | exact hh.cast (by first | omega | (simp; try omega)) (by first | rfl | simp [u16v]))) ?_
  rintro _ w1688 ⟨E1689, rfl⟩
  have E1689 := grown_of_below E1689
  have z_w1688 := E1689.size
  have hra := hra.keep0 E1689
  have hrb := hrb.keep0 E1689
  have hro := hro.keep0 E1689
  have hrm := hrm.keep0 E1689
  have hb := below_step0 hb E1689 hb.size
  rcases Bool.eq_false_or_eq_true ((mayL b)) with c17 | c17
  · -- 17T
   rw [c17]
   refine g_true (j := 3) (dj := 15) (b := false) rfl rfl rfl (ev_hit hN rfl) ?_
   refine op_not (ev_hit hN rfl) ?_
   refine op_pick_f (ev_hit hN rfl) (ev_hit hN rfl) ?_
   refine op_move (ev_hit hN rfl) ?_
   refine g_true (j := 8) (dj := 20) (b := false) rfl rfl rfl (ev_hit hN rfl) ?_
   refine op_move (ev_base hN rfl s2) ?_
   refine g_true (j := 8) (dj := 20) (b := false) rfl rfl rfl (ev_hit hN rfl) ?_
   refine op_fn (vs := [vo]) ok13 ⟨(ev_hit hN rfl), trivial⟩ (refMay_ret o _ _ (by first | assumption | omega | (simp only [List.length_append, List.length_cons, List.length_nil, List.length_drop, List.length_take]; omega) | (dsimp only; omega) | decide | (simp [keyV, be8_len]; done)) (show RdC w1688 0 w1688.heap.size 1 vo o.length (o.map u16v) from by have hh : RdC w1688 0 w1688.heap.size 1 _ _ _ := (hro.mono (L' := 0) (B' := w1688.heap.size) (Nat.zero_le _) (by omega)); first | exact hh | exact hh.cast (by first | omega | (simp; try omega)) (by first | rfl | simp [u16v]))) ?_
   rintro _ w1690 ⟨E1691, rfl⟩
   have E1691 := grown_of_below E1691
   have z_w1690 := E1691.size
   have hra := hra.keep0 E1691
   have hrb := hrb.keep0 E1691
   have hro := hro.keep0 E1691
   have hrm := hrm.keep0 E1691
   have hb := below_step0 hb E1691 hb.size
   rcases Bool.eq_false_or_eq_true ((mayL o)) with c22 | c22
   · -- 22T
    rw [c22]
    refine g_true (j := 8) (dj := 20) (b := false) rfl rfl rfl (ev_hit hN rfl) ?_
    refine op_not (ev_hit hN rfl) ?_
    refine op_pick_f (ev_hit hN rfl) (ev_hit hN rfl) ?_
    refine op_move (ev_hit hN rfl) ?_
    refine g_true (j := 13) (dj := 25) (b := false) rfl rfl rfl (ev_hit hN rfl) ?_
    refine op_move (ev_base hN rfl s3) ?_
    refine g_true (j := 13) (dj := 25) (b := false) rfl rfl rfl (ev_hit hN rfl) ?_
    refine op_fn (vs := [vm]) ok13 ⟨(ev_hit hN rfl), trivial⟩ (refMay_ret m _ _ (by first | assumption | omega | (simp only [List.length_append, List.length_cons, List.length_nil, List.length_drop, List.length_take]; omega) | (dsimp only; omega) | decide | (simp [keyV, be8_len]; done)) (show RdC w1690 0 w1690.heap.size 1 vm m.length (m.map u16v) from by have hh : RdC w1690 0 w1690.heap.size 1 _ _ _ := (hrm.mono (L' := 0) (B' := w1690.heap.size) (Nat.zero_le _) (by omega)); first | exact hh | exact hh.cast (by first | omega | (simp; try omega)) (by first | rfl | simp [u16v]))) ?_
    rintro _ w1692 ⟨E1693, rfl⟩
    have E1693 := grown_of_below E1693
    have z_w1692 := E1693.size
    have hra := hra.keep0 E1693
    have hrb := hrb.keep0 E1693
    have hro := hro.keep0 E1693
    have hrm := hrm.keep0 E1693
    have hb := below_step0 hb E1693 hb.size
    rcases Bool.eq_false_or_eq_true ((mayL m)) with c27 | c27
    · -- 27T
     rw [c27]
     refine g_true (j := 13) (dj := 25) (b := false) rfl rfl rfl (ev_hit hN rfl) ?_
     refine op_not (ev_hit hN rfl) ?_
     refine op_pick_f (ev_hit hN rfl) (ev_hit hN rfl) ?_
     refine reg_nil ?_
     refine hK1685 _ _ ?_
     refine wp_cond_false (ev_hit hN rfl) ?_
     refine wp_skip ?_
     refine hK1684 _ _ ?_
     refine seq_any fun K1694 hK1694 => ?_
     refine one_reg ?_
     refine op_move (ev_base hN rfl s2) ?_
     refine op_move (ev_base hN rfl s3) ?_
     have la := mayL_len c13
     have lb := mayL_len c17
     have lo := mayL_len c22
     have lm := mayL_len c27
     have lj := join_len o m
     have lj2 := join_len b a
     refine op_fn (vs := [vo, vm]) ok21 ⟨(ev_hit hN rfl), ⟨(ev_hit hN rfl), trivial⟩⟩ (rjoinW_ret o m _ _ _ (by first | assumption | omega | (simp only [List.length_append, List.length_cons, List.length_nil, List.length_drop, List.length_take]; omega) | (dsimp only; omega) | decide | (simp [keyV, be8_len]; done)) (by first | assumption | omega | (simp only [List.length_append, List.length_cons, List.length_nil, List.length_drop, List.length_take]; omega) | (dsimp only; omega) | decide | (simp [keyV, be8_len]; done)) (show RdC w1692 0 w1692.heap.size 1 vo o.length (o.map u16v) from by have hh : RdC w1692 0 w1692.heap.size 1 _ _ _ := (hro.mono (L' := 0) (B' := w1692.heap.size) (Nat.zero_le _) (by omega)); first | exact hh | exact hh.cast (by first | omega | (simp; try omega)) (by first | rfl | simp [u16v])) (show RdC w1692 0 w1692.heap.size 1 vm m.length (m.map u16v) from by have hh : RdC w1692 0 w1692.heap.size 1 _ _ _ := (hrm.mono (L' := 0) (B' := w1692.heap.size) (Nat.zero_le _) (by omega)); first | exact hh | exact hh.cast (by first | omega | (simp; try omega)) (by first | rfl | simp [u16v]))) ?_
     rintro v1695 w1696 ⟨E1697, hO1695⟩
     have E1697 := grown_of_below E1697
     have z_w1696 := E1697.size
     have hra := hra.keep0 E1697
     have hrb := hrb.keep0 E1697
     have hro := hro.keep0 E1697
     have hrm := hrm.keep0 E1697
     have hb := below_step0 hb E1697 hb.size
     have hO1695 := hO1695.mono (base' := w.heap.size) (by omega)
     refine op_assign (ev_hit hN rfl) ?_
     refine reg_nil ?_
     refine hK1694 _ _ ?_
     refine seq_any fun K1698 hK1698 => ?_
     refine seq_any fun K1699 hK1699 => ?_
     refine one_reg ?_
     refine op_move (ev_hit hN rfl) ?_
     refine op_len_rd Try.underlying23 (ev_hit hN rfl) hO1695.rdw ?_
     refine op_gtr (ev_hit hN rfl) rfl (fun c35 => ?_) (fun c35 => ?_)
     · -- 35T
      refine reg_nil ?_
      refine hK1699 _ _ ?_
      refine wp_cond_true (ev_hit hN rfl) ?_
      refine seq_any fun K1700 hK1700 => ?_
      refine one_reg ?_
      refine op_assign rfl ?_
      refine reg_nil ?_
      refine hK1700 _ _ ?_
      refine wp_ret (then_ret ( ?_))
      refine ret1 rfl hd (ev_hit hN rfl) ⟨_, rfl, ?_⟩
      -- path 13T 17T 22T 27T 35T
      exact ⟨hb, rfl⟩
     · -- 35F
      refine reg_nil ?_
      refine hK1699 _ _ ?_
      refine wp_cond_false (ev_hit hN rfl) ?_
      refine wp_skip ?_
      refine hK1698 _ _ ?_
      refine seq_any fun K1701 hK1701 => ?_
      refine one_reg ?_
      refine op_move (ev_base hN rfl s0) ?_
      refine op_move (ev_base hN rfl s1) ?_
      refine op_move (ev_base hN rfl s2) ?_
      refine op_fn (vs := [va, vb, vo]) ok16 ⟨(ev_hit hN rfl), ⟨(ev_hit hN rfl), ⟨(ev_hit hN rfl), trivial⟩⟩⟩ (oflowsW_ret a b o _ _ _ _ (by first | assumption | omega | (simp only [List.length_append, List.length_cons, List.length_nil, List.length_drop, List.length_take]; omega) | (dsimp only; omega) | decide | (simp [keyV, be8_len]; done)) (by first | assumption | omega | (simp only [List.length_append, List.length_cons, List.length_nil, List.length_drop, List.length_take]; omega) | (dsimp only; omega) | decide | (simp [keyV, be8_len]; done)) (by first | assumption | omega | (simp only [List.length_append, List.length_cons, List.length_nil, List.length_drop, List.length_take]; omega) | (dsimp only; omega) | decide | (simp [keyV, be8_len]; done)) (show RdC w1696 0 w1696.heap.size 1 va a.length (a.map u16v) from by have hh : RdC w1696 0 w1696.heap.size 1 _ _ _ := (hra.mono (L' := 0) (B' := w1696.heap.size) (Nat.zero_le _) (by omega)); first | exact hh | exact hh.cast (by first | omega | (simp; try omega)) (by first | rfl | simp [u16v])) (show RdC w1696 0 w1696.heap.size 1 vb b.length (b.map u16v) from by have hh : RdC w1696 0 w1696.heap.size 1 _ _ _ := (hrb.mono (L' := 0) (B' := w1696.heap.size) (Nat.zero_le _) (by omega)); first | exact hh | exact hh.cast (by first | omega | (simp; try omega)) (by first | rfl | simp [u16v])) (show RdC w1696 0 w1696.heap.size 1 vo o.length (o.map u16v) from by have hh : RdC w1696 0 w1696.heap.size 1 _ _ _ := (hro.mono (L' := 0) (B' := w1696.heap.size) (Nat.zero_le _) (by omega)); first | exact hh | exact hh.cast (by first | omega | (simp; try omega)) (by first | rfl | simp [u16v]))) ?_
      rintro _ w1702 ⟨E1703, rfl⟩
      have E1703 := grown_of_below E1703
      have z_w1702 := E1703.size
      have hra := hra.keep0 E1703
      have hrb := hrb.keep0 E1703
      have hro := hro.keep0 E1703
      have hrm := hrm.keep0 E1703
      have hO1695 := hO1695.keep0 E1703
      have hb := below_step0 hb E1703 hb.size
      rcases Bool.eq_false_or_eq_true ((flowsL (minusL a o) b)) with c39 | c39
      · -- 39T
       rw [c39]
       refine op_not (ev_hit hN rfl) ?_
       refine op_move (ev_hit hN rfl) ?_
       refine g_true (j := 5) (dj := 41) (b := false) rfl rfl rfl (ev_hit hN rfl) ?_
       refine op_move (ev_base hN rfl s0) ?_
       refine g_true (j := 5) (dj := 41) (b := false) rfl rfl rfl (ev_hit hN rfl) ?_
       refine op_move (ev_base hN rfl s1) ?_
       refine g_true (j := 5) (dj := 41) (b := false) rfl rfl rfl (ev_hit hN rfl) ?_
       refine op_move (ev_hit hN rfl) ?_
       refine g_true (j := 5) (dj := 41) (b := false) rfl rfl rfl (ev_hit hN rfl) ?_
       refine op_fn (vs := [va, vb, v1695]) ok16 ⟨(ev_hit hN rfl), ⟨(ev_hit hN rfl), ⟨(ev_hit hN rfl), trivial⟩⟩⟩ (oflowsW_ret a b (joinL o m) _ _ _ _ (by first | assumption | omega | (simp only [List.length_append, List.length_cons, List.length_nil, List.length_drop, List.length_take]; omega) | (dsimp only; omega) | decide | (simp [keyV, be8_len]; done)) (by first | assumption | omega | (simp only [List.length_append, List.length_cons, List.length_nil, List.length_drop, List.length_take]; omega) | (dsimp only; omega) | decide | (simp [keyV, be8_len]; done)) (by first | assumption | omega | (simp only [List.length_append, List.length_cons, List.length_nil, List.length_drop, List.length_take]; omega) | (dsimp only; omega) | decide | (simp [keyV, be8_len]; done)) (show RdC w1702 0 w1702.heap.size 1 va a.length (a.map u16v) from by have hh : RdC w1702 0 w1702.heap.size 1 _ _ _ := (hra.mono (L' := 0) (B' := w1702.heap.size) (Nat.zero_le _) (by omega)); first | exact hh | exact hh.cast (by first | omega | (simp; try omega)) (by first | rfl | simp [u16v])) (show RdC w1702 0 w1702.heap.size 1 vb b.length (b.map u16v) from by have hh : RdC w1702 0 w1702.heap.size 1 _ _ _ := (hrb.mono (L' := 0) (B' := w1702.heap.size) (Nat.zero_le _) (by omega)); first | exact hh | exact hh.cast (by first | omega | (simp; try omega)) (by first | rfl | simp [u16v])) (show RdC w1702 0 w1702.heap.size 1 v1695 (joinL o m).length ((joinL o m).map u16v) from by have hh : RdC w1702 0 w1702.heap.size 1 _ _ _ := (hO1695.rdw.mono (L' := 0) (B' := w1702.heap.size) (Nat.zero_le _) (by omega)); first | exact hh | exact hh.cast (by first | omega | (simp; try omega)) (by first | rfl | simp [u16v]))) ?_
       rintro _ w1704 ⟨E1705, rfl⟩
       have E1705 := grown_of_below E1705
       have z_w1704 := E1705.size
       have hra := hra.keep0 E1705
       have hrb := hrb.keep0 E1705
       have hro := hro.keep0 E1705
       have hrm := hrm.keep0 E1705
       have hO1695 := hO1695.keep0 E1705
       have hb := below_step0 hb E1705 hb.size
       rcases Bool.eq_false_or_eq_true ((flowsL (minusL a (joinL o m)) b)) with c45 | c45
       · -- 45T
        rw [c45]
        refine op_pick_f (ev_hit hN rfl) (ev_hit hN rfl) ?_
        refine op_move (ev_hit hN rfl) ?_
        refine g_true (j := 11) (dj := 47) (b := true) rfl rfl rfl (ev_hit hN rfl) ?_
        refine op_move (ev_base hN rfl s0) ?_
        refine g_true (j := 11) (dj := 47) (b := true) rfl rfl rfl (ev_hit hN rfl) ?_
        refine op_move (ev_base hN rfl s1) ?_
        refine g_true (j := 11) (dj := 47) (b := true) rfl rfl rfl (ev_hit hN rfl) ?_
        refine op_fn (vs := [va, vb, (Value.slice none 0 0)]) ok16 ⟨(ev_hit hN rfl), ⟨(ev_hit hN rfl), ⟨rfl, trivial⟩⟩⟩ (oflowsW_ret a b ([] : Lb) _ _ _ _ (by first | assumption | omega | (simp only [List.length_append, List.length_cons, List.length_nil, List.length_drop, List.length_take]; omega) | (dsimp only; omega) | decide | (simp [keyV, be8_len]; done)) (by first | assumption | omega | (simp only [List.length_append, List.length_cons, List.length_nil, List.length_drop, List.length_take]; omega) | (dsimp only; omega) | decide | (simp [keyV, be8_len]; done)) (by first | assumption | omega | (simp only [List.length_append, List.length_cons, List.length_nil, List.length_drop, List.length_take]; omega) | (dsimp only; omega) | decide | (simp [keyV, be8_len]; done)) (show RdC w1704 0 w1704.heap.size 1 va a.length (a.map u16v) from by have hh : RdC w1704 0 w1704.heap.size 1 _ _ _ := (hra.mono (L' := 0) (B' := w1704.heap.size) (Nat.zero_le _) (by omega)); first | exact hh | exact hh.cast (by first | omega | (simp; try omega)) (by first | rfl | simp [u16v])) (show RdC w1704 0 w1704.heap.size 1 vb b.length (b.map u16v) from by have hh : RdC w1704 0 w1704.heap.size 1 _ _ _ := (hrb.mono (L' := 0) (B' := w1704.heap.size) (Nat.zero_le _) (by omega)); first | exact hh | exact hh.cast (by first | omega | (simp; try omega)) (by first | rfl | simp [u16v])) (show RdC w1704 0 w1704.heap.size 1 (Value.slice none 0 0) ([] : Lb).length (([] : Lb).map u16v) from by have hh : RdC w1704 0 w1704.heap.size 1 _ _ _ := ((RdC.nil _ 0 0 1).mono (L' := 0) (B' := w1704.heap.size) (Nat.zero_le _) (by omega)); first | exact hh | exact hh.cast (by first | omega | (simp; try omega)) (by first | rfl | simp [u16v]))) ?_
        rintro _ w1706 ⟨E1707, rfl⟩
        have E1707 := grown_of_below E1707
        have z_w1706 := E1707.size
        have hra := hra.keep0 E1707
        have hrb := hrb.keep0 E1707
        have hro := hro.keep0 E1707
        have hrm := hrm.keep0 E1707
        have hO1695 := hO1695.keep0 E1707
        have hb := below_step0 hb E1707 hb.size
        refine g_true (j := 11) (dj := 47) (b := true) rfl rfl rfl (ev_hit hN rfl) ?_
        refine op_move (ev_base hN rfl s0) ?_
        refine g_true (j := 11) (dj := 47) (b := true) rfl rfl rfl (ev_hit hN rfl) ?_
        refine op_move (ev_base hN rfl s1) ?_
        refine g_true (j := 11) (dj := 47) (b := true) rfl rfl rfl (ev_hit hN rfl) ?_
        refine op_fn (vs := [va, vb]) ok17 ⟨(ev_hit hN rfl), ⟨(ev_hit hN rfl), trivial⟩⟩ (rflowsW_ret a b _ _ _ (by first | assumption | omega | (simp only [List.length_append, List.length_cons, List.length_nil, List.length_drop, List.length_take]; omega) | (dsimp only; omega) | decide | (simp [keyV, be8_len]; done)) (by first | assumption | omega | (simp only [List.length_append, List.length_cons, List.length_nil, List.length_drop, List.length_take]; omega) | (dsimp only; omega) | decide | (simp [keyV, be8_len]; done)) (show RdC w1706 0 w1706.heap.size 1 va a.length (a.map u16v) from by have hh : RdC w1706 0 w1706.heap.size 1 _ _ _ := (hra.mono (L' := 0) (B' := w1706.heap.size) (Nat.zero_le _) (by omega)); first | exact hh | exact hh.cast (by first | omega | (simp; try omega)) (by first | rfl | simp [u16v])) (show RdC w1706 0 w1706.heap.size 1 vb b.length (b.map u16v) from by have hh : RdC w1706 0 w1706.heap.size 1 _ _ _ := (hrb.mono (L' := 0) (B' := w1706.heap.size) (Nat.zero_le _) (by omega)); first | exact hh | exact hh.cast (by first | omega | (simp; try omega)) (by first | rfl | simp [u16v]))) ?_
        rintro _ w1708 ⟨E1709, rfl⟩
        have E1709 := grown_of_below E1709
        have z_w1708 := E1709.size
        have hra := hra.keep0 E1709
        have hrb := hrb.keep0 E1709
        have hro := hro.keep0 E1709
        have hrm := hrm.keep0 E1709
        have hO1695 := hO1695.keep0 E1709
        have hb := below_step0 hb E1709 hb.size
        refine g_true (j := 11) (dj := 47) (b := true) rfl rfl rfl (ev_hit hN rfl) ?_
        refine op_eqb Try.underlying4 (ev_hit hN rfl) (ev_hit hN rfl) ?_
        rcases Bool.eq_false_or_eq_true (((flowsL (minusL a ([] : Lb)) b) == (flowsL a b))) with c54 | c54
        · -- 54T
         rw [c54]
         refine op_pick_t (ev_hit hN rfl) (ev_hit hN rfl) ?_
         refine op_move (ev_hit hN rfl) ?_
         refine g_true (j := 20) (dj := 56) (b := true) rfl rfl rfl (ev_hit hN rfl) ?_
         refine op_move (ev_base hN rfl s0) ?_
         refine g_true (j := 20) (dj := 56) (b := true) rfl rfl rfl (ev_hit hN rfl) ?_
         refine op_move (ev_base hN rfl s1) ?_
         refine g_true (j := 20) (dj := 56) (b := true) rfl rfl rfl (ev_hit hN rfl) ?_
         refine op_move (ev_base hN rfl s0) ?_
         refine g_true (j := 20) (dj := 56) (b := true) rfl rfl rfl (ev_hit hN rfl) ?_
         refine op_fn (vs := [vb, va]) ok21 ⟨(ev_hit hN rfl), ⟨(ev_hit hN rfl), trivial⟩⟩ (rjoinW_ret b a _ _ _ (by first | assumption | omega | (simp only [List.length_append, List.length_cons, List.length_nil, List.length_drop, List.length_take]; omega) | (dsimp only; omega) | decide | (simp [keyV, be8_len]; done)) (by first | assumption | omega | (simp only [List.length_append, List.length_cons, List.length_nil, List.length_drop, List.length_take]; omega) | (dsimp only; omega) | decide | (simp [keyV, be8_len]; done)) (show RdC w1708 0 w1708.heap.size 1 vb b.length (b.map u16v) from by have hh : RdC w1708 0 w1708.heap.size 1 _ _ _ := (hrb.mono (L' := 0) (B' := w1708.heap.size) (Nat.zero_le _) (by omega)); first | exact hh | exact hh.cast (by first | omega | (simp; try omega)) (by first | rfl | simp [u16v])) (show RdC w1708 0 w1708.heap.size 1 va a.length (a.map u16v) from by have hh : RdC w1708 0 w1708.heap.size 1 _ _ _ := (hra.mono (L' := 0) (B' := w1708.heap.size) (Nat.zero_le _) (by omega)); first | exact hh | exact hh.cast (by first | omega | (simp; try omega)) (by first | rfl | simp [u16v]))) ?_
         rintro v1710 w1711 ⟨E1712, hO1710⟩
         have dj1713 : DJ v1710 v1695 := fun k hk hg => by have q1 := (hO1710.lt k hk).1; have q2 := (hO1695.lt k hg).2; omega
         have E1712 := grown_of_below E1712
         have z_w1711 := E1712.size
         have hra := hra.keep0 E1712
         have hrb := hrb.keep0 E1712
         have hro := hro.keep0 E1712
         have hrm := hrm.keep0 E1712
         have hO1695 := hO1695.keep0 E1712
         have hb := below_step0 hb E1712 hb.size
         have hO1710 := hO1710.mono (base' := w.heap.size) (by omega)
         refine g_true (j := 20) (dj := 56) (b := true) rfl rfl rfl (ev_hit hN rfl) ?_
         refine op_move (ev_base hN rfl s2) ?_
         refine g_true (j := 20) (dj := 56) (b := true) rfl rfl rfl (ev_hit hN rfl) ?_
         refine op_fn (vs := [va, v1710, vo]) ok16 ⟨(ev_hit hN rfl), ⟨(ev_hit hN rfl), ⟨(ev_hit hN rfl), trivial⟩⟩⟩ (oflowsW_ret a (joinL b a) o _ _ _ _ (by first | assumption | omega | (simp only [List.length_append, List.length_cons, List.length_nil, List.length_drop, List.length_take]; omega) | (dsimp only; omega) | decide | (simp [keyV, be8_len]; done)) (by first | assumption | omega | (simp only [List.length_append, List.length_cons, List.length_nil, List.length_drop, List.length_take]; omega) | (dsimp only; omega) | decide | (simp [keyV, be8_len]; done)) (by first | assumption | omega | (simp only [List.length_append, List.length_cons, List.length_nil, List.length_drop, List.length_take]; omega) | (dsimp only; omega) | decide | (simp [keyV, be8_len]; done)) (show RdC w1711 0 w1711.heap.size 1 va a.length (a.map u16v) from by have hh : RdC w1711 0 w1711.heap.size 1 _ _ _ := (hra.mono (L' := 0) (B' := w1711.heap.size) (Nat.zero_le _) (by omega)); first | exact hh | exact hh.cast (by first | omega | (simp; try omega)) (by first | rfl | simp [u16v])) (show RdC w1711 0 w1711.heap.size 1 v1710 (joinL b a).length ((joinL b a).map u16v) from by have hh : RdC w1711 0 w1711.heap.size 1 _ _ _ := (hO1710.rdw.mono (L' := 0) (B' := w1711.heap.size) (Nat.zero_le _) (by omega)); first | exact hh | exact hh.cast (by first | omega | (simp; try omega)) (by first | rfl | simp [u16v])) (show RdC w1711 0 w1711.heap.size 1 vo o.length (o.map u16v) from by have hh : RdC w1711 0 w1711.heap.size 1 _ _ _ := (hro.mono (L' := 0) (B' := w1711.heap.size) (Nat.zero_le _) (by omega)); first | exact hh | exact hh.cast (by first | omega | (simp; try omega)) (by first | rfl | simp [u16v]))) ?_
         rintro _ w1714 ⟨E1715, rfl⟩
         have E1715 := grown_of_below E1715
         have z_w1714 := E1715.size
         have hra := hra.keep0 E1715
         have hrb := hrb.keep0 E1715
         have hro := hro.keep0 E1715
         have hrm := hrm.keep0 E1715
         have hO1695 := hO1695.keep0 E1715
         have hO1710 := hO1710.keep0 E1715
         have hb := below_step0 hb E1715 hb.size
         rcases Bool.eq_false_or_eq_true ((flowsL (minusL a o) (joinL b a))) with c62 | c62
         · -- 62T
          rw [c62]
          refine op_pick_t (ev_hit hN rfl) (ev_hit hN rfl) ?_
          refine op_move (ev_hit hN rfl) ?_
          refine g_true (j := 28) (dj := 64) (b := true) rfl rfl rfl (ev_hit hN rfl) ?_
          refine op_move (ev_base hN rfl s0) ?_
          refine g_true (j := 28) (dj := 64) (b := true) rfl rfl rfl (ev_hit hN rfl) ?_
          refine op_move (ev_base hN rfl s0) ?_
          refine g_true (j := 28) (dj := 64) (b := true) rfl rfl rfl (ev_hit hN rfl) ?_
          refine op_fn (vs := [va, (Value.slice none 0 0), va]) ok16 ⟨(ev_hit hN rfl), ⟨rfl, ⟨(ev_hit hN rfl), trivial⟩⟩⟩ (oflowsW_ret a ([] : Lb) a _ _ _ _ (by first | assumption | omega | (simp only [List.length_append, List.length_cons, List.length_nil, List.length_drop, List.length_take]; omega) | (dsimp only; omega) | decide | (simp [keyV, be8_len]; done)) (by first | assumption | omega | (simp only [List.length_append, List.length_cons, List.length_nil, List.length_drop, List.length_take]; omega) | (dsimp only; omega) | decide | (simp [keyV, be8_len]; done)) (by first | assumption | omega | (simp only [List.length_append, List.length_cons, List.length_nil, List.length_drop, List.length_take]; omega) | (dsimp only; omega) | decide | (simp [keyV, be8_len]; done)) (show RdC w1714 0 w1714.heap.size 1 va a.length (a.map u16v) from by have hh : RdC w1714 0 w1714.heap.size 1 _ _ _ := (hra.mono (L' := 0) (B' := w1714.heap.size) (Nat.zero_le _) (by omega)); first | exact hh | exact hh.cast (by first | omega | (simp; try omega)) (by first | rfl | simp [u16v])) (show RdC w1714 0 w1714.heap.size 1 (Value.slice none 0 0) ([] : Lb).length (([] : Lb).map u16v) from by have hh : RdC w1714 0 w1714.heap.size 1 _ _ _ := ((RdC.nil _ 0 0 1).mono (L' := 0) (B' := w1714.heap.size) (Nat.zero_le _) (by omega)); first | exact hh | exact hh.cast (by first | omega | (simp; try omega)) (by first | rfl | simp [u16v])) (show RdC w1714 0 w1714.heap.size 1 va a.length (a.map u16v) from by have hh : RdC w1714 0 w1714.heap.size 1 _ _ _ := (hra.mono (L' := 0) (B' := w1714.heap.size) (Nat.zero_le _) (by omega)); first | exact hh | exact hh.cast (by first | omega | (simp; try omega)) (by first | rfl | simp [u16v]))) ?_
          rintro _ w1716 ⟨E1717, rfl⟩
          have E1717 := grown_of_below E1717
          have z_w1716 := E1717.size
          have hra := hra.keep0 E1717
          have hrb := hrb.keep0 E1717
          have hro := hro.keep0 E1717
          have hrm := hrm.keep0 E1717
          have hO1695 := hO1695.keep0 E1717
          have hO1710 := hO1710.keep0 E1717
          have hb := below_step0 hb E1717 hb.size
          rcases Bool.eq_false_or_eq_true ((flowsL (minusL a a) ([] : Lb))) with c67 | c67
          · -- 67T
           rw [c67]
           refine op_pick_t (ev_hit hN rfl) (ev_hit hN rfl) ?_
           refine op_move (ev_hit hN rfl) ?_
           refine g_true (j := 33) (dj := 69) (b := true) rfl rfl rfl (ev_hit hN rfl) ?_
           refine op_move (ev_base hN rfl s2) ?_
           refine g_true (j := 33) (dj := 69) (b := true) rfl rfl rfl (ev_hit hN rfl) ?_
           refine op_move (ev_base hN rfl s3) ?_
           refine g_true (j := 33) (dj := 69) (b := true) rfl rfl rfl (ev_hit hN rfl) ?_
           refine op_fn (vs := [vo, vm]) ok14 ⟨(ev_hit hN rfl), ⟨(ev_hit hN rfl), trivial⟩⟩ (omayW_ret o m _ _ _ (by first | assumption | omega | (simp only [List.length_append, List.length_cons, List.length_nil, List.length_drop, List.length_take]; omega) | (dsimp only; omega) | decide | (simp [keyV, be8_len]; done)) (by first | assumption | omega | (simp only [List.length_append, List.length_cons, List.length_nil, List.length_drop, List.length_take]; omega) | (dsimp only; omega) | decide | (simp [keyV, be8_len]; done)) (show RdC w1716 0 w1716.heap.size 1 vo o.length (o.map u16v) from by have hh : RdC w1716 0 w1716.heap.size 1 _ _ _ := (hro.mono (L' := 0) (B' := w1716.heap.size) (Nat.zero_le _) (by omega)); first | exact hh | exact hh.cast (by first | omega | (simp; try omega)) (by first | rfl | simp [u16v])) (show RdC w1716 0 w1716.heap.size 1 vm m.length (m.map u16v) from by have hh : RdC w1716 0 w1716.heap.size 1 _ _ _ := (hrm.mono (L' := 0) (B' := w1716.heap.size) (Nat.zero_le _) (by omega)); first | exact hh | exact hh.cast (by first | omega | (simp; try omega)) (by first | rfl | simp [u16v]))) ?_
           rintro _ w1718 ⟨E1719, rfl⟩
           have E1719 := grown_of_below E1719
           have z_w1718 := E1719.size
           have hra := hra.keep0 E1719
           have hrb := hrb.keep0 E1719
           have hro := hro.keep0 E1719
           have hrm := hrm.keep0 E1719
           have hO1695 := hO1695.keep0 E1719
           have hO1710 := hO1710.keep0 E1719
           have hb := below_step0 hb E1719 hb.size
           refine g_true (j := 33) (dj := 69) (b := true) rfl rfl rfl (ev_hit hN rfl) ?_
           refine op_neq (ev_hit hN rfl) rfl (fun c73 => ?_) (fun c73 => ?_)
           · -- 73T
            refine g_true (j := 33) (dj := 69) (b := true) rfl rfl rfl (ev_hit hN rfl) ?_
            refine op_move (ev_hit hN rfl) ?_
            refine g_false (j := 38) (dj := 74) (b := false) rfl rfl rfl (ev_hit hN rfl) rfl rfl ?_
            refine g_false (j := 38) (dj := 74) (b := false) rfl rfl rfl (ev_hit hN rfl) rfl rfl ?_
            refine g_false (j := 38) (dj := 74) (b := false) rfl rfl rfl (ev_hit hN rfl) rfl rfl ?_
            refine g_false (j := 38) (dj := 74) (b := false) rfl rfl rfl (ev_hit hN rfl) rfl rfl ?_
            refine g_true (j := 33) (dj := 69) (b := true) rfl rfl rfl (ev_hit hN rfl) ?_
            refine op_pick_t (ev_hit hN rfl) rfl ?_
            refine op_pick_t (ev_hit hN rfl) (ev_hit hN rfl) ?_
            refine op_move (ev_hit hN rfl) ?_
            refine g_true (j := 45) (dj := 81) (b := true) rfl rfl rfl (ev_hit hN rfl) ?_
            refine op_move (ev_base hN rfl s2) ?_
            refine g_true (j := 45) (dj := 81) (b := true) rfl rfl rfl (ev_hit hN rfl) ?_
            refine op_fn (vs := [vo, (Value.slice none 0 0)]) ok14 ⟨(ev_hit hN rfl), ⟨rfl, trivial⟩⟩ (omayW_ret o ([] : Lb) _ _ _ (by first | assumption | omega | (simp only [List.length_append, List.length_cons, List.length_nil, List.length_drop, List.length_take]; omega) | (dsimp only; omega) | decide | (simp [keyV, be8_len]; done)) (by first | assumption | omega | (simp only [List.length_append, List.length_cons, List.length_nil, List.length_drop, List.length_take]; omega) | (dsimp only; omega) | decide | (simp [keyV, be8_len]; done)) (show RdC w1718 0 w1718.heap.size 1 vo o.length (o.map u16v) from by have hh : RdC w1718 0 w1718.heap.size 1 _ _ _ := (hro.mono (L' := 0) (B' := w1718.heap.size) (Nat.zero_le _) (by omega)); first | exact hh | exact hh.cast (by first | omega | (simp; try omega)) (by first | rfl | simp [u16v])) (show RdC w1718 0 w1718.heap.size 1 (Value.slice none 0 0) ([] : Lb).length (([] : Lb).map u16v) from by have hh : RdC w1718 0 w1718.heap.size 1 _ _ _ := ((RdC.nil _ 0 0 1).mono (L' := 0) (B' := w1718.heap.size) (Nat.zero_le _) (by omega)); first | exact hh | exact hh.cast (by first | omega | (simp; try omega)) (by first | rfl | simp [u16v]))) ?_
            rintro _ w1720 ⟨E1721, rfl⟩
            have E1721 := grown_of_below E1721
            have z_w1720 := E1721.size
            have hra := hra.keep0 E1721
            have hrb := hrb.keep0 E1721
            have hro := hro.keep0 E1721
            have hrm := hrm.keep0 E1721
            have hO1695 := hO1695.keep0 E1721
            have hO1710 := hO1710.keep0 E1721
            have hb := below_step0 hb E1721 hb.size
            refine g_true (j := 45) (dj := 81) (b := true) rfl rfl rfl (ev_hit hN rfl) ?_
            refine op_eql (ev_hit hN rfl) rfl (fun c84 => ?_) (fun c84 => ?_)
            · -- 84T
             refine op_pick_t (ev_hit hN rfl) (ev_hit hN rfl) ?_
             refine op_assign (ev_hit hN rfl) ?_
             refine reg_nil ?_
             refine hK1701 _ _ ?_
             refine wp_ret ?_
             refine ret1 rfl hd (ev_hit hN rfl) ⟨_, rfl, ?_⟩
             -- path 13T 17T 22T 27T 35F 39T 45T 54T 62T 67T 73T 84T
             exact ⟨hb, rfl⟩
            · -- 84F
             exact absurd own_none c84
           · -- 73F
            refine g_true (j := 33) (dj := 69) (b := true) rfl rfl rfl (ev_hit hN rfl) ?_
            refine op_move (ev_hit hN rfl) ?_
            refine g_true (j := 38) (dj := 74) (b := false) rfl rfl rfl (ev_hit hN rfl) ?_
            refine op_move (ev_hit hN rfl) ?_
            refine g_true (j := 38) (dj := 74) (b := false) rfl rfl rfl (ev_hit hN rfl) ?_
            refine op_move (ev_base hN rfl s3) ?_
            refine g_true (j := 38) (dj := 74) (b := false) rfl rfl rfl (ev_hit hN rfl) ?_
            refine op_fn (vs := [v1695, vm]) ok14 ⟨(ev_hit hN rfl), ⟨(ev_hit hN rfl), trivial⟩⟩ (omayW_ret (joinL o m) m _ _ _ (by first | assumption | omega | (simp only [List.length_append, List.length_cons, List.length_nil, List.length_drop, List.length_take]; omega) | (dsimp only; omega) | decide | (simp [keyV, be8_len]; done)) (by first | assumption | omega | (simp only [List.length_append, List.length_cons, List.length_nil, List.length_drop, List.length_take]; omega) | (dsimp only; omega) | decide | (simp [keyV, be8_len]; done)) (show RdC w1718 0 w1718.heap.size 1 v1695 (joinL o m).length ((joinL o m).map u16v) from by have hh : RdC w1718 0 w1718.heap.size 1 _ _ _ := (hO1695.rdw.mono (L' := 0) (B' := w1718.heap.size) (Nat.zero_le _) (by omega)); first | exact hh | exact hh.cast (by first | omega | (simp; try omega)) (by first | rfl | simp [u16v])) (show RdC w1718 0 w1718.heap.size 1 vm m.length (m.map u16v) from by have hh : RdC w1718 0 w1718.heap.size 1 _ _ _ := (hrm.mono (L' := 0) (B' := w1718.heap.size) (Nat.zero_le _) (by omega)); first | exact hh | exact hh.cast (by first | omega | (simp; try omega)) (by first | rfl | simp [u16v]))) ?_
            rintro _ w1722 ⟨E1723, rfl⟩
            have E1723 := grown_of_below E1723
            have z_w1722 := E1723.size
            have hra := hra.keep0 E1723
            have hrb := hrb.keep0 E1723
            have hro := hro.keep0 E1723
            have hrm := hrm.keep0 E1723
            have hO1695 := hO1695.keep0 E1723
            have hO1710 := hO1710.keep0 E1723
            have hb := below_step0 hb E1723 hb.size
            refine g_true (j := 38) (dj := 74) (b := false) rfl rfl rfl (ev_hit hN rfl) ?_
            refine op_eql (ev_hit hN rfl) rfl (fun c78 => ?_) (fun c78 => ?_)
            · -- 78T
             refine g_true (j := 33) (dj := 69) (b := true) rfl rfl rfl (ev_hit hN rfl) ?_
             refine op_pick_f (ev_hit hN rfl) (ev_hit hN rfl) ?_
             refine op_pick_t (ev_hit hN rfl) (ev_hit hN rfl) ?_
             refine op_move (ev_hit hN rfl) ?_
             refine g_true (j := 45) (dj := 81) (b := true) rfl rfl rfl (ev_hit hN rfl) ?_
             refine op_move (ev_base hN rfl s2) ?_
             refine g_true (j := 45) (dj := 81) (b := true) rfl rfl rfl (ev_hit hN rfl) ?_
             refine op_fn (vs := [vo, (Value.slice none 0 0)]) ok14 ⟨(ev_hit hN rfl), ⟨rfl, trivial⟩⟩ (omayW_ret o ([] : Lb) _ _ _ (by first | assumption | omega | (simp only [List.length_append, List.length_cons, List.length_nil, List.length_drop, List.length_take]; omega) | (dsimp only; omega) | decide | (simp [keyV, be8_len]; done)) (by first | assumption | omega | (simp only [List.length_append, List.length_cons, List.length_nil, List.length_drop, List.length_take]; omega) | (dsimp only; omega) | decide | (simp [keyV, be8_len]; done)) (show RdC w1722 0 w1722.heap.size 1 vo o.length (o.map u16v) from by have hh : RdC w1722 0 w1722.heap.size 1 _ _ _ := (hro.mono (L' := 0) (B' := w1722.heap.size) (Nat.zero_le _) (by omega)); first | exact hh | exact hh.cast (by first | omega | (simp; try omega)) (by first | rfl | simp [u16v])) (show RdC w1722 0 w1722.heap.size 1 (Value.slice none 0 0) ([] : Lb).length (([] : Lb).map u16v) from by have hh : RdC w1722 0 w1722.heap.size 1 _ _ _ := ((RdC.nil _ 0 0 1).mono (L' := 0) (B' := w1722.heap.size) (Nat.zero_le _) (by omega)); first | exact hh | exact hh.cast (by first | omega | (simp; try omega)) (by first | rfl | simp [u16v]))) ?_
             rintro _ w1724 ⟨E1725, rfl⟩
             have E1725 := grown_of_below E1725
             have z_w1724 := E1725.size
             have hra := hra.keep0 E1725
             have hrb := hrb.keep0 E1725
             have hro := hro.keep0 E1725
             have hrm := hrm.keep0 E1725
             have hO1695 := hO1695.keep0 E1725
             have hO1710 := hO1710.keep0 E1725
             have hb := below_step0 hb E1725 hb.size
             refine g_true (j := 45) (dj := 81) (b := true) rfl rfl rfl (ev_hit hN rfl) ?_
             refine op_eql (ev_hit hN rfl) rfl (fun c84 => ?_) (fun c84 => ?_)
             · -- 84T
              refine op_pick_t (ev_hit hN rfl) (ev_hit hN rfl) ?_
              refine op_assign (ev_hit hN rfl) ?_
              refine reg_nil ?_
              refine hK1701 _ _ ?_
              refine wp_ret ?_
              refine ret1 rfl hd (ev_hit hN rfl) ⟨_, rfl, ?_⟩
              -- path 13T 17T 22T 27T 35F 39T 45T 54T 62T 67T 73F 78T 84T
              exact ⟨hb, rfl⟩
             · -- 84F
              exact absurd own_none c84
            · -- 78F
             exact absurd (own_more (by omega)) c78
          · -- 67F
           exact absurd (flows_self) (by rw [c67]; decide)
         · -- 62F
          exact absurd (flows_join) (by rw [c62]; decide)
        · -- 54F
         exact absurd c54 (by rw [flows_none]; simp)
       · -- 45F
        exact absurd (flows_more c39) (by rw [c45]; decide)
      · -- 39F
       rw [c39]
       refine op_not (ev_hit hN rfl) ?_
       refine op_move (ev_hit hN rfl) ?_
       refine g_false (j := 5) (dj := 41) (b := false) rfl rfl rfl (ev_hit hN rfl) rfl rfl ?_
       refine g_false (j := 5) (dj := 41) (b := false) rfl rfl rfl (ev_hit hN rfl) rfl rfl ?_
       refine g_false (j := 5) (dj := 41) (b := false) rfl rfl rfl (ev_hit hN rfl) rfl rfl ?_
       refine g_false (j := 5) (dj := 41) (b := false) rfl rfl rfl (ev_hit hN rfl) rfl rfl ?_
       refine op_pick_t (ev_hit hN rfl) rfl ?_
       refine op_move (ev_hit hN rfl) ?_
       refine g_true (j := 11) (dj := 47) (b := true) rfl rfl rfl (ev_hit hN rfl) ?_
       refine op_move (ev_base hN rfl s0) ?_
       refine g_true (j := 11) (dj := 47) (b := true) rfl rfl rfl (ev_hit hN rfl) ?_
       refine op_move (ev_base hN rfl s1) ?_
       refine g_true (j := 11) (dj := 47) (b := true) rfl rfl rfl (ev_hit hN rfl) ?_
       refine op_fn (vs := [va, vb, (Value.slice none 0 0)]) ok16 ⟨(ev_hit hN rfl), ⟨(ev_hit hN rfl), ⟨rfl, trivial⟩⟩⟩ (oflowsW_ret a b ([] : Lb) _ _ _ _ (by first | assumption | omega | (simp only [List.length_append, List.length_cons, List.length_nil, List.length_drop, List.length_take]; omega) | (dsimp only; omega) | decide | (simp [keyV, be8_len]; done)) (by first | assumption | omega | (simp only [List.length_append, List.length_cons, List.length_nil, List.length_drop, List.length_take]; omega) | (dsimp only; omega) | decide | (simp [keyV, be8_len]; done)) (by first | assumption | omega | (simp only [List.length_append, List.length_cons, List.length_nil, List.length_drop, List.length_take]; omega) | (dsimp only; omega) | decide | (simp [keyV, be8_len]; done)) (show RdC w1702 0 w1702.heap.size 1 va a.length (a.map u16v) from by have hh : RdC w1702 0 w1702.heap.size 1 _ _ _ := (hra.mono (L' := 0) (B' := w1702.heap.size) (Nat.zero_le _) (by omega)); first | exact hh | exact hh.cast (by first | omega | (simp; try omega)) (by first | rfl | simp [u16v])) (show RdC w1702 0 w1702.heap.size 1 vb b.length (b.map u16v) from by have hh : RdC w1702 0 w1702.heap.size 1 _ _ _ := (hrb.mono (L' := 0) (B' := w1702.heap.size) (Nat.zero_le _) (by omega)); first | exact hh | exact hh.cast (by first | omega | (simp; try omega)) (by first | rfl | simp [u16v])) (show RdC w1702 0 w1702.heap.size 1 (Value.slice none 0 0) ([] : Lb).length (([] : Lb).map u16v) from by have hh : RdC w1702 0 w1702.heap.size 1 _ _ _ := ((RdC.nil _ 0 0 1).mono (L' := 0) (B' := w1702.heap.size) (Nat.zero_le _) (by omega)); first | exact hh | exact hh.cast (by first | omega | (simp; try omega)) (by first | rfl | simp [u16v]))) ?_
       rintro _ w1726 ⟨E1727, rfl⟩
       have E1727 := grown_of_below E1727
       have z_w1726 := E1727.size
       have hra := hra.keep0 E1727
       have hrb := hrb.keep0 E1727
       have hro := hro.keep0 E1727
       have hrm := hrm.keep0 E1727
       have hO1695 := hO1695.keep0 E1727
       have hb := below_step0 hb E1727 hb.size
       refine g_true (j := 11) (dj := 47) (b := true) rfl rfl rfl (ev_hit hN rfl) ?_
       refine op_move (ev_base hN rfl s0) ?_
       refine g_true (j := 11) (dj := 47) (b := true) rfl rfl rfl (ev_hit hN rfl) ?_
       refine op_move (ev_base hN rfl s1) ?_
       refine g_true (j := 11) (dj := 47) (b := true) rfl rfl rfl (ev_hit hN rfl) ?_
       refine op_fn (vs := [va, vb]) ok17 ⟨(ev_hit hN rfl), ⟨(ev_hit hN rfl), trivial⟩⟩ (rflowsW_ret a b _ _ _ (by first | assumption | omega | (simp only [List.length_append, List.length_cons, List.length_nil, List.length_drop, List.length_take]; omega) | (dsimp only; omega) | decide | (simp [keyV, be8_len]; done)) (by first | assumption | omega | (simp only [List.length_append, List.length_cons, List.length_nil, List.length_drop, List.length_take]; omega) | (dsimp only; omega) | decide | (simp [keyV, be8_len]; done)) (show RdC w1726 0 w1726.heap.size 1 va a.length (a.map u16v) from by have hh : RdC w1726 0 w1726.heap.size 1 _ _ _ := (hra.mono (L' := 0) (B' := w1726.heap.size) (Nat.zero_le _) (by omega)); first | exact hh | exact hh.cast (by first | omega | (simp; try omega)) (by first | rfl | simp [u16v])) (show RdC w1726 0 w1726.heap.size 1 vb b.length (b.map u16v) from by have hh : RdC w1726 0 w1726.heap.size 1 _ _ _ := (hrb.mono (L' := 0) (B' := w1726.heap.size) (Nat.zero_le _) (by omega)); first | exact hh | exact hh.cast (by first | omega | (simp; try omega)) (by first | rfl | simp [u16v]))) ?_
       rintro _ w1728 ⟨E1729, rfl⟩
       have E1729 := grown_of_below E1729
       have z_w1728 := E1729.size
       have hra := hra.keep0 E1729
       have hrb := hrb.keep0 E1729
       have hro := hro.keep0 E1729
       have hrm := hrm.keep0 E1729
       have hO1695 := hO1695.keep0 E1729
       have hb := below_step0 hb E1729 hb.size
       refine g_true (j := 11) (dj := 47) (b := true) rfl rfl rfl (ev_hit hN rfl) ?_
       refine op_eqb Try.underlying4 (ev_hit hN rfl) (ev_hit hN rfl) ?_
       rcases Bool.eq_false_or_eq_true (((flowsL (minusL a ([] : Lb)) b) == (flowsL a b))) with c54 | c54
       · -- 54T
        rw [c54]
        refine op_pick_t (ev_hit hN rfl) (ev_hit hN rfl) ?_
        refine op_move (ev_hit hN rfl) ?_
        refine g_true (j := 20) (dj := 56) (b := true) rfl rfl rfl (ev_hit hN rfl) ?_
        refine op_move (ev_base hN rfl s0) ?_
        refine g_true (j := 20) (dj := 56) (b := true) rfl rfl rfl (ev_hit hN rfl) ?_
        refine op_move (ev_base hN rfl s1) ?_
        refine g_true (j := 20) (dj := 56) (b := true) rfl rfl rfl (ev_hit hN rfl) ?_
        refine op_move (ev_base hN rfl s0) ?_
        refine g_true (j := 20) (dj := 56) (b := true) rfl rfl rfl (ev_hit hN rfl) ?_
        refine op_fn (vs := [vb, va]) ok21 ⟨(ev_hit hN rfl), ⟨(ev_hit hN rfl), trivial⟩⟩ (rjoinW_ret b a _ _ _ (by first | assumption | omega | (simp only [List.length_append, List.length_cons, List.length_nil, List.length_drop, List.length_take]; omega) | (dsimp only; omega) | decide | (simp [keyV, be8_len]; done)) (by first | assumption | omega | (simp only [List.length_append, List.length_cons, List.length_nil, List.length_drop, List.length_take]; omega) | (dsimp only; omega) | decide | (simp [keyV, be8_len]; done)) (show RdC w1728 0 w1728.heap.size 1 vb b.length (b.map u16v) from by have hh : RdC w1728 0 w1728.heap.size 1 _ _ _ := (hrb.mono (L' := 0) (B' := w1728.heap.size) (Nat.zero_le _) (by omega)); first | exact hh | exact hh.cast (by first | omega | (simp; try omega)) (by first | rfl | simp [u16v])) (show RdC w1728 0 w1728.heap.size 1 va a.length (a.map u16v) from by have hh : RdC w1728 0 w1728.heap.size 1 _ _ _ := (hra.mono (L' := 0) (B' := w1728.heap.size) (Nat.zero_le _) (by omega)); first | exact hh | exact hh.cast (by first | omega | (simp; try omega)) (by first | rfl | simp [u16v]))) ?_
        rintro v1730 w1731 ⟨E1732, hO1730⟩
        have dj1733 : DJ v1730 v1695 := fun k hk hg => by have q1 := (hO1730.lt k hk).1; have q2 := (hO1695.lt k hg).2; omega
        have E1732 := grown_of_below E1732
        have z_w1731 := E1732.size
        have hra := hra.keep0 E1732
        have hrb := hrb.keep0 E1732
        have hro := hro.keep0 E1732
        have hrm := hrm.keep0 E1732
        have hO1695 := hO1695.keep0 E1732
        have hb := below_step0 hb E1732 hb.size
        have hO1730 := hO1730.mono (base' := w.heap.size) (by omega)
        refine g_true (j := 20) (dj := 56) (b := true) rfl rfl rfl (ev_hit hN rfl) ?_
        refine op_move (ev_base hN rfl s2) ?_
        refine g_true (j := 20) (dj := 56) (b := true) rfl rfl rfl (ev_hit hN rfl) ?_
        refine op_fn (vs := [va, v1730, vo]) ok16 ⟨(ev_hit hN rfl), ⟨(ev_hit hN rfl), ⟨(ev_hit hN rfl), trivial⟩⟩⟩ (oflowsW_ret a (joinL b a) o _ _ _ _ (by first | assumption | omega | (simp only [List.length_append, List.length_cons, List.length_nil, List.length_drop, List.length_take]; omega) | (dsimp only; omega) | decide | (simp [keyV, be8_len]; done)) (by first | assumption | omega | (simp only [List.length_append, List.length_cons, List.length_nil, List.length_drop, List.length_take]; omega) | (dsimp only; omega) | decide | (simp [keyV, be8_len]; done)) (by first | assumption | omega | (simp only [List.length_append, List.length_cons, List.length_nil, List.length_drop, List.length_take]; omega) | (dsimp only; omega) | decide | (simp [keyV, be8_len]; done)) (show RdC w1731 0 w1731.heap.size 1 va a.length (a.map u16v) from by have hh : RdC w1731 0 w1731.heap.size 1 _ _ _ := (hra.mono (L' := 0) (B' := w1731.heap.size) (Nat.zero_le _) (by omega)); first | exact hh | exact hh.cast (by first | omega | (simp; try omega)) (by first | rfl | simp [u16v])) (show RdC w1731 0 w1731.heap.size 1 v1730 (joinL b a).length ((joinL b a).map u16v) from by have hh : RdC w1731 0 w1731.heap.size 1 _ _ _ := (hO1730.rdw.mono (L' := 0) (B' := w1731.heap.size) (Nat.zero_le _) (by omega)); first | exact hh | exact hh.cast (by first | omega | (simp; try omega)) (by first | rfl | simp [u16v])) (show RdC w1731 0 w1731.heap.size 1 vo o.length (o.map u16v) from by have hh : RdC w1731 0 w1731.heap.size 1 _ _ _ := (hro.mono (L' := 0) (B' := w1731.heap.size) (Nat.zero_le _) (by omega)); first | exact hh | exact hh.cast (by first | omega | (simp; try omega)) (by first | rfl | simp [u16v]))) ?_
        rintro _ w1734 ⟨E1735, rfl⟩
        have E1735 := grown_of_below E1735
        have z_w1734 := E1735.size
        have hra := hra.keep0 E1735
        have hrb := hrb.keep0 E1735
        have hro := hro.keep0 E1735
        have hrm := hrm.keep0 E1735
        have hO1695 := hO1695.keep0 E1735
        have hO1730 := hO1730.keep0 E1735
        have hb := below_step0 hb E1735 hb.size
        rcases Bool.eq_false_or_eq_true ((flowsL (minusL a o) (joinL b a))) with c62 | c62
        · -- 62T
         rw [c62]
         refine op_pick_t (ev_hit hN rfl) (ev_hit hN rfl) ?_
         refine op_move (ev_hit hN rfl) ?_
         refine g_true (j := 28) (dj := 64) (b := true) rfl rfl rfl (ev_hit hN rfl) ?_
         refine op_move (ev_base hN rfl s0) ?_
         refine g_true (j := 28) (dj := 64) (b := true) rfl rfl rfl (ev_hit hN rfl) ?_
         refine op_move (ev_base hN rfl s0) ?_
         refine g_true (j := 28) (dj := 64) (b := true) rfl rfl rfl (ev_hit hN rfl) ?_
         refine op_fn (vs := [va, (Value.slice none 0 0), va]) ok16 ⟨(ev_hit hN rfl), ⟨rfl, ⟨(ev_hit hN rfl), trivial⟩⟩⟩ (oflowsW_ret a ([] : Lb) a _ _ _ _ (by first | assumption | omega | (simp only [List.length_append, List.length_cons, List.length_nil, List.length_drop, List.length_take]; omega) | (dsimp only; omega) | decide | (simp [keyV, be8_len]; done)) (by first | assumption | omega | (simp only [List.length_append, List.length_cons, List.length_nil, List.length_drop, List.length_take]; omega) | (dsimp only; omega) | decide | (simp [keyV, be8_len]; done)) (by first | assumption | omega | (simp only [List.length_append, List.length_cons, List.length_nil, List.length_drop, List.length_take]; omega) | (dsimp only; omega) | decide | (simp [keyV, be8_len]; done)) (show RdC w1734 0 w1734.heap.size 1 va a.length (a.map u16v) from by have hh : RdC w1734 0 w1734.heap.size 1 _ _ _ := (hra.mono (L' := 0) (B' := w1734.heap.size) (Nat.zero_le _) (by omega)); first | exact hh | exact hh.cast (by first | omega | (simp; try omega)) (by first | rfl | simp [u16v])) (show RdC w1734 0 w1734.heap.size 1 (Value.slice none 0 0) ([] : Lb).length (([] : Lb).map u16v) from by have hh : RdC w1734 0 w1734.heap.size 1 _ _ _ := ((RdC.nil _ 0 0 1).mono (L' := 0) (B' := w1734.heap.size) (Nat.zero_le _) (by omega)); first | exact hh | exact hh.cast (by first | omega | (simp; try omega)) (by first | rfl | simp [u16v])) (show RdC w1734 0 w1734.heap.size 1 va a.length (a.map u16v) from by have hh : RdC w1734 0 w1734.heap.size 1 _ _ _ := (hra.mono (L' := 0) (B' := w1734.heap.size) (Nat.zero_le _) (by omega)); first | exact hh | exact hh.cast (by first | omega | (simp; try omega)) (by first | rfl | simp [u16v]))) ?_
         rintro _ w1736 ⟨E1737, rfl⟩
         have E1737 := grown_of_below E1737
         have z_w1736 := E1737.size
         have hra := hra.keep0 E1737
         have hrb := hrb.keep0 E1737
         have hro := hro.keep0 E1737
         have hrm := hrm.keep0 E1737
         have hO1695 := hO1695.keep0 E1737
         have hO1730 := hO1730.keep0 E1737
         have hb := below_step0 hb E1737 hb.size
         rcases Bool.eq_false_or_eq_true ((flowsL (minusL a a) ([] : Lb))) with c67 | c67
         · -- 67T
          rw [c67]
          refine op_pick_t (ev_hit hN rfl) (ev_hit hN rfl) ?_
          refine op_move (ev_hit hN rfl) ?_
          refine g_true (j := 33) (dj := 69) (b := true) rfl rfl rfl (ev_hit hN rfl) ?_
          refine op_move (ev_base hN rfl s2) ?_
          refine g_true (j := 33) (dj := 69) (b := true) rfl rfl rfl (ev_hit hN rfl) ?_
          refine op_move (ev_base hN rfl s3) ?_
          refine g_true (j := 33) (dj := 69) (b := true) rfl rfl rfl (ev_hit hN rfl) ?_
          refine op_fn (vs := [vo, vm]) ok14 ⟨(ev_hit hN rfl), ⟨(ev_hit hN rfl), trivial⟩⟩ (omayW_ret o m _ _ _ (by first | assumption | omega | (simp only [List.length_append, List.length_cons, List.length_nil, List.length_drop, List.length_take]; omega) | (dsimp only; omega) | decide | (simp [keyV, be8_len]; done)) (by first | assumption | omega | (simp only [List.length_append, List.length_cons, List.length_nil, List.length_drop, List.length_take]; omega) | (dsimp only; omega) | decide | (simp [keyV, be8_len]; done)) (show RdC w1736 0 w1736.heap.size 1 vo o.length (o.map u16v) from by have hh : RdC w1736 0 w1736.heap.size 1 _ _ _ := (hro.mono (L' := 0) (B' := w1736.heap.size) (Nat.zero_le _) (by omega)); first | exact hh | exact hh.cast (by first | omega | (simp; try omega)) (by first | rfl | simp [u16v])) (show RdC w1736 0 w1736.heap.size 1 vm m.length (m.map u16v) from by have hh : RdC w1736 0 w1736.heap.size 1 _ _ _ := (hrm.mono (L' := 0) (B' := w1736.heap.size) (Nat.zero_le _) (by omega)); first | exact hh | exact hh.cast (by first | omega | (simp; try omega)) (by first | rfl | simp [u16v]))) ?_
          rintro _ w1738 ⟨E1739, rfl⟩
          have E1739 := grown_of_below E1739
          have z_w1738 := E1739.size
          have hra := hra.keep0 E1739
          have hrb := hrb.keep0 E1739
          have hro := hro.keep0 E1739
          have hrm := hrm.keep0 E1739
          have hO1695 := hO1695.keep0 E1739
          have hO1730 := hO1730.keep0 E1739
          have hb := below_step0 hb E1739 hb.size
          refine g_true (j := 33) (dj := 69) (b := true) rfl rfl rfl (ev_hit hN rfl) ?_
          refine op_neq (ev_hit hN rfl) rfl (fun c73 => ?_) (fun c73 => ?_)
          · -- 73T
           refine g_true (j := 33) (dj := 69) (b := true) rfl rfl rfl (ev_hit hN rfl) ?_
           refine op_move (ev_hit hN rfl) ?_
           refine g_false (j := 38) (dj := 74) (b := false) rfl rfl rfl (ev_hit hN rfl) rfl rfl ?_
           refine g_false (j := 38) (dj := 74) (b := false) rfl rfl rfl (ev_hit hN rfl) rfl rfl ?_
           refine g_false (j := 38) (dj := 74) (b := false) rfl rfl rfl (ev_hit hN rfl) rfl rfl ?_
           refine g_false (j := 38) (dj := 74) (b := false) rfl rfl rfl (ev_hit hN rfl) rfl rfl ?_
           refine g_true (j := 33) (dj := 69) (b := true) rfl rfl rfl (ev_hit hN rfl) ?_
           refine op_pick_t (ev_hit hN rfl) rfl ?_
           refine op_pick_t (ev_hit hN rfl) (ev_hit hN rfl) ?_
           refine op_move (ev_hit hN rfl) ?_
           refine g_true (j := 45) (dj := 81) (b := true) rfl rfl rfl (ev_hit hN rfl) ?_
           refine op_move (ev_base hN rfl s2) ?_
           refine g_true (j := 45) (dj := 81) (b := true) rfl rfl rfl (ev_hit hN rfl) ?_
           refine op_fn (vs := [vo, (Value.slice none 0 0)]) ok14 ⟨(ev_hit hN rfl), ⟨rfl, trivial⟩⟩ (omayW_ret o ([] : Lb) _ _ _ (by first | assumption | omega | (simp only [List.length_append, List.length_cons, List.length_nil, List.length_drop, List.length_take]; omega) | (dsimp only; omega) | decide | (simp [keyV, be8_len]; done)) (by first | assumption | omega | (simp only [List.length_append, List.length_cons, List.length_nil, List.length_drop, List.length_take]; omega) | (dsimp only; omega) | decide | (simp [keyV, be8_len]; done)) (show RdC w1738 0 w1738.heap.size 1 vo o.length (o.map u16v) from by have hh : RdC w1738 0 w1738.heap.size 1 _ _ _ := (hro.mono (L' := 0) (B' := w1738.heap.size) (Nat.zero_le _) (by omega)); first | exact hh | exact hh.cast (by first | omega | (simp; try omega)) (by first | rfl | simp [u16v])) (show RdC w1738 0 w1738.heap.size 1 (Value.slice none 0 0) ([] : Lb).length (([] : Lb).map u16v) from by have hh : RdC w1738 0 w1738.heap.size 1 _ _ _ := ((RdC.nil _ 0 0 1).mono (L' := 0) (B' := w1738.heap.size) (Nat.zero_le _) (by omega)); first | exact hh | exact hh.cast (by first | omega | (simp; try omega)) (by first | rfl | simp [u16v]))) ?_
           rintro _ w1740 ⟨E1741, rfl⟩
           have E1741 := grown_of_below E1741
           have z_w1740 := E1741.size
           have hra := hra.keep0 E1741
           have hrb := hrb.keep0 E1741
           have hro := hro.keep0 E1741
           have hrm := hrm.keep0 E1741
           have hO1695 := hO1695.keep0 E1741
           have hO1730 := hO1730.keep0 E1741
           have hb := below_step0 hb E1741 hb.size
           refine g_true (j := 45) (dj := 81) (b := true) rfl rfl rfl (ev_hit hN rfl) ?_
           refine op_eql (ev_hit hN rfl) rfl (fun c84 => ?_) (fun c84 => ?_)
           · -- 84T
            refine op_pick_t (ev_hit hN rfl) (ev_hit hN rfl) ?_
            refine op_assign (ev_hit hN rfl) ?_
            refine reg_nil ?_
            refine hK1701 _ _ ?_
            refine wp_ret ?_
            refine ret1 rfl hd (ev_hit hN rfl) ⟨_, rfl, ?_⟩
            -- path 13T 17T 22T 27T 35F 39F 54T 62T 67T 73T 84T
            exact ⟨hb, rfl⟩
           · -- 84F
            exact absurd own_none c84
          · -- 73F
           refine g_true (j := 33) (dj := 69) (b := true) rfl rfl rfl (ev_hit hN rfl) ?_
           refine op_move (ev_hit hN rfl) ?_
           refine g_true (j := 38) (dj := 74) (b := false) rfl rfl rfl (ev_hit hN rfl) ?_
           refine op_move (ev_hit hN rfl) ?_
           refine g_true (j := 38) (dj := 74) (b := false) rfl rfl rfl (ev_hit hN rfl) ?_
           refine op_move (ev_base hN rfl s3) ?_
           refine g_true (j := 38) (dj := 74) (b := false) rfl rfl rfl (ev_hit hN rfl) ?_
           refine op_fn (vs := [v1695, vm]) ok14 ⟨(ev_hit hN rfl), ⟨(ev_hit hN rfl), trivial⟩⟩ (omayW_ret (joinL o m) m _ _ _ (by first | assumption | omega | (simp only [List.length_append, List.length_cons, List.length_nil, List.length_drop, List.length_take]; omega) | (dsimp only; omega) | decide | (simp [keyV, be8_len]; done)) (by first | assumption | omega | (simp only [List.length_append, List.length_cons, List.length_nil, List.length_drop, List.length_take]; omega) | (dsimp only; omega) | decide | (simp [keyV, be8_len]; done)) (show RdC w1738 0 w1738.heap.size 1 v1695 (joinL o m).length ((joinL o m).map u16v) from by have hh : RdC w1738 0 w1738.heap.size 1 _ _ _ := (hO1695.rdw.mono (L' := 0) (B' := w1738.heap.size) (Nat.zero_le _) (by omega)); first | exact hh | exact hh.cast (by first | omega | (simp; try omega)) (by first | rfl | simp [u16v])) (show RdC w1738 0 w1738.heap.size 1 vm m.length (m.map u16v) from by have hh : RdC w1738 0 w1738.heap.size 1 _ _ _ := (hrm.mono (L' := 0) (B' := w1738.heap.size) (Nat.zero_le _) (by omega)); first | exact hh | exact hh.cast (by first | omega | (simp; try omega)) (by first | rfl | simp [u16v]))) ?_
           rintro _ w1742 ⟨E1743, rfl⟩
           have E1743 := grown_of_below E1743
           have z_w1742 := E1743.size
           have hra := hra.keep0 E1743
           have hrb := hrb.keep0 E1743
           have hro := hro.keep0 E1743
           have hrm := hrm.keep0 E1743
           have hO1695 := hO1695.keep0 E1743
           have hO1730 := hO1730.keep0 E1743
           have hb := below_step0 hb E1743 hb.size
           refine g_true (j := 38) (dj := 74) (b := false) rfl rfl rfl (ev_hit hN rfl) ?_
           refine op_eql (ev_hit hN rfl) rfl (fun c78 => ?_) (fun c78 => ?_)
           · -- 78T
            refine g_true (j := 33) (dj := 69) (b := true) rfl rfl rfl (ev_hit hN rfl) ?_
            refine op_pick_f (ev_hit hN rfl) (ev_hit hN rfl) ?_
            refine op_pick_t (ev_hit hN rfl) (ev_hit hN rfl) ?_
            refine op_move (ev_hit hN rfl) ?_
            refine g_true (j := 45) (dj := 81) (b := true) rfl rfl rfl (ev_hit hN rfl) ?_
            refine op_move (ev_base hN rfl s2) ?_
            refine g_true (j := 45) (dj := 81) (b := true) rfl rfl rfl (ev_hit hN rfl) ?_
            refine op_fn (vs := [vo, (Value.slice none 0 0)]) ok14 ⟨(ev_hit hN rfl), ⟨rfl, trivial⟩⟩ (omayW_ret o ([] : Lb) _ _ _ (by first | assumption | omega | (simp only [List.length_append, List.length_cons, List.length_nil, List.length_drop, List.length_take]; omega) | (dsimp only; omega) | decide | (simp [keyV, be8_len]; done)) (by first | assumption | omega | (simp only [List.length_append, List.length_cons, List.length_nil, List.length_drop, List.length_take]; omega) | (dsimp only; omega) | decide | (simp [keyV, be8_len]; done)) (show RdC w1742 0 w1742.heap.size 1 vo o.length (o.map u16v) from by have hh : RdC w1742 0 w1742.heap.size 1 _ _ _ := (hro.mono (L' := 0) (B' := w1742.heap.size) (Nat.zero_le _) (by omega)); first | exact hh | exact hh.cast (by first | omega | (simp; try omega)) (by first | rfl | simp [u16v])) (show RdC w1742 0 w1742.heap.size 1 (Value.slice none 0 0) ([] : Lb).length (([] : Lb).map u16v) from by have hh : RdC w1742 0 w1742.heap.size 1 _ _ _ := ((RdC.nil _ 0 0 1).mono (L' := 0) (B' := w1742.heap.size) (Nat.zero_le _) (by omega)); first | exact hh | exact hh.cast (by first | omega | (simp; try omega)) (by first | rfl | simp [u16v]))) ?_
            rintro _ w1744 ⟨E1745, rfl⟩
            have E1745 := grown_of_below E1745
            have z_w1744 := E1745.size
            have hra := hra.keep0 E1745
            have hrb := hrb.keep0 E1745
            have hro := hro.keep0 E1745
            have hrm := hrm.keep0 E1745
            have hO1695 := hO1695.keep0 E1745
            have hO1730 := hO1730.keep0 E1745
            have hb := below_step0 hb E1745 hb.size
            refine g_true (j := 45) (dj := 81) (b := true) rfl rfl rfl (ev_hit hN rfl) ?_
            refine op_eql (ev_hit hN rfl) rfl (fun c84 => ?_) (fun c84 => ?_)
            · -- 84T
             refine op_pick_t (ev_hit hN rfl) (ev_hit hN rfl) ?_
             refine op_assign (ev_hit hN rfl) ?_
             refine reg_nil ?_
             refine hK1701 _ _ ?_
             refine wp_ret ?_
             refine ret1 rfl hd (ev_hit hN rfl) ⟨_, rfl, ?_⟩
             -- path 13T 17T 22T 27T 35F 39F 54T 62T 67T 73F 78T 84T
             exact ⟨hb, rfl⟩
            · -- 84F
             exact absurd own_none c84
           · -- 78F
            exact absurd (own_more (by omega)) c78
         · -- 67F
          exact absurd (flows_self) (by rw [c67]; decide)
        · -- 62F
         exact absurd (flows_join) (by rw [c62]; decide)
       · -- 54F
        exact absurd c54 (by rw [flows_none]; simp)
    · -- 27F
     rw [c27]
     refine g_true (j := 13) (dj := 25) (b := false) rfl rfl rfl (ev_hit hN rfl) ?_
     refine op_not (ev_hit hN rfl) ?_
     refine op_pick_f (ev_hit hN rfl) (ev_hit hN rfl) ?_
     refine reg_nil ?_
     refine hK1685 _ _ ?_
     refine wp_cond_true (ev_hit hN rfl) ?_
     refine seq_any fun K1746 hK1746 => ?_
     refine one_reg ?_
     refine op_assign rfl ?_
     refine reg_nil ?_
     refine hK1746 _ _ ?_
     refine wp_ret (then_ret ( ?_))
     refine ret1 rfl hd (ev_hit hN rfl) ⟨_, rfl, ?_⟩
     -- path 13T 17T 22T 27F
     exact ⟨hb, rfl⟩
   · -- 22F
    rw [c22]
    refine g_true (j := 8) (dj := 20) (b := false) rfl rfl rfl (ev_hit hN rfl) ?_
    refine op_not (ev_hit hN rfl) ?_
    refine op_pick_f (ev_hit hN rfl) (ev_hit hN rfl) ?_
    refine op_move (ev_hit hN rfl) ?_
    refine g_false (j := 13) (dj := 25) (b := false) rfl rfl rfl (ev_hit hN rfl) rfl rfl ?_
    refine g_false (j := 13) (dj := 25) (b := false) rfl rfl rfl (ev_hit hN rfl) rfl rfl ?_
    refine g_false (j := 13) (dj := 25) (b := false) rfl rfl rfl (ev_hit hN rfl) rfl rfl ?_
    refine op_pick_t (ev_hit hN rfl) rfl ?_
    refine reg_nil ?_
    refine hK1685 _ _ ?_
    refine wp_cond_true (ev_hit hN rfl) ?_
    refine seq_any fun K1747 hK1747 => ?_
    refine one_reg ?_
    refine op_assign rfl ?_
    refine reg_nil ?_
    refine hK1747 _ _ ?_
    refine wp_ret (then_ret ( ?_))
    refine ret1 rfl hd (ev_hit hN rfl) ⟨_, rfl, ?_⟩
    -- path 13T 17T 22F
    exact ⟨hb, rfl⟩
  · -- 17F
   rw [c17]
   refine g_true (j := 3) (dj := 15) (b := false) rfl rfl rfl (ev_hit hN rfl) ?_
   refine op_not (ev_hit hN rfl) ?_
   refine op_pick_f (ev_hit hN rfl) (ev_hit hN rfl) ?_
   refine op_move (ev_hit hN rfl) ?_
   refine g_false (j := 8) (dj := 20) (b := false) rfl rfl rfl (ev_hit hN rfl) rfl rfl ?_
   refine g_false (j := 8) (dj := 20) (b := false) rfl rfl rfl (ev_hit hN rfl) rfl rfl ?_
   refine g_false (j := 8) (dj := 20) (b := false) rfl rfl rfl (ev_hit hN rfl) rfl rfl ?_
   refine op_pick_t (ev_hit hN rfl) rfl ?_
   refine op_move (ev_hit hN rfl) ?_
   refine g_false (j := 13) (dj := 25) (b := false) rfl rfl rfl (ev_hit hN rfl) rfl rfl ?_
   refine g_false (j := 13) (dj := 25) (b := false) rfl rfl rfl (ev_hit hN rfl) rfl rfl ?_
   refine g_false (j := 13) (dj := 25) (b := false) rfl rfl rfl (ev_hit hN rfl) rfl rfl ?_
   refine op_pick_t (ev_hit hN rfl) rfl ?_
   refine reg_nil ?_
   refine hK1685 _ _ ?_
   refine wp_cond_true (ev_hit hN rfl) ?_
   refine seq_any fun K1748 hK1748 => ?_
   refine one_reg ?_
   refine op_assign rfl ?_
   refine reg_nil ?_
   refine hK1748 _ _ ?_
   refine wp_ret (then_ret ( ?_))
   refine ret1 rfl hd (ev_hit hN rfl) ⟨_, rfl, ?_⟩
   -- path 13T 17F
   exact ⟨hb, rfl⟩
 · -- 13F
  rw [c13]
  refine op_not (ev_hit hN rfl) ?_
  refine op_move (ev_hit hN rfl) ?_
  refine g_false (j := 3) (dj := 15) (b := false) rfl rfl rfl (ev_hit hN rfl) rfl rfl ?_
  refine g_false (j := 3) (dj := 15) (b := false) rfl rfl rfl (ev_hit hN rfl) rfl rfl ?_
  refine g_false (j := 3) (dj := 15) (b := false) rfl rfl rfl (ev_hit hN rfl) rfl rfl ?_
  refine op_pick_t (ev_hit hN rfl) rfl ?_
  refine op_move (ev_hit hN rfl) ?_
  refine g_false (j := 8) (dj := 20) (b := false) rfl rfl rfl (ev_hit hN rfl) rfl rfl ?_
  refine g_false (j := 8) (dj := 20) (b := false) rfl rfl rfl (ev_hit hN rfl) rfl rfl ?_
  refine g_false (j := 8) (dj := 20) (b := false) rfl rfl rfl (ev_hit hN rfl) rfl rfl ?_
  refine op_pick_t (ev_hit hN rfl) rfl ?_
  refine op_move (ev_hit hN rfl) ?_
  refine g_false (j := 13) (dj := 25) (b := false) rfl rfl rfl (ev_hit hN rfl) rfl rfl ?_
  refine g_false (j := 13) (dj := 25) (b := false) rfl rfl rfl (ev_hit hN rfl) rfl rfl ?_
  refine g_false (j := 13) (dj := 25) (b := false) rfl rfl rfl (ev_hit hN rfl) rfl rfl ?_
  refine op_pick_t (ev_hit hN rfl) rfl ?_
  refine reg_nil ?_
  refine hK1685 _ _ ?_
  refine wp_cond_true (ev_hit hN rfl) ?_
  refine seq_any fun K1749 hK1749 => ?_
  refine one_reg ?_
  refine op_assign rfl ?_
  refine reg_nil ?_
  refine hK1749 _ _ ?_
  refine wp_ret (then_ret ( ?_))
  refine ret1 rfl hd (ev_hit hN rfl) ⟨_, rfl, ?_⟩
  -- path 13F
  exact ⟨hb, rfl⟩

theorem OwnStrips_ret (l : Lb) (s : Lb) (vl : Value) (vs : Value) (w : World) (hll : l.length ≤ 9223372036854775807) (hls : s.length ≤ 9223372036854775807) (hrl : RdC w 0 w.heap.size 1 vl l.length (l.map u16v)) (hrs : RdC w 0 w.heap.size 1 vs s.length (s.map u16v)) : Ret Try.prog 5 #[vl, vs] w (fun v' w' => Below w.heap.size w w' ∧ v' = .bool true) := by
 have hb := Below.refl w.heap.size w
 refine enter (N := 53) Try.func5 rfl rfl (by simp) fun a0 hN hd hA => ?_
 have s0 : a0.tmps.getD 0 undef = vl := hA 0 (by simp)
 have s1 : a0.tmps.getD 1 undef = vs := hA 1 (by simp)
 clear hA
 refine seq_any fun K1750 hK1750 => ?_
 refine one_reg ?_
 refine op_assign rfl ?_
 refine reg_nil ?_
 refine hK1750 _ _ ?_
 refine seq_any fun K1751 hK1751 => ?_
 refine seq_any fun K1752 hK1752 => ?_
 refine one_reg ?_
 refine op_fn (vs := []) ok12 trivial (begun2_ret _) ?_
 rintro _ w1753 ⟨E1754, rfl⟩
 have E1754 := grown_of_below E1754
 have z_w1753 := E1754.size
 have hrl := hrl.keep0 E1754
 have hrs := hrs.keep0 E1754
 have hb := below_step0 hb E1754 hb.size
 refine op_not (ev_hit hN rfl) ?_
 refine reg_nil ?_
 refine hK1752 _ _ ?_
 refine wp_cond_false (ev_hit hN rfl) ?_
 refine wp_skip ?_
 refine hK1751 _ _ ?_
 refine seq_any fun K1755 hK1755 => ?_
 refine seq_any fun K1756 hK1756 => ?_
 refine one_reg ?_
 refine op_move (ev_base hN rfl s0) ?_
 refine op_fn (vs := [vl]) ok13 ⟨(ev_hit hN rfl), trivial⟩ (refMay_ret l _ _ (by first | assumption | omega | (simp only [List.length_append, List.length_cons, List.length_nil, List.length_drop, List.length_take]; omega) | (dsimp only; omega) | decide | (simp [keyV, be8_len]; done)) (show RdC w1753 0 w1753.heap.size 1 vl l.length (l.map u16v) from by have hh : RdC w1753 0 w1753.heap.size 1 _ _ _ := (hrl.mono (L' := 0) (B' := w1753.heap.size) (Nat.zero_le _) (by omega)); first | exact hh | exact hh.cast (by first | omega | (simp; try omega)) (by first | rfl | simp [u16v]))) ?_
 rintro _ w1757 ⟨E1758, rfl⟩
 have E1758 := grown_of_below E1758
 have z_w1757 := E1758.size
 have hrl := hrl.keep0 E1758
 have hrs := hrs.keep0 E1758
 have hb := below_step0 hb E1758 hb.size
 rcases Bool.eq_false_or_eq_true ((mayL l)) with c10 | c10
 · -- 10T
  rw [c10]
  refine op_not (ev_hit hN rfl) ?_
  refine op_move (ev_hit hN rfl) ?_
  refine g_true (j := 3) (dj := 12) (b := false) rfl rfl rfl (ev_hit hN rfl) ?_
  refine op_move (ev_base hN rfl s1) ?_
  refine g_true (j := 3) (dj := 12) (b := false) rfl rfl rfl (ev_hit hN rfl) ?_
  refine op_fn (vs := [vs]) ok13 ⟨(ev_hit hN rfl), trivial⟩ (refMay_ret s _ _ (by first | assumption | omega | (simp only [List.length_append, List.length_cons, List.length_nil, List.length_drop, List.length_take]; omega) | (dsimp only; omega) | decide | (simp [keyV, be8_len]; done)) (show RdC w1757 0 w1757.heap.size 1 vs s.length (s.map u16v) from by have hh : RdC w1757 0 w1757.heap.size 1 _ _ _ := (hrs.mono (L' := 0) (B' := w1757.heap.size) (Nat.zero_le _) (by omega)); first | exact hh | exact hh.cast (by first | omega | (simp; try omega)) (by first | rfl | simp [u16v]))) ?_
  rintro _ w1759 ⟨E1760, rfl⟩
  have E1760 := grown_of_below E1760
  have z_w1759 := E1760.size
  have hrl := hrl.keep0 E1760
  have hrs := hrs.keep0 E1760
  have hb := below_step0 hb E1760 hb.size
  rcases Bool.eq_false_or_eq_true ((mayL s)) with c14 | c14
  · -- 14T
   rw [c14]
   refine g_true (j := 3) (dj := 12) (b := false) rfl rfl rfl (ev_hit hN rfl) ?_
   refine op_not (ev_hit hN rfl) ?_
   refine op_pick_f (ev_hit hN rfl) (ev_hit hN rfl) ?_
   refine reg_nil ?_
   refine hK1756 _ _ ?_
   refine wp_cond_false (ev_hit hN rfl) ?_
   refine wp_skip ?_
   refine hK1755 _ _ ?_
   refine seq_any fun K1761 hK1761 => ?_
   refine one_reg ?_
   refine op_move (ev_base hN rfl s0) ?_
   refine op_move (ev_base hN rfl s1) ?_
   have ll := mayL_len c10
   have ls := mayL_len c14
   have lm1 := minus_len l s
   have lm2 := minus_len (minusL l s) s
   have lj := join_len l s
   have lj3 := join_len (minusL l s) s
   have lm3 := meet_len (minusL l s) s
   refine op_fn (vs := [vl, vs]) ok20 ⟨(ev_hit hN rfl), ⟨(ev_hit hN rfl), trivial⟩⟩ (stripW_ret l s _ _ _ (by first | assumption | omega | (simp only [List.length_append, List.length_cons, List.length_nil, List.length_drop, List.length_take]; omega) | (dsimp only; omega) | decide | (simp [keyV, be8_len]; done)) (by first | assumption | omega | (simp only [List.length_append, List.length_cons, List.length_nil, List.length_drop, List.length_take]; omega) | (dsimp only; omega) | decide | (simp [keyV, be8_len]; done)) (show RdC w1759 0 w1759.heap.size 1 vl l.length (l.map u16v) from by have hh : RdC w1759 0 w1759.heap.size 1 _ _ _ := (hrl.mono (L' := 0) (B' := w1759.heap.size) (Nat.zero_le _) (by omega)); first | exact hh | exact hh.cast (by first | omega | (simp; try omega)) (by first | rfl | simp [u16v])) (show RdC w1759 0 w1759.heap.size 1 vs s.length (s.map u16v) from by have hh : RdC w1759 0 w1759.heap.size 1 _ _ _ := (hrs.mono (L' := 0) (B' := w1759.heap.size) (Nat.zero_le _) (by omega)); first | exact hh | exact hh.cast (by first | omega | (simp; try omega)) (by first | rfl | simp [u16v]))) ?_
   rintro v1762 w1763 ⟨E1764, hO1762⟩
   have E1764 := grown_of_below E1764
   have z_w1763 := E1764.size
   have hrl := hrl.keep0 E1764
   have hrs := hrs.keep0 E1764
   have hb := below_step0 hb E1764 hb.size
   have hO1762 := hO1762.mono (base' := w.heap.size) (by omega)
   refine op_assign (ev_hit hN rfl) ?_
   refine reg_nil ?_
   refine hK1761 _ _ ?_
   refine seq_any fun K1765 hK1765 => ?_
   refine one_reg ?_
   refine op_move (ev_hit hN rfl) ?_
   refine op_move (ev_base hN rfl s1) ?_
   refine op_fn (vs := [v1762, vs]) ok20 ⟨(ev_hit hN rfl), ⟨(ev_hit hN rfl), trivial⟩⟩ (stripW_ret (minusL l s) s _ _ _ (by first | assumption | omega | (simp only [List.length_append, List.length_cons, List.length_nil, List.length_drop, List.length_take]; omega) | (dsimp only; omega) | decide | (simp [keyV, be8_len]; done)) (by first | assumption | omega | (simp only [List.length_append, List.length_cons, List.length_nil, List.length_drop, List.length_take]; omega) | (dsimp only; omega) | decide | (simp [keyV, be8_len]; done)) (show RdC w1763 0 w1763.heap.size 1 v1762 (minusL l s).length ((minusL l s).map u16v) from by have hh : RdC w1763 0 w1763.heap.size 1 _ _ _ := (hO1762.rdw.mono (L' := 0) (B' := w1763.heap.size) (Nat.zero_le _) (by omega)); first | exact hh | exact hh.cast (by first | omega | (simp; try omega)) (by first | rfl | simp [u16v])) (show RdC w1763 0 w1763.heap.size 1 vs s.length (s.map u16v) from by have hh : RdC w1763 0 w1763.heap.size 1 _ _ _ := (hrs.mono (L' := 0) (B' := w1763.heap.size) (Nat.zero_le _) (by omega)); first | exact hh | exact hh.cast (by first | omega | (simp; try omega)) (by first | rfl | simp [u16v]))) ?_
   rintro v1766 w1767 ⟨E1768, hO1766⟩
   have dj1769 : DJ v1766 v1762 := fun k hk hg => by have q1 := (hO1766.lt k hk).1; have q2 := (hO1762.lt k hg).2; omega
   have E1768 := grown_of_below E1768
   have z_w1767 := E1768.size
   have hrl := hrl.keep0 E1768
   have hrs := hrs.keep0 E1768
   have hO1762 := hO1762.keep0 E1768
   have hb := below_step0 hb E1768 hb.size
   have hO1766 := hO1766.mono (base' := w.heap.size) (by omega)
   refine op_assign (ev_hit hN rfl) ?_
   refine reg_nil ?_
   refine hK1765 _ _ ?_
   refine seq_any fun K1770 hK1770 => ?_
   refine one_reg ?_
   refine op_move (ev_hit hN rfl) ?_
   refine op_move (ev_hit hN rfl) ?_
   refine op_fn (vs := [v1762, v1766]) ok19 ⟨(ev_hit hN rfl), ⟨(ev_hit hN rfl), trivial⟩⟩ (sameL_ret (minusL l s) (minusL (minusL l s) s) _ _ _ (by first | assumption | omega | (simp only [List.length_append, List.length_cons, List.length_nil, List.length_drop, List.length_take]; omega) | (dsimp only; omega) | decide | (simp [keyV, be8_len]; done)) (by first | assumption | omega | (simp only [List.length_append, List.length_cons, List.length_nil, List.length_drop, List.length_take]; omega) | (dsimp only; omega) | decide | (simp [keyV, be8_len]; done)) (show RdC w1767 0 w1767.heap.size 1 v1762 (minusL l s).length ((minusL l s).map u16v) from by have hh : RdC w1767 0 w1767.heap.size 1 _ _ _ := (hO1762.rdw.mono (L' := 0) (B' := w1767.heap.size) (Nat.zero_le _) (by omega)); first | exact hh | exact hh.cast (by first | omega | (simp; try omega)) (by first | rfl | simp [u16v])) (show RdC w1767 0 w1767.heap.size 1 v1766 (minusL (minusL l s) s).length ((minusL (minusL l s) s).map u16v) from by have hh : RdC w1767 0 w1767.heap.size 1 _ _ _ := (hO1766.rdw.mono (L' := 0) (B' := w1767.heap.size) (Nat.zero_le _) (by omega)); first | exact hh | exact hh.cast (by first | omega | (simp; try omega)) (by first | rfl | simp [u16v]))) ?_
   rintro _ w1771 ⟨E1772, rfl⟩
   have E1772 := grown_of_below E1772
   have z_w1771 := E1772.size
   have hrl := hrl.keep0 E1772
   have hrs := hrs.keep0 E1772
   have hO1762 := hO1762.keep0 E1772
   have hO1766 := hO1766.keep0 E1772
   have hb := below_step0 hb E1772 hb.size
   rcases Bool.eq_false_or_eq_true ((decide ((minusL l s) = (minusL (minusL l s) s)))) with c25 | c25
   · -- 25T
    rw [c25]
    refine op_move (ev_hit hN rfl) ?_
    refine g_true (j := 3) (dj := 26) (b := true) rfl rfl rfl (ev_hit hN rfl) ?_
    refine op_move (ev_hit hN rfl) ?_
    refine g_true (j := 3) (dj := 26) (b := true) rfl rfl rfl (ev_hit hN rfl) ?_
    refine op_move (ev_base hN rfl s0) ?_
    refine g_true (j := 3) (dj := 26) (b := true) rfl rfl rfl (ev_hit hN rfl) ?_
    refine op_fn (vs := [v1762, vl]) ok17 ⟨(ev_hit hN rfl), ⟨(ev_hit hN rfl), trivial⟩⟩ (rflowsW_ret (minusL l s) l _ _ _ (by first | assumption | omega | (simp only [List.length_append, List.length_cons, List.length_nil, List.length_drop, List.length_take]; omega) | (dsimp only; omega) | decide | (simp [keyV, be8_len]; done)) (by first | assumption | omega | (simp only [List.length_append, List.length_cons, List.length_nil, List.length_drop, List.length_take]; omega) | (dsimp only; omega) | decide | (simp [keyV, be8_len]; done)) (show RdC w1771 0 w1771.heap.size 1 v1762 (minusL l s).length ((minusL l s).map u16v) from by have hh : RdC w1771 0 w1771.heap.size 1 _ _ _ := (hO1762.rdw.mono (L' := 0) (B' := w1771.heap.size) (Nat.zero_le _) (by omega)); first | exact hh | exact hh.cast (by first | omega | (simp; try omega)) (by first | rfl | simp [u16v])) (show RdC w1771 0 w1771.heap.size 1 vl l.length (l.map u16v) from by have hh : RdC w1771 0 w1771.heap.size 1 _ _ _ := (hrl.mono (L' := 0) (B' := w1771.heap.size) (Nat.zero_le _) (by omega)); first | exact hh | exact hh.cast (by first | omega | (simp; try omega)) (by first | rfl | simp [u16v]))) ?_
    rintro _ w1773 ⟨E1774, rfl⟩
    have E1774 := grown_of_below E1774
    have z_w1773 := E1774.size
    have hrl := hrl.keep0 E1774
    have hrs := hrs.keep0 E1774
    have hO1762 := hO1762.keep0 E1774
    have hO1766 := hO1766.keep0 E1774
    have hb := below_step0 hb E1774 hb.size
    rcases Bool.eq_false_or_eq_true ((flowsL (minusL l s) l)) with c29 | c29
    · -- 29T
     rw [c29]
     refine op_pick_t (ev_hit hN rfl) (ev_hit hN rfl) ?_
     refine op_move (ev_hit hN rfl) ?_
     refine g_true (j := 8) (dj := 31) (b := true) rfl rfl rfl (ev_hit hN rfl) ?_
     refine op_move (ev_hit hN rfl) ?_
     refine g_true (j := 8) (dj := 31) (b := true) rfl rfl rfl (ev_hit hN rfl) ?_
     refine op_move (ev_base hN rfl s1) ?_
     refine g_true (j := 8) (dj := 31) (b := true) rfl rfl rfl (ev_hit hN rfl) ?_
     refine op_fn (vs := [v1762, vs]) ok22 ⟨(ev_hit hN rfl), ⟨(ev_hit hN rfl), trivial⟩⟩ (rmeetW_ret (minusL l s) s _ _ _ (by first | assumption | omega | (simp only [List.length_append, List.length_cons, List.length_nil, List.length_drop, List.length_take]; omega) | (dsimp only; omega) | decide | (simp [keyV, be8_len]; done)) (by first | assumption | omega | (simp only [List.length_append, List.length_cons, List.length_nil, List.length_drop, List.length_take]; omega) | (dsimp only; omega) | decide | (simp [keyV, be8_len]; done)) (show RdC w1773 0 w1773.heap.size 1 v1762 (minusL l s).length ((minusL l s).map u16v) from by have hh : RdC w1773 0 w1773.heap.size 1 _ _ _ := (hO1762.rdw.mono (L' := 0) (B' := w1773.heap.size) (Nat.zero_le _) (by omega)); first | exact hh | exact hh.cast (by first | omega | (simp; try omega)) (by first | rfl | simp [u16v])) (show RdC w1773 0 w1773.heap.size 1 vs s.length (s.map u16v) from by have hh : RdC w1773 0 w1773.heap.size 1 _ _ _ := (hrs.mono (L' := 0) (B' := w1773.heap.size) (Nat.zero_le _) (by omega)); first | exact hh | exact hh.cast (by first | omega | (simp; try omega)) (by first | rfl | simp [u16v]))) ?_
     rintro v1775 w1776 ⟨E1777, hO1775⟩
     have dj1778 : DJ v1775 v1762 := fun k hk hg => by have q1 := (hO1775.lt k hk).1; have q2 := (hO1762.lt k hg).2; omega
     have dj1779 : DJ v1775 v1766 := fun k hk hg => by have q1 := (hO1775.lt k hk).1; have q2 := (hO1766.lt k hg).2; omega
     have E1777 := grown_of_below E1777
     have z_w1776 := E1777.size
     have hrl := hrl.keep0 E1777
     have hrs := hrs.keep0 E1777
     have hO1762 := hO1762.keep0 E1777
     have hO1766 := hO1766.keep0 E1777
     have hb := below_step0 hb E1777 hb.size
     have hO1775 := hO1775.mono (base' := w.heap.size) (by omega)
     refine g_true (j := 8) (dj := 31) (b := true) rfl rfl rfl (ev_hit hN rfl) ?_
     refine op_len_rd Try.underlying23 (ev_hit hN rfl) hO1775.rdw ?_
     refine g_true (j := 8) (dj := 31) (b := true) rfl rfl rfl (ev_hit hN rfl) ?_
     refine op_eql (ev_hit hN rfl) rfl (fun c36 => ?_) (fun c36 => ?_)
     · -- 36T
      refine op_pick_t (ev_hit hN rfl) (ev_hit hN rfl) ?_
      refine op_move (ev_hit hN rfl) ?_
      refine g_true (j := 15) (dj := 38) (b := true) rfl rfl rfl (ev_hit hN rfl) ?_
      refine op_move (ev_hit hN rfl) ?_
      refine g_true (j := 15) (dj := 38) (b := true) rfl rfl rfl (ev_hit hN rfl) ?_
      refine op_move (ev_base hN rfl s1) ?_
      refine g_true (j := 15) (dj := 38) (b := true) rfl rfl rfl (ev_hit hN rfl) ?_
      refine op_fn (vs := [v1762, vs]) ok21 ⟨(ev_hit hN rfl), ⟨(ev_hit hN rfl), trivial⟩⟩ (rjoinW_ret (minusL l s) s _ _ _ (by first | assumption | omega | (simp only [List.length_append, List.length_cons, List.length_nil, List.length_drop, List.length_take]; omega) | (dsimp only; omega) | decide | (simp [keyV, be8_len]; done)) (by first | assumption | omega | (simp only [List.length_append, List.length_cons, List.length_nil, List.length_drop, List.length_take]; omega) | (dsimp only; omega) | decide | (simp [keyV, be8_len]; done)) (show RdC w1776 0 w1776.heap.size 1 v1762 (minusL l s).length ((minusL l s).map u16v) from by have hh : RdC w1776 0 w1776.heap.size 1 _ _ _ := (hO1762.rdw.mono (L' := 0) (B' := w1776.heap.size) (Nat.zero_le _) (by omega)); first | exact hh | exact hh.cast (by first | omega | (simp; try omega)) (by first | rfl | simp [u16v])) (show RdC w1776 0 w1776.heap.size 1 vs s.length (s.map u16v) from by have hh : RdC w1776 0 w1776.heap.size 1 _ _ _ := (hrs.mono (L' := 0) (B' := w1776.heap.size) (Nat.zero_le _) (by omega)); first | exact hh | exact hh.cast (by first | omega | (simp; try omega)) (by first | rfl | simp [u16v]))) ?_
      rintro v1780 w1781 ⟨E1782, hO1780⟩
      have dj1783 : DJ v1780 v1762 := fun k hk hg => by have q1 := (hO1780.lt k hk).1; have q2 := (hO1762.lt k hg).2; omega
      have dj1784 : DJ v1780 v1766 := fun k hk hg => by have q1 := (hO1780.lt k hk).1; have q2 := (hO1766.lt k hg).2; omega
      have dj1785 : DJ v1780 v1775 := fun k hk hg => by have q1 := (hO1780.lt k hk).1; have q2 := (hO1775.lt k hg).2; omega
      have E1782 := grown_of_below E1782
      have z_w1781 := E1782.size
      have hrl := hrl.keep0 E1782
      have hrs := hrs.keep0 E1782
      have hO1762 := hO1762.keep0 E1782
      have hO1766 := hO1766.keep0 E1782
      have hO1775 := hO1775.keep0 E1782
      have hb := below_step0 hb E1782 hb.size
      have hO1780 := hO1780.mono (base' := w.heap.size) (by omega)
      refine g_true (j := 15) (dj := 38) (b := true) rfl rfl rfl (ev_hit hN rfl) ?_
      refine op_move (ev_base hN rfl s0) ?_
      refine g_true (j := 15) (dj := 38) (b := true) rfl rfl rfl (ev_hit hN rfl) ?_
      refine op_move (ev_base hN rfl s1) ?_
      refine g_true (j := 15) (dj := 38) (b := true) rfl rfl rfl (ev_hit hN rfl) ?_
      refine op_fn (vs := [vl, vs]) ok21 ⟨(ev_hit hN rfl), ⟨(ev_hit hN rfl), trivial⟩⟩ (rjoinW_ret l s _ _ _ (by first | assumption | omega | (simp only [List.length_append, List.length_cons, List.length_nil, List.length_drop, List.length_take]; omega) | (dsimp only; omega) | decide | (simp [keyV, be8_len]; done)) (by first | assumption | omega | (simp only [List.length_append, List.length_cons, List.length_nil, List.length_drop, List.length_take]; omega) | (dsimp only; omega) | decide | (simp [keyV, be8_len]; done)) (show RdC w1781 0 w1781.heap.size 1 vl l.length (l.map u16v) from by have hh : RdC w1781 0 w1781.heap.size 1 _ _ _ := (hrl.mono (L' := 0) (B' := w1781.heap.size) (Nat.zero_le _) (by omega)); first | exact hh | exact hh.cast (by first | omega | (simp; try omega)) (by first | rfl | simp [u16v])) (show RdC w1781 0 w1781.heap.size 1 vs s.length (s.map u16v) from by have hh : RdC w1781 0 w1781.heap.size 1 _ _ _ := (hrs.mono (L' := 0) (B' := w1781.heap.size) (Nat.zero_le _) (by omega)); first | exact hh | exact hh.cast (by first | omega | (simp; try omega)) (by first | rfl | simp [u16v]))) ?_
      rintro v1786 w1787 ⟨E1788, hO1786⟩
      have dj1789 : DJ v1786 v1762 := fun k hk hg => by have q1 := (hO1786.lt k hk).1; have q2 := (hO1762.lt k hg).2; omega
      have dj1790 : DJ v1786 v1766 := fun k hk hg => by have q1 := (hO1786.lt k hk).1; have q2 := (hO1766.lt k hg).2; omega
      have dj1791 : DJ v1786 v1775 := fun k hk hg => by have q1 := (hO1786.lt k hk).1; have q2 := (hO1775.lt k hg).2; omega
      have dj1792 : DJ v1786 v1780 := fun k hk hg => by have q1 := (hO1786.lt k hk).1; have q2 := (hO1780.lt k hg).2; omega
      have E1788 := grown_of_below E1788
      have z_w1787 := E1788.size
      have hrl := hrl.keep0 E1788
      have hrs := hrs.keep0 E1788
      have hO1762 := hO1762.keep0 E1788
      have hO1766 := hO1766.keep0 E1788
      have hO1775 := hO1775.keep0 E1788
      have hO1780 := hO1780.keep0 E1788
      have hb := below_step0 hb E1788 hb.size
      have hO1786 := hO1786.mono (base' := w.heap.size) (by omega)
      refine g_true (j := 15) (dj := 38) (b := true) rfl rfl rfl (ev_hit hN rfl) ?_
      refine op_fn (vs := [v1780, v1786]) ok19 ⟨(ev_hit hN rfl), ⟨(ev_hit hN rfl), trivial⟩⟩ (sameL_ret (joinL (minusL l s) s) (joinL l s) _ _ _ (by first | assumption | omega | (simp only [List.length_append, List.length_cons, List.length_nil, List.length_drop, List.length_take]; omega) | (dsimp only; omega) | decide | (simp [keyV, be8_len]; done)) (by first | assumption | omega | (simp only [List.length_append, List.length_cons, List.length_nil, List.length_drop, List.length_take]; omega) | (dsimp only; omega) | decide | (simp [keyV, be8_len]; done)) (show RdC w1787 0 w1787.heap.size 1 v1780 (joinL (minusL l s) s).length ((joinL (minusL l s) s).map u16v) from by have hh : RdC w1787 0 w1787.heap.size 1 _ _ _ := (hO1780.rdw.mono (L' := 0) (B' := w1787.heap.size) (Nat.zero_le _) (by omega)); first | exact hh | exact hh.cast (by first | omega | (simp; try omega)) (by first | rfl | simp [u16v])) (show RdC w1787 0 w1787.heap.size 1 v1786 (joinL l s).length ((joinL l s).map u16v) from by have hh : RdC w1787 0 w1787.heap.size 1 _ _ _ := (hO1786.rdw.mono (L' := 0) (B' := w1787.heap.size) (Nat.zero_le _) (by omega)); first | exact hh | exact hh.cast (by first | omega | (simp; try omega)) (by first | rfl | simp [u16v]))) ?_
      rintro _ w1793 ⟨E1794, rfl⟩
      have E1794 := grown_of_below E1794
      have z_w1793 := E1794.size
      have hrl := hrl.keep0 E1794
      have hrs := hrs.keep0 E1794
      have hO1762 := hO1762.keep0 E1794
      have hO1766 := hO1766.keep0 E1794
      have hO1775 := hO1775.keep0 E1794
      have hO1780 := hO1780.keep0 E1794
      have hO1786 := hO1786.keep0 E1794
      have hb := below_step0 hb E1794 hb.size
      rcases Bool.eq_false_or_eq_true ((decide ((joinL (minusL l s) s) = (joinL l s)))) with c45 | c45
      · -- 45T
       rw [c45]
       refine op_pick_t (ev_hit hN rfl) (ev_hit hN rfl) ?_
       refine op_move (ev_hit hN rfl) ?_
       refine g_true (j := 24) (dj := 47) (b := true) rfl rfl rfl (ev_hit hN rfl) ?_
       refine op_move (ev_base hN rfl s0) ?_
       refine g_true (j := 24) (dj := 47) (b := true) rfl rfl rfl (ev_hit hN rfl) ?_
       refine op_move (ev_hit hN rfl) ?_
       refine g_true (j := 24) (dj := 47) (b := true) rfl rfl rfl (ev_hit hN rfl) ?_
       refine op_move (ev_base hN rfl s1) ?_
       refine g_true (j := 24) (dj := 47) (b := true) rfl rfl rfl (ev_hit hN rfl) ?_
       refine op_fn (vs := [vl, v1762, vs]) ok16 ⟨(ev_hit hN rfl), ⟨(ev_hit hN rfl), ⟨(ev_hit hN rfl), trivial⟩⟩⟩ (oflowsW_ret l (minusL l s) s _ _ _ _ (by first | assumption | omega | (simp only [List.length_append, List.length_cons, List.length_nil, List.length_drop, List.length_take]; omega) | (dsimp only; omega) | decide | (simp [keyV, be8_len]; done)) (by first | assumption | omega | (simp only [List.length_append, List.length_cons, List.length_nil, List.length_drop, List.length_take]; omega) | (dsimp only; omega) | decide | (simp [keyV, be8_len]; done)) (by first | assumption | omega | (simp only [List.length_append, List.length_cons, List.length_nil, List.length_drop, List.length_take]; omega) | (dsimp only; omega) | decide | (simp [keyV, be8_len]; done)) (show RdC w1793 0 w1793.heap.size 1 vl l.length (l.map u16v) from by have hh : RdC w1793 0 w1793.heap.size 1 _ _ _ := (hrl.mono (L' := 0) (B' := w1793.heap.size) (Nat.zero_le _) (by omega)); first | exact hh | exact hh.cast (by first | omega | (simp; try omega)) (by first | rfl | simp [u16v])) (show RdC w1793 0 w1793.heap.size 1 v1762 (minusL l s).length ((minusL l s).map u16v) from by have hh : RdC w1793 0 w1793.heap.size 1 _ _ _ := (hO1762.rdw.mono (L' := 0) (B' := w1793.heap.size) (Nat.zero_le _) (by omega)); first | exact hh | exact hh.cast (by first | omega | (simp; try omega)) (by first | rfl | simp [u16v])) (show RdC w1793 0 w1793.heap.size 1 vs s.length (s.map u16v) from by have hh : RdC w1793 0 w1793.heap.size 1 _ _ _ := (hrs.mono (L' := 0) (B' := w1793.heap.size) (Nat.zero_le _) (by omega)); first | exact hh | exact hh.cast (by first | omega | (simp; try omega)) (by first | rfl | simp [u16v]))) ?_
       rintro _ w1795 ⟨E1796, rfl⟩
       have E1796 := grown_of_below E1796
       have z_w1795 := E1796.size
       have hrl := hrl.keep0 E1796
       have hrs := hrs.keep0 E1796
       have hO1762 := hO1762.keep0 E1796
       have hO1766 := hO1766.keep0 E1796
       have hO1775 := hO1775.keep0 E1796
       have hO1780 := hO1780.keep0 E1796
       have hO1786 := hO1786.keep0 E1796
       have hb := below_step0 hb E1796 hb.size
       rcases Bool.eq_false_or_eq_true ((flowsL (minusL l s) (minusL l s))) with c51 | c51
       · -- 51T
        rw [c51]
        refine op_pick_t (ev_hit hN rfl) (ev_hit hN rfl) ?_
        refine op_assign (ev_hit hN rfl) ?_
        refine reg_nil ?_
        refine hK1770 _ _ ?_
        refine wp_ret ?_
        refine ret1 rfl hd (ev_hit hN rfl) ⟨_, rfl, ?_⟩
        -- path 10T 14T 25T 29T 36T 45T 51T
        exact ⟨hb, rfl⟩
       · -- 51F
        exact absurd (flows_refl) (by rw [c51]; decide)
      · -- 45F
       exact absurd c45 (by simp [join_minus])
     · -- 36F
      exact absurd (by rw [meet_minus]; rfl) c36
    · -- 29F
     exact absurd (flows_minus_l) (by rw [c29]; decide)
   · -- 25F
    exact absurd c25 (by simp [minus_twice])
  · -- 14F
   rw [c14]
   refine g_true (j := 3) (dj := 12) (b := false) rfl rfl rfl (ev_hit hN rfl) ?_
   refine op_not (ev_hit hN rfl) ?_
   refine op_pick_f (ev_hit hN rfl) (ev_hit hN rfl) ?_
   refine reg_nil ?_
   refine hK1756 _ _ ?_
   refine wp_cond_true (ev_hit hN rfl) ?_
   refine seq_any fun K1797 hK1797 => ?_
   refine one_reg ?_
   refine op_assign rfl ?_
   refine reg_nil ?_
   refine hK1797 _ _ ?_
   refine wp_ret (then_ret ( ?_))
   refine ret1 rfl hd (ev_hit hN rfl) ⟨_, rfl, ?_⟩
   -- path 10T 14F
   exact ⟨hb, rfl⟩
 · -- 10F
  rw [c10]
  refine op_not (ev_hit hN rfl) ?_
  refine op_move (ev_hit hN rfl) ?_
  refine g_false (j := 3) (dj := 12) (b := false) rfl rfl rfl (ev_hit hN rfl) rfl rfl ?_
  refine g_false (j := 3) (dj := 12) (b := false) rfl rfl rfl (ev_hit hN rfl) rfl rfl ?_
  refine g_false (j := 3) (dj := 12) (b := false) rfl rfl rfl (ev_hit hN rfl) rfl rfl ?_
  refine op_pick_t (ev_hit hN rfl) rfl ?_
  refine reg_nil ?_
  refine hK1756 _ _ ?_
  refine wp_cond_true (ev_hit hN rfl) ?_
  refine seq_any fun K1798 hK1798 => ?_
  refine one_reg ?_
  refine op_assign rfl ?_
  refine reg_nil ?_
  refine hK1798 _ _ ?_
  refine wp_ret (then_ret ( ?_))
  refine ret1 rfl hd (ev_hit hN rfl) ⟨_, rfl, ?_⟩
  -- path 10F
  exact ⟨hb, rfl⟩

end Go.Proofs.Ytpmnljffdofkeaa
