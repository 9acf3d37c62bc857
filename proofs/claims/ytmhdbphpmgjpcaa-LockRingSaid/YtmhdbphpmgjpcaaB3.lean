/- Walks, written by a program: what each function of the translation hands back. -/
import Derived.Test.YtmhdbphpmgjpcaaB2
namespace Go.Proofs.Ytmhdbphpmgjpcaa
open Go.Gx Go.RowKit
attribute [local irreducible] wpList wpStill Code.wp Calls

theorem at_hit {k m p : Nat} {es : List (Int × Nat)} (n : Int) {w : World} (hk : Bx w k 121 [.map (some m)]) (hM : MapC (Value.int .i64) pv w m es) (hg : mget es n = some p) : Ret Try.prog 95 #[(ptr k 0), (Value.int .i64 n)] w (fun v' w' => v' = .tuple #[ptr p 0, .int .i64 0] ∧ w' = w) := by
 have hb := Below.refl w.heap.size w
 refine enter (N := 22) Try.func95 rfl rfl (by simp) fun a0 hN hd hA => ?_
 have s0 : a0.tmps.getD 0 undef = (ptr k 0) := hA 0 (by simp)
 have s1 : a0.tmps.getD 1 undef = (Value.int .i64 n) := hA 1 (by simp)
 clear hA
 refine seq_any fun K1 hK1 => ?_
 refine one_reg ?_
 refine op_assign rfl ?_
 refine op_assign rfl ?_
 refine reg_nil ?_
 refine hK1 _ _ ?_
 refine seq_any fun K2 hK2 => ?_
 refine seq_any fun K3 hK3 => ?_
 refine one_reg ?_
 refine op_move (ev_base hN rfl s0) ?_
 refine op_peq_some ptrt93 (ev_hit hN rfl) rfl ?_
 refine reg_nil ?_
 refine hK3 _ _ ?_
 refine wp_cond_false (ev_hit hN rfl) ?_
 refine wp_skip ?_
 refine hK2 _ _ ?_
 refine seq_any fun K4 hK4 => ?_
 refine one_reg ?_
 refine op_move (ev_base hN rfl s0) ?_
 refine op_nil (ev_hit hN rfl) ?_
 refine op_field fld121_0 (ev_hit hN rfl) ?_
 refine op_load1 (v := (Value.map (some m))) one119 (ev_hit hN rfl) (hk.cell rfl) ?_
 refine op_move (ev_base hN rfl s1) ?_
 refine op_look2_hit (k := n) (v := p) Try.underlying119 (Go.Gx.key_int Try.underlying3) zero155 (ev_hit hN rfl) (ev_hit hN rfl) hM hg ?_
 refine op_move (ev_hit hN rfl) ?_
 refine op_extract (ev_hit hN rfl) rfl ?_
 refine op_extract (ev_hit hN rfl) rfl ?_
 refine op_assign (ev_hit hN rfl) ?_
 refine op_assign (ev_hit hN rfl) ?_
 refine reg_nil ?_
 refine hK4 _ _ ?_
 refine seq_any fun K5 hK5 => ?_
 refine seq_any fun K6 hK6 => ?_
 refine one_reg ?_
 refine op_move (ev_hit hN rfl) ?_
 refine op_not (ev_hit hN rfl) ?_
 refine reg_nil ?_
 refine hK6 _ _ ?_
 refine wp_cond_false (ev_hit hN rfl) ?_
 refine wp_skip ?_
 refine hK5 _ _ ?_
 refine seq_any fun K7 hK7 => ?_
 refine one_reg ?_
 refine op_move (ev_hit hN rfl) ?_
 refine op_assign (ev_hit hN rfl) ?_
 refine op_assign rfl ?_
 refine reg_nil ?_
 refine hK7 _ _ ?_
 refine wp_ret ?_
 refine ret2 rfl hd (ev_hit hN rfl) (ev_hit hN rfl) ⟨_, rfl, ?_⟩
 -- path
 exact ⟨rfl, rfl⟩

theorem at_miss {k m : Nat} {es : List (Int × Nat)} (n : Int) {w : World} (hk : Bx w k 121 [.map (some m)]) (hM : MapC (Value.int .i64) pv w m es) (hg : mget es n = none) : Ret Try.prog 95 #[(ptr k 0), (Value.int .i64 n)] w (fun v' w' => v' = .tuple #[.pointer none, .int .i64 18] ∧ w' = w) := by
 have hb := Below.refl w.heap.size w
 refine enter (N := 22) Try.func95 rfl rfl (by simp) fun a0 hN hd hA => ?_
 have s0 : a0.tmps.getD 0 undef = (ptr k 0) := hA 0 (by simp)
 have s1 : a0.tmps.getD 1 undef = (Value.int .i64 n) := hA 1 (by simp)
 clear hA
 refine seq_any fun K8 hK8 => ?_
 refine one_reg ?_
 refine op_assign rfl ?_
 refine op_assign rfl ?_
 refine reg_nil ?_
 refine hK8 _ _ ?_
 refine seq_any fun K9 hK9 => ?_
 refine seq_any fun K10 hK10 => ?_
 refine one_reg ?_
 refine op_move (ev_base hN rfl s0) ?_
 refine op_peq_some ptrt93 (ev_hit hN rfl) rfl ?_
 refine reg_nil ?_
 refine hK10 _ _ ?_
 refine wp_cond_false (ev_hit hN rfl) ?_
 refine wp_skip ?_
 refine hK9 _ _ ?_
 refine seq_any fun K11 hK11 => ?_
 refine one_reg ?_
 refine op_move (ev_base hN rfl s0) ?_
 refine op_nil (ev_hit hN rfl) ?_
 refine op_field fld121_0 (ev_hit hN rfl) ?_
 refine op_load1 (v := (Value.map (some m))) one119 (ev_hit hN rfl) (hk.cell rfl) ?_
 refine op_move (ev_base hN rfl s1) ?_
 refine op_look2_miss (k := n) Try.underlying119 (Go.Gx.key_int Try.underlying3) zero155 (ev_hit hN rfl) (ev_hit hN rfl) hM hg ?_
 refine op_move (ev_hit hN rfl) ?_
 refine op_extract (ev_hit hN rfl) rfl ?_
 refine op_extract (ev_hit hN rfl) rfl ?_
 refine op_assign (ev_hit hN rfl) ?_
 refine op_assign (ev_hit hN rfl) ?_
 refine reg_nil ?_
 refine hK11 _ _ ?_
 refine seq_any fun K12 hK12 => ?_
 refine seq_any fun K13 hK13 => ?_
 refine one_reg ?_
 refine op_move (ev_hit hN rfl) ?_
 refine op_not (ev_hit hN rfl) ?_
 refine reg_nil ?_
 refine hK13 _ _ ?_
 refine wp_cond_true (ev_hit hN rfl) ?_
 refine seq_any fun K14 hK14 => ?_
 refine one_reg ?_
 refine op_assign rfl ?_
 refine op_assign rfl ?_
 refine reg_nil ?_
 refine hK14 _ _ ?_
 refine wp_ret (then_ret ( ?_))
 refine ret2 rfl hd (ev_hit hN rfl) (ev_hit hN rfl) ⟨_, rfl, ?_⟩
 -- path
 exact ⟨rfl, rfl⟩

theorem at_nomap {k : Nat} (n : Int) {w : World} (hk : Bx w k 121 [.map none]) : Ret Try.prog 95 #[(ptr k 0), (Value.int .i64 n)] w (fun v' w' => v' = .tuple #[.pointer none, .int .i64 18] ∧ w' = w) := by
 have hb := Below.refl w.heap.size w
 refine enter (N := 22) Try.func95 rfl rfl (by simp) fun a0 hN hd hA => ?_
 have s0 : a0.tmps.getD 0 undef = (ptr k 0) := hA 0 (by simp)
 have s1 : a0.tmps.getD 1 undef = (Value.int .i64 n) := hA 1 (by simp)
 clear hA
 refine seq_any fun K15 hK15 => ?_
 refine one_reg ?_
 refine op_assign rfl ?_
 refine op_assign rfl ?_
 refine reg_nil ?_
 refine hK15 _ _ ?_
 refine seq_any fun K16 hK16 => ?_
 refine seq_any fun K17 hK17 => ?_
 refine one_reg ?_
 refine op_move (ev_base hN rfl s0) ?_
 refine op_peq_some ptrt93 (ev_hit hN rfl) rfl ?_
 refine reg_nil ?_
 refine hK17 _ _ ?_
 refine wp_cond_false (ev_hit hN rfl) ?_
 refine wp_skip ?_
 refine hK16 _ _ ?_
 refine seq_any fun K18 hK18 => ?_
 refine one_reg ?_
 refine op_move (ev_base hN rfl s0) ?_
 refine op_nil (ev_hit hN rfl) ?_
 refine op_field fld121_0 (ev_hit hN rfl) ?_
 refine op_load1 (v := (Value.map none)) one119 (ev_hit hN rfl) (hk.cell rfl) ?_
 refine op_move (ev_base hN rfl s1) ?_
 refine op_look2_nil (k := n) Try.underlying119 (Go.Gx.key_int Try.underlying3) zero155 (ev_hit hN rfl) (ev_hit hN rfl) ?_
 refine op_move (ev_hit hN rfl) ?_
 refine op_extract (ev_hit hN rfl) rfl ?_
 refine op_extract (ev_hit hN rfl) rfl ?_
 refine op_assign (ev_hit hN rfl) ?_
 refine op_assign (ev_hit hN rfl) ?_
 refine reg_nil ?_
 refine hK18 _ _ ?_
 refine seq_any fun K19 hK19 => ?_
 refine seq_any fun K20 hK20 => ?_
 refine one_reg ?_
 refine op_move (ev_hit hN rfl) ?_
 refine op_not (ev_hit hN rfl) ?_
 refine reg_nil ?_
 refine hK20 _ _ ?_
 refine wp_cond_true (ev_hit hN rfl) ?_
 refine seq_any fun K21 hK21 => ?_
 refine one_reg ?_
 refine op_assign rfl ?_
 refine op_assign rfl ?_
 refine reg_nil ?_
 refine hK21 _ _ ?_
 refine wp_ret (then_ret ( ?_))
 refine ret2 rfl hd (ev_hit hN rfl) (ev_hit hN rfl) ⟨_, rfl, ?_⟩
 -- path
 exact ⟨rfl, rfl⟩

theorem Leave_miss {n : Int} {k m : Nat} {es : List (Int × Nat)} {w : World} (hk : Bx w k 121 [.map (some m)]) (hM : MapC (Value.int .i64) pv w m es) (hg : mget es n = none)  : Ret Try.prog 57 #[(ptr k 0), (Value.int .i64 n)] w (fun v' w' => Below w.heap.size w w' ∧ v' = .int .i64 18) := by
 have hb := Below.refl w.heap.size w
 refine enter (N := 21) Try.func57 rfl rfl (by simp) fun a0 hN hd hA => ?_
 have s0 : a0.tmps.getD 0 undef = (ptr k 0) := hA 0 (by simp)
 have s1 : a0.tmps.getD 1 undef = (Value.int .i64 n) := hA 1 (by simp)
 clear hA
 refine seq_any fun K26 hK26 => ?_
 refine one_reg ?_
 refine op_assign rfl ?_
 refine reg_nil ?_
 refine hK26 _ _ ?_
 refine seq_any fun K27 hK27 => ?_
 refine one_reg ?_
 refine op_move (ev_base hN rfl s0) ?_
 refine op_move (ev_base hN rfl s1) ?_
 refine op_fn (vs := [(ptr k 0), (Value.int .i64 n)]) ok95 ⟨(ev_hit hN rfl), ⟨(ev_hit hN rfl), trivial⟩⟩ (Ret.flip (at_miss n hk hM hg)) ?_
 rintro _ _ ⟨rfl, rfl⟩
 refine op_move (ev_hit hN rfl) ?_
 refine op_extract (ev_hit hN rfl) rfl ?_
 refine op_extract (ev_hit hN rfl) rfl ?_
 refine op_assign (ev_hit hN rfl) ?_
 refine op_assign (ev_hit hN rfl) ?_
 refine reg_nil ?_
 refine hK27 _ _ ?_
 refine seq_any fun K28 hK28 => ?_
 refine seq_any fun K29 hK29 => ?_
 refine one_reg ?_
 refine op_move (ev_hit hN rfl) ?_
 refine op_bin (v := .bool false) (ev_hit hN rfl) rfl (by rw [binOp_eql]; rfl) ?_
 refine reg_nil ?_
 refine hK29 _ _ ?_
 refine wp_cond_false (ev_hit hN rfl) ?_
 refine wp_skip ?_
 refine hK28 _ _ ?_
 refine seq_any fun K30 hK30 => ?_
 refine one_reg ?_
 refine op_move (ev_hit hN rfl) ?_
 refine op_assign (ev_hit hN rfl) ?_
 refine reg_nil ?_
 refine hK30 _ _ ?_
 refine wp_ret ?_
 refine ret1 rfl hd (ev_hit hN rfl) ⟨_, rfl, ?_⟩
 -- path
 exact ⟨hb, rfl⟩

theorem Doomed_miss {n : Int} {k m : Nat} {es : List (Int × Nat)} {w : World} (hk : Bx w k 121 [.map (some m)]) (hM : MapC (Value.int .i64) pv w m es) (hg : mget es n = none)  : Ret Try.prog 62 #[(ptr k 0), (Value.int .i64 n)] w (fun v' w' => Below w.heap.size w w' ∧ v' = .bool false) := by
 have hb := Below.refl w.heap.size w
 refine enter (N := 21) Try.func62 rfl rfl (by simp) fun a0 hN hd hA => ?_
 have s0 : a0.tmps.getD 0 undef = (ptr k 0) := hA 0 (by simp)
 have s1 : a0.tmps.getD 1 undef = (Value.int .i64 n) := hA 1 (by simp)
 clear hA
 refine seq_any fun K31 hK31 => ?_
 refine one_reg ?_
 refine op_assign rfl ?_
 refine reg_nil ?_
 refine hK31 _ _ ?_
 refine seq_any fun K32 hK32 => ?_
 refine one_reg ?_
 refine op_move (ev_base hN rfl s0) ?_
 refine op_move (ev_base hN rfl s1) ?_
 refine op_fn (vs := [(ptr k 0), (Value.int .i64 n)]) ok95 ⟨(ev_hit hN rfl), ⟨(ev_hit hN rfl), trivial⟩⟩ (Ret.flip (at_miss n hk hM hg)) ?_
 rintro _ _ ⟨rfl, rfl⟩
 refine op_move (ev_hit hN rfl) ?_
 refine op_extract (ev_hit hN rfl) rfl ?_
 refine op_extract (ev_hit hN rfl) rfl ?_
 refine op_assign (ev_hit hN rfl) ?_
 refine op_assign (ev_hit hN rfl) ?_
 refine reg_nil ?_
 refine hK32 _ _ ?_
 refine seq_any fun K33 hK33 => ?_
 refine one_reg ?_
 refine op_move (ev_hit hN rfl) ?_
 refine op_bin (v := .bool false) (ev_hit hN rfl) rfl (by rw [binOp_eql]; rfl) ?_
 refine op_move (ev_hit hN rfl) ?_
 refine g_false (j := 2) (dj := 15) (b := true) rfl rfl rfl (ev_hit hN rfl) rfl rfl ?_
 refine g_false (j := 2) (dj := 15) (b := true) rfl rfl rfl (ev_hit hN rfl) rfl rfl ?_
 refine g_false (j := 2) (dj := 15) (b := true) rfl rfl rfl (ev_hit hN rfl) rfl rfl ?_
 refine g_false (j := 2) (dj := 15) (b := true) rfl rfl rfl (ev_hit hN rfl) rfl rfl ?_
 refine op_pick_f (ev_hit hN rfl) rfl ?_
 refine op_assign (ev_hit hN rfl) ?_
 refine reg_nil ?_
 refine hK33 _ _ ?_
 refine wp_ret ?_
 refine ret1 rfl hd (ev_hit hN rfl) ⟨_, rfl, ?_⟩
 -- path
 exact ⟨hb, rfl⟩

theorem Wrote_miss {n : Int} {k m : Nat} {es : List (Int × Nat)} {w : World} (hk : Bx w k 121 [.map (some m)]) (hM : MapC (Value.int .i64) pv w m es) (hg : mget es n = none)  : Ret Try.prog 70 #[(ptr k 0), (Value.int .i64 n)] w (fun v' w' => Below w.heap.size w w' ∧ v' = .slice none 0 0) := by
 have hb := Below.refl w.heap.size w
 refine enter (N := 21) Try.func70 rfl rfl (by simp) fun a0 hN hd hA => ?_
 have s0 : a0.tmps.getD 0 undef = (ptr k 0) := hA 0 (by simp)
 have s1 : a0.tmps.getD 1 undef = (Value.int .i64 n) := hA 1 (by simp)
 clear hA
 refine seq_any fun K34 hK34 => ?_
 refine one_reg ?_
 refine op_assign rfl ?_
 refine reg_nil ?_
 refine hK34 _ _ ?_
 refine seq_any fun K35 hK35 => ?_
 refine one_reg ?_
 refine op_move (ev_base hN rfl s0) ?_
 refine op_move (ev_base hN rfl s1) ?_
 refine op_fn (vs := [(ptr k 0), (Value.int .i64 n)]) ok95 ⟨(ev_hit hN rfl), ⟨(ev_hit hN rfl), trivial⟩⟩ (Ret.flip (at_miss n hk hM hg)) ?_
 rintro _ _ ⟨rfl, rfl⟩
 refine op_move (ev_hit hN rfl) ?_
 refine op_extract (ev_hit hN rfl) rfl ?_
 refine op_extract (ev_hit hN rfl) rfl ?_
 refine op_assign (ev_hit hN rfl) ?_
 refine op_assign (ev_hit hN rfl) ?_
 refine reg_nil ?_
 refine hK35 _ _ ?_
 refine seq_any fun K36 hK36 => ?_
 refine seq_any fun K37 hK37 => ?_
 refine one_reg ?_
 refine op_move (ev_hit hN rfl) ?_
 refine op_bin (v := .bool true) (ev_hit hN rfl) rfl (by rw [binOp_neq]; rfl) ?_
 refine reg_nil ?_
 refine hK37 _ _ ?_
 refine wp_cond_true (ev_hit hN rfl) ?_
 refine seq_any fun K38 hK38 => ?_
 refine one_reg ?_
 refine op_assign rfl ?_
 refine reg_nil ?_
 refine hK38 _ _ ?_
 refine wp_ret (then_ret ( ?_))
 refine ret1 rfl hd (ev_hit hN rfl) ⟨_, rfl, ?_⟩
 -- path
 exact ⟨hb, rfl⟩

theorem Leave_nomap {n : Int} {k : Nat} {w : World} (hk : Bx w k 121 [.map none])  : Ret Try.prog 57 #[(ptr k 0), (Value.int .i64 n)] w (fun v' w' => Below w.heap.size w w' ∧ v' = .int .i64 18) := by
 have hb := Below.refl w.heap.size w
 refine enter (N := 21) Try.func57 rfl rfl (by simp) fun a0 hN hd hA => ?_
 have s0 : a0.tmps.getD 0 undef = (ptr k 0) := hA 0 (by simp)
 have s1 : a0.tmps.getD 1 undef = (Value.int .i64 n) := hA 1 (by simp)
 clear hA
 refine seq_any fun K44 hK44 => ?_
 refine one_reg ?_
 refine op_assign rfl ?_
 refine reg_nil ?_
 refine hK44 _ _ ?_
 refine seq_any fun K45 hK45 => ?_
 refine one_reg ?_
 refine op_move (ev_base hN rfl s0) ?_
 refine op_move (ev_base hN rfl s1) ?_
 refine op_fn (vs := [(ptr k 0), (Value.int .i64 n)]) ok95 ⟨(ev_hit hN rfl), ⟨(ev_hit hN rfl), trivial⟩⟩ (Ret.flip (at_nomap n hk)) ?_
 rintro _ _ ⟨rfl, rfl⟩
 refine op_move (ev_hit hN rfl) ?_
 refine op_extract (ev_hit hN rfl) rfl ?_
 refine op_extract (ev_hit hN rfl) rfl ?_
 refine op_assign (ev_hit hN rfl) ?_
 refine op_assign (ev_hit hN rfl) ?_
 refine reg_nil ?_
 refine hK45 _ _ ?_
 refine seq_any fun K46 hK46 => ?_
 refine seq_any fun K47 hK47 => ?_
 refine one_reg ?_
 refine op_move (ev_hit hN rfl) ?_
 refine op_bin (v := .bool false) (ev_hit hN rfl) rfl (by rw [binOp_eql]; rfl) ?_
 refine reg_nil ?_
 refine hK47 _ _ ?_
 refine wp_cond_false (ev_hit hN rfl) ?_
 refine wp_skip ?_
 refine hK46 _ _ ?_
 refine seq_any fun K48 hK48 => ?_
 refine one_reg ?_
 refine op_move (ev_hit hN rfl) ?_
 refine op_assign (ev_hit hN rfl) ?_
 refine reg_nil ?_
 refine hK48 _ _ ?_
 refine wp_ret ?_
 refine ret1 rfl hd (ev_hit hN rfl) ⟨_, rfl, ?_⟩
 -- path
 exact ⟨hb, rfl⟩

theorem Doomed_nomap {n : Int} {k : Nat} {w : World} (hk : Bx w k 121 [.map none])  : Ret Try.prog 62 #[(ptr k 0), (Value.int .i64 n)] w (fun v' w' => Below w.heap.size w w' ∧ v' = .bool false) := by
 have hb := Below.refl w.heap.size w
 refine enter (N := 21) Try.func62 rfl rfl (by simp) fun a0 hN hd hA => ?_
 have s0 : a0.tmps.getD 0 undef = (ptr k 0) := hA 0 (by simp)
 have s1 : a0.tmps.getD 1 undef = (Value.int .i64 n) := hA 1 (by simp)
 clear hA
 refine seq_any fun K49 hK49 => ?_
 refine one_reg ?_
 refine op_assign rfl ?_
 refine reg_nil ?_
 refine hK49 _ _ ?_
 refine seq_any fun K50 hK50 => ?_
 refine one_reg ?_
 refine op_move (ev_base hN rfl s0) ?_
 refine op_move (ev_base hN rfl s1) ?_
 refine op_fn (vs := [(ptr k 0), (Value.int .i64 n)]) ok95 ⟨(ev_hit hN rfl), ⟨(ev_hit hN rfl), trivial⟩⟩ (Ret.flip (at_nomap n hk)) ?_
 rintro _ _ ⟨rfl, rfl⟩
 refine op_move (ev_hit hN rfl) ?_
 refine op_extract (ev_hit hN rfl) rfl ?_
 refine op_extract (ev_hit hN rfl) rfl ?_
 refine op_assign (ev_hit hN rfl) ?_
 refine op_assign (ev_hit hN rfl) ?_
 refine reg_nil ?_
 refine hK50 _ _ ?_
 refine seq_any fun K51 hK51 => ?_
 refine one_reg ?_
 refine op_move (ev_hit hN rfl) ?_
 refine op_bin (v := .bool false) (ev_hit hN rfl) rfl (by rw [binOp_eql]; rfl) ?_
 refine op_move (ev_hit hN rfl) ?_
 refine g_false (j := 2) (dj := 15) (b := true) rfl rfl rfl (ev_hit hN rfl) rfl rfl ?_
 refine g_false (j := 2) (dj := 15) (b := true) rfl rfl rfl (ev_hit hN rfl) rfl rfl ?_
 refine g_false (j := 2) (dj := 15) (b := true) rfl rfl rfl (ev_hit hN rfl) rfl rfl ?_
 refine g_false (j := 2) (dj := 15) (b := true) rfl rfl rfl (ev_hit hN rfl) rfl rfl ?_
 refine op_pick_f (ev_hit hN rfl) rfl ?_
 refine op_assign (ev_hit hN rfl) ?_
 refine reg_nil ?_
 refine hK51 _ _ ?_
 refine wp_ret ?_
 refine ret1 rfl hd (ev_hit hN rfl) ⟨_, rfl, ?_⟩
 -- path
 exact ⟨hb, rfl⟩

theorem Wrote_nomap {n : Int} {k : Nat} {w : World} (hk : Bx w k 121 [.map none])  : Ret Try.prog 70 #[(ptr k 0), (Value.int .i64 n)] w (fun v' w' => Below w.heap.size w w' ∧ v' = .slice none 0 0) := by
 have hb := Below.refl w.heap.size w
 refine enter (N := 21) Try.func70 rfl rfl (by simp) fun a0 hN hd hA => ?_
 have s0 : a0.tmps.getD 0 undef = (ptr k 0) := hA 0 (by simp)
 have s1 : a0.tmps.getD 1 undef = (Value.int .i64 n) := hA 1 (by simp)
 clear hA
 refine seq_any fun K52 hK52 => ?_
 refine one_reg ?_
 refine op_assign rfl ?_
 refine reg_nil ?_
 refine hK52 _ _ ?_
 refine seq_any fun K53 hK53 => ?_
 refine one_reg ?_
 refine op_move (ev_base hN rfl s0) ?_
 refine op_move (ev_base hN rfl s1) ?_
 refine op_fn (vs := [(ptr k 0), (Value.int .i64 n)]) ok95 ⟨(ev_hit hN rfl), ⟨(ev_hit hN rfl), trivial⟩⟩ (Ret.flip (at_nomap n hk)) ?_
 rintro _ _ ⟨rfl, rfl⟩
 refine op_move (ev_hit hN rfl) ?_
 refine op_extract (ev_hit hN rfl) rfl ?_
 refine op_extract (ev_hit hN rfl) rfl ?_
 refine op_assign (ev_hit hN rfl) ?_
 refine op_assign (ev_hit hN rfl) ?_
 refine reg_nil ?_
 refine hK53 _ _ ?_
 refine seq_any fun K54 hK54 => ?_
 refine seq_any fun K55 hK55 => ?_
 refine one_reg ?_
 refine op_move (ev_hit hN rfl) ?_
 refine op_bin (v := .bool true) (ev_hit hN rfl) rfl (by rw [binOp_neq]; rfl) ?_
 refine reg_nil ?_
 refine hK55 _ _ ?_
 refine wp_cond_true (ev_hit hN rfl) ?_
 refine seq_any fun K56 hK56 => ?_
 refine one_reg ?_
 refine op_assign rfl ?_
 refine reg_nil ?_
 refine hK56 _ _ ?_
 refine wp_ret (then_ret ( ?_))
 refine ret1 rfl hd (ev_hit hN rfl) ⟨_, rfl, ?_⟩
 -- path
 exact ⟨hb, rfl⟩

end Go.Proofs.Ytmhdbphpmgjpcaa

/- Walks, written by a program: what each function of the translation hands back. -/
namespace Go.Proofs.Ytmhdbphpmgjpcaa
open Go.Gx Go.RowKit
attribute [local irreducible] wpList wpStill Code.wp Calls

theorem Leave_hit {n : Int} {k m p : Nat} {es : List (Int × Nat)} {w : World} (hk : Bx w k 121 [.map (some m)]) (hM : MapC (Value.int .i64) pv w m es) (hg : mget es n = some p)  : Ret Try.prog 57 #[(ptr k 0), (Value.int .i64 n)] w (fun v' w' => w.grownBy w' (some m) ∧ v' = .int .i64 0 ∧ MapC (Value.int .i64) pv w' m (mdel es n)) := by
 have hi_m := hM.lt
 have hb := grown_refl w (some m)
 refine enter (N := 21) Try.func57 rfl rfl (by simp) fun a0 hN hd hA => ?_
 have s0 : a0.tmps.getD 0 undef = (ptr k 0) := hA 0 (by simp)
 have s1 : a0.tmps.getD 1 undef = (Value.int .i64 n) := hA 1 (by simp)
 clear hA
 refine seq_any fun K1 hK1 => ?_
 refine one_reg ?_
 refine op_assign rfl ?_
 refine reg_nil ?_
 refine hK1 _ _ ?_
 refine seq_any fun K2 hK2 => ?_
 refine one_reg ?_
 refine op_move (ev_base hN rfl s0) ?_
 refine op_move (ev_base hN rfl s1) ?_
 refine op_fn (vs := [(ptr k 0), (Value.int .i64 n)]) ok95 ⟨(ev_hit hN rfl), ⟨(ev_hit hN rfl), trivial⟩⟩ (Ret.flip (at_hit n hk hM hg)) ?_
 rintro _ _ ⟨rfl, rfl⟩
 refine op_move (ev_hit hN rfl) ?_
 refine op_extract (ev_hit hN rfl) rfl ?_
 refine op_extract (ev_hit hN rfl) rfl ?_
 refine op_assign (ev_hit hN rfl) ?_
 refine op_assign (ev_hit hN rfl) ?_
 refine reg_nil ?_
 refine hK2 _ _ ?_
 refine seq_any fun K3 hK3 => ?_
 refine seq_any fun K4 hK4 => ?_
 refine one_reg ?_
 refine op_move (ev_hit hN rfl) ?_
 refine op_bin (v := .bool true) (ev_hit hN rfl) rfl (by rw [binOp_eql]; rfl) ?_
 refine reg_nil ?_
 refine hK4 _ _ ?_
 refine wp_cond_true (ev_hit hN rfl) ?_
 refine one_reg ?_
 refine op_move (ev_base hN rfl s0) ?_
 refine op_nil (ev_hit hN rfl) ?_
 refine op_field fld121_0 (ev_hit hN rfl) ?_
 refine op_load1 (v := (Value.map (some m))) one119 (ev_hit hN rfl) (hk.cell rfl) ?_
 refine op_move (ev_base hN rfl s1) ?_
 have hM_old := hM
 refine op_mapdel0 (k := n) Try.underlying119 (Go.Gx.key_int Try.underlying3) (ev_hit hN rfl) (ev_hit hN rfl) hM ?_
 intro w5 hM7 E6
 have z_w5 := E6.size
 have hk := hk.keepM hM_old E6
 have hb := grown_trans hb E6
 refine reg_nil ?_
 refine hK3 _ _ ?_
 refine seq_any fun K8 hK8 => ?_
 refine one_reg ?_
 refine op_move (ev_hit hN rfl) ?_
 refine op_assign (ev_hit hN rfl) ?_
 refine reg_nil ?_
 refine hK8 _ _ ?_
 refine wp_ret ?_
 refine ret1 rfl hd (ev_hit hN rfl) ⟨_, rfl, ?_⟩
 -- path
 exact ⟨hb, rfl, hM7⟩

theorem Doomed_hit {base : Nat} {la rv wv : Value} {lab : List UInt16} {stp : Int} {D : List RD} {Wr : List (List UInt8)} {dm : Bool} {n : Int} {k m p : Nat} {es : List (Int × Nat)} {w : World} (hk : Bx w k 121 [.map (some m)]) (hM : MapC (Value.int .i64) pv w m es) (hg : mget es n = some p) (hx : Bx w p 164 [la, .int .u64 stp, rv, wv, .bool dm]) : Ret Try.prog 62 #[(ptr k 0), (Value.int .i64 n)] w (fun v' w' => Below w.heap.size w w' ∧ v' = .bool dm) := by
 have hb := Below.refl w.heap.size w
 refine enter (N := 21) Try.func62 rfl rfl (by simp) fun a0 hN hd hA => ?_
 have s0 : a0.tmps.getD 0 undef = (ptr k 0) := hA 0 (by simp)
 have s1 : a0.tmps.getD 1 undef = (Value.int .i64 n) := hA 1 (by simp)
 clear hA
 refine seq_any fun K9 hK9 => ?_
 refine one_reg ?_
 refine op_assign rfl ?_
 refine reg_nil ?_
 refine hK9 _ _ ?_
 refine seq_any fun K10 hK10 => ?_
 refine one_reg ?_
 refine op_move (ev_base hN rfl s0) ?_
 refine op_move (ev_base hN rfl s1) ?_
 refine op_fn (vs := [(ptr k 0), (Value.int .i64 n)]) ok95 ⟨(ev_hit hN rfl), ⟨(ev_hit hN rfl), trivial⟩⟩ (Ret.flip (at_hit n hk hM hg)) ?_
 rintro _ _ ⟨rfl, rfl⟩
 refine op_move (ev_hit hN rfl) ?_
 refine op_extract (ev_hit hN rfl) rfl ?_
 refine op_extract (ev_hit hN rfl) rfl ?_
 refine op_assign (ev_hit hN rfl) ?_
 refine op_assign (ev_hit hN rfl) ?_
 refine reg_nil ?_
 refine hK10 _ _ ?_
 refine seq_any fun K11 hK11 => ?_
 refine one_reg ?_
 refine op_move (ev_hit hN rfl) ?_
 refine op_bin (v := .bool true) (ev_hit hN rfl) rfl (by rw [binOp_eql]; rfl) ?_
 refine op_move (ev_hit hN rfl) ?_
 refine g_true (j := 2) (dj := 15) (b := true) rfl rfl rfl (ev_hit hN rfl) ?_
 refine op_move (ev_hit hN rfl) ?_
 refine g_true (j := 2) (dj := 15) (b := true) rfl rfl rfl (ev_hit hN rfl) ?_
 refine op_nil (ev_hit hN rfl) ?_
 refine g_true (j := 2) (dj := 15) (b := true) rfl rfl rfl (ev_hit hN rfl) ?_
 refine op_field fld164_4 (ev_hit hN rfl) ?_
 refine g_true (j := 2) (dj := 15) (b := true) rfl rfl rfl (ev_hit hN rfl) ?_
 refine op_load1 (v := (Value.bool dm)) one4 (ev_hit hN rfl) (hx.cell rfl) ?_
 refine op_pick_t (ev_hit hN rfl) (ev_hit hN rfl) ?_
 refine op_assign (ev_hit hN rfl) ?_
 refine reg_nil ?_
 refine hK11 _ _ ?_
 refine wp_ret ?_
 refine ret1 rfl hd (ev_hit hN rfl) ⟨_, rfl, ?_⟩
 -- path
 exact ⟨hb, rfl⟩

theorem Wrote_hit {base : Nat} {la rv wv : Value} {lab : List UInt16} {stp : Int} {D : List RD} {Wr : List (List UInt8)} {dm : Bool} {n : Int} {k m p : Nat} {es : List (Int × Nat)} {w : World} (hk : Bx w k 121 [.map (some m)]) (hM : MapC (Value.int .i64) pv w m es) (hg : mget es n = some p) (hbase : base ≤ w.heap.size) (hx : Bx w p 164 [la, .int .u64 stp, rv, wv, .bool dm]) (hW : Own w base 9 1 wv Wr.length (Wr.map sv)) (hn9 : Wr.length ≤ 100000) : Ret Try.prog 70 #[(ptr k 0), (Value.int .i64 n)] w (fun v' w' => Below w.heap.size w w' ∧ Own w' w.heap.size 9 1 v' Wr.length (Wr.map sv)) := by
 have hb := Below.refl w.heap.size w
 refine enter (N := 21) Try.func70 rfl rfl (by simp) fun a0 hN hd hA => ?_
 have s0 : a0.tmps.getD 0 undef = (ptr k 0) := hA 0 (by simp)
 have s1 : a0.tmps.getD 1 undef = (Value.int .i64 n) := hA 1 (by simp)
 clear hA
 refine seq_any fun K12 hK12 => ?_
 refine one_reg ?_
 refine op_assign rfl ?_
 refine reg_nil ?_
 refine hK12 _ _ ?_
 refine seq_any fun K13 hK13 => ?_
 refine one_reg ?_
 refine op_move (ev_base hN rfl s0) ?_
 refine op_move (ev_base hN rfl s1) ?_
 refine op_fn (vs := [(ptr k 0), (Value.int .i64 n)]) ok95 ⟨(ev_hit hN rfl), ⟨(ev_hit hN rfl), trivial⟩⟩ (Ret.flip (at_hit n hk hM hg)) ?_
 rintro _ _ ⟨rfl, rfl⟩
 refine op_move (ev_hit hN rfl) ?_
 refine op_extract (ev_hit hN rfl) rfl ?_
 refine op_extract (ev_hit hN rfl) rfl ?_
 refine op_assign (ev_hit hN rfl) ?_
 refine op_assign (ev_hit hN rfl) ?_
 refine reg_nil ?_
 refine hK13 _ _ ?_
 refine seq_any fun K14 hK14 => ?_
 refine seq_any fun K15 hK15 => ?_
 refine one_reg ?_
 refine op_move (ev_hit hN rfl) ?_
 refine op_bin (v := .bool false) (ev_hit hN rfl) rfl (by rw [binOp_neq]; rfl) ?_
 refine reg_nil ?_
 refine hK15 _ _ ?_
 refine wp_cond_false (ev_hit hN rfl) ?_
 refine wp_skip ?_
 refine hK14 _ _ ?_
 refine seq_any fun K16 hK16 => ?_
 refine one_reg ?_
 refine op_move (ev_hit hN rfl) ?_
 refine op_nil (ev_hit hN rfl) ?_
 refine op_field fld164_3 (ev_hit hN rfl) ?_
 refine op_field fld162_0 (ev_hit hN rfl) ?_
 refine op_load1 (v := wv) one26 (ev_hit hN rfl) (hx.cell rfl) ?_
 refine op_fn (vs := [wv]) ok72 ⟨(ev_hit hN rfl), trivial⟩ (Clone_s Wr _ _ (by omega) (hW.rdw.mono (Nat.zero_le _) (by omega))) ?_
 rintro v17 w18 ⟨E19, hO17⟩
 have dj20 : DJ v17 wv := fun k hk hg => by have q1 := (hO17.lt k hk).1; have q2 := (hW.lt k hg).2; omega
 have E19 := grown_of_below E19
 have z_w18 := E19.size
 have hk := hk.keep0 E19
 have hM := hM.keep0 E19
 have hx := hx.keep0 E19
 have hW := hW.keep0 E19
 have hb := below_step0 hb E19 hb.size
 have hO17 := hO17.mono (base' := w.heap.size) (by omega)
 refine op_assign (ev_hit hN rfl) ?_
 refine reg_nil ?_
 refine hK16 _ _ ?_
 refine wp_ret ?_
 refine ret1 rfl hd (ev_hit hN rfl) ⟨_, rfl, ?_⟩
 -- path
 exact ⟨hb, hO17⟩

theorem Enter_hit {lv : Value} {s : Int} {l : List UInt16} {n : Int} {k m p : Nat} {es : List (Int × Nat)} {w : World} (hk : Bx w k 121 [.map (some m)]) (hM : MapC (Value.int .i64) pv w m es) (hg : mget es n = some p)  : Ret Try.prog 54 #[(ptr k 0), (Value.int .i64 n), lv, (Value.int .u64 s)] w (fun v' w' => Below w.heap.size w w' ∧ v' = .int .i64 18) := by
 have hb := Below.refl w.heap.size w
 refine enter (N := 42) Try.func54 rfl rfl (by simp) fun a0 hN hd hA => ?_
 have s0 : a0.tmps.getD 0 undef = (ptr k 0) := hA 0 (by simp)
 have s1 : a0.tmps.getD 1 undef = (Value.int .i64 n) := hA 1 (by simp)
 have s2 : a0.tmps.getD 2 undef = lv := hA 2 (by simp)
 have s3 : a0.tmps.getD 3 undef = (Value.int .u64 s) := hA 3 (by simp)
 clear hA
 refine seq_any fun K46 hK46 => ?_
 refine one_reg ?_
 refine op_assign rfl ?_
 refine reg_nil ?_
 refine hK46 _ _ ?_
 refine seq_any fun K47 hK47 => ?_
 refine one_reg ?_
 refine op_move (ev_base hN rfl s0) ?_
 refine op_move (ev_base hN rfl s1) ?_
 refine op_fn (vs := [(ptr k 0), (Value.int .i64 n)]) ok95 ⟨(ev_hit hN rfl), ⟨(ev_hit hN rfl), trivial⟩⟩ (Ret.flip (at_hit n hk hM hg)) ?_
 rintro _ _ ⟨rfl, rfl⟩
 refine op_move (ev_hit hN rfl) ?_
 refine op_extract (ev_hit hN rfl) rfl ?_
 refine op_extract (ev_hit hN rfl) rfl ?_
 refine op_assign (ev_hit hN rfl) ?_
 refine op_assign (ev_hit hN rfl) ?_
 refine reg_nil ?_
 refine hK47 _ _ ?_
 refine seq_any fun K48 hK48 => ?_
 refine seq_any fun K49 hK49 => ?_
 refine one_reg ?_
 refine op_move (ev_hit hN rfl) ?_
 refine reg_nil ?_
 refine hK49 _ _ ?_
 refine wp_block ?_
 refine seq_any fun K50 hK50 => ?_
 refine one_reg ?_
 refine op_bin (v := .bool false) (ev_hit hN rfl) rfl (by rw [binOp_eql]; rfl) ?_
 refine op_assign (ev_hit hN rfl) ?_
 refine reg_nil ?_
 refine hK50 _ _ ?_
 refine wp_cond_false (ev_hit hN rfl) ?_
 refine seq_any fun K51 hK51 => ?_
 refine one_reg ?_
 refine op_bin (v := .bool true) (ev_hit hN rfl) rfl (by rw [binOp_eql]; rfl) ?_
 refine op_assign (ev_hit hN rfl) ?_
 refine reg_nil ?_
 refine hK51 _ _ ?_
 refine wp_cond_true (ev_hit hN rfl) ?_
 refine seq_any fun K52 hK52 => ?_
 refine one_reg ?_
 refine op_assign rfl ?_
 refine reg_nil ?_
 refine hK52 _ _ ?_
 refine wp_ret (blk_ret (then_ret ( ?_)))
 refine ret1 rfl hd (ev_hit hN rfl) ⟨_, rfl, ?_⟩
 -- path
 exact ⟨hb, rfl⟩

theorem Enter_miss {lv : Value} {s : Int} {l : List UInt16} {n : Int} {k m : Nat} {es : List (Int × Nat)} {w : World} (hk : Bx w k 121 [.map (some m)]) (hM : MapC (Value.int .i64) pv w m es) (hg : mget es n = none) (hl : RdC w 0 w.heap.size 1 lv l.length (l.map u16v)) (hl8 : l.length ≤ 100) : Ret Try.prog 54 #[(ptr k 0), (Value.int .i64 n), lv, (Value.int .u64 s)] w (fun v' w' => w.grownBy w' (some m) ∧ v' = .int .i64 0 ∧ ∃ q nv, w.heap.size ≤ q ∧ Bx w' q 164 [nv, .int .u64 s, .slice none 0 0, .slice none 0 0, .bool false] ∧ Own w' w.heap.size 46 1 nv l.length (l.map u16v) ∧ MapC (Value.int .i64) pv w' m (mput es n q)) := by
 have hi_m := hM.lt
 have hb := grown_refl w (some m)
 refine enter (N := 42) Try.func54 rfl rfl (by simp) fun a0 hN hd hA => ?_
 have s0 : a0.tmps.getD 0 undef = (ptr k 0) := hA 0 (by simp)
 have s1 : a0.tmps.getD 1 undef = (Value.int .i64 n) := hA 1 (by simp)
 have s2 : a0.tmps.getD 2 undef = lv := hA 2 (by simp)
 have s3 : a0.tmps.getD 3 undef = (Value.int .u64 s) := hA 3 (by simp)
 clear hA
 refine seq_any fun K53 hK53 => ?_
 refine one_reg ?_
 refine op_assign rfl ?_
 refine reg_nil ?_
 refine hK53 _ _ ?_
 refine seq_any fun K54 hK54 => ?_
 refine one_reg ?_
 refine op_move (ev_base hN rfl s0) ?_
 refine op_move (ev_base hN rfl s1) ?_
 refine op_fn (vs := [(ptr k 0), (Value.int .i64 n)]) ok95 ⟨(ev_hit hN rfl), ⟨(ev_hit hN rfl), trivial⟩⟩ (Ret.flip (at_miss n hk hM hg)) ?_
 rintro _ _ ⟨rfl, rfl⟩
 refine op_move (ev_hit hN rfl) ?_
 refine op_extract (ev_hit hN rfl) rfl ?_
 refine op_extract (ev_hit hN rfl) rfl ?_
 refine op_assign (ev_hit hN rfl) ?_
 refine op_assign (ev_hit hN rfl) ?_
 refine reg_nil ?_
 refine hK54 _ _ ?_
 refine seq_any fun K55 hK55 => ?_
 refine seq_any fun K56 hK56 => ?_
 refine one_reg ?_
 refine op_move (ev_hit hN rfl) ?_
 refine reg_nil ?_
 refine hK56 _ _ ?_
 refine wp_block ?_
 refine seq_any fun K57 hK57 => ?_
 refine one_reg ?_
 refine op_bin (v := .bool false) (ev_hit hN rfl) rfl (by rw [binOp_eql]; rfl) ?_
 refine op_assign (ev_hit hN rfl) ?_
 refine reg_nil ?_
 refine hK57 _ _ ?_
 refine wp_cond_false (ev_hit hN rfl) ?_
 refine seq_any fun K58 hK58 => ?_
 refine one_reg ?_
 refine op_bin (v := .bool false) (ev_hit hN rfl) rfl (by rw [binOp_eql]; rfl) ?_
 refine op_assign (ev_hit hN rfl) ?_
 refine reg_nil ?_
 refine hK58 _ _ ?_
 refine wp_cond_false (ev_hit hN rfl) ?_
 refine wp_skip ?_
 refine hK55 _ _ ?_
 refine seq_any fun K59 hK59 => ?_
 refine seq_any fun K60 hK60 => ?_
 refine one_reg ?_
 refine op_move (ev_base hN rfl s0) ?_
 refine op_nil (ev_hit hN rfl) ?_
 refine op_field fld121_0 (ev_hit hN rfl) ?_
 refine op_load1 (v := (Value.map (some m))) one119 (ev_hit hN rfl) (hk.cell rfl) ?_
 refine op_meq (r := some m) Try.underlying119 (ev_hit hN rfl) rfl ?_
 refine reg_nil ?_
 refine hK60 _ _ ?_
 refine wp_cond_false (ev_hit hN rfl) ?_
 refine wp_skip ?_
 refine hK59 _ _ ?_
 refine seq_any fun K61 hK61 => ?_
 refine reg_split (hd := [_, _, _, _, _, _, _, _, _, _]) (tl := _) 10 mixed (by kernel_rfl) rfl rfl ?_
 refine any_env (φ := phiV [(fun uz => uz = (ptr k 0)), (fun uz => uz = (ptr k 0)), (fun uz => uz = (ptr k 0)), (fun uz => uz = (Value.map (some m))), (fun uz => uz = (Value.int .i64 n)), (fun uz => uz = lv), (fun _ => True), (fun uz => uz = (Value.int .u64 s)), (fun _ => True), (fun _ => True)]) (G := fun w' => Bx w' k 121 [(Value.map (some m))]) [6, 8, 9] (by kernel_rfl) (by kernel_rfl) (by kernel_rfl) (by kernel_rfl) hN (fun w1 w2 E h => h.keep0 E) hk (ObEs.cons ?_ (ObEs.cons ?_ (ObEs.cons ?_ (ObEs.cons ?_ (ObEs.cons ?_ (ObEs.cons ?_ (ObEs.pass rfl (ObEs.cons ?_ (ObEs.pass rfl (ObEs.pass rfl (ObEs.nil))))))))))) (by simp only [putsL_defers]) ?_
 ·
  intro eA aA wA hNA hGA hbsA hdpA
  have qA_0 := (hbsA 0 rfl).trans (sl_base hN rfl s0)
  refine op_move (ev_base hNA rfl qA_0) ?_
  exact obE_end rfl rfl rfl
 ·
  intro eA aA wA hNA hGA hbsA hdpA
  have qA_32 : Sl aA 32 (ptr k 0) := (hdpA 0 _ 32 (by kernel_rfl) rfl rfl).2 rfl
  refine op_nil (ev_base hNA rfl qA_32) ?_
  exact obE_end rfl rfl rfl
 ·
  intro eA aA wA hNA hGA hbsA hdpA
  have qA_33 : Sl aA 33 (ptr k 0) := (hdpA 1 _ 33 (by kernel_rfl) rfl rfl).2 rfl
  refine op_field fld121_0 (ev_base hNA rfl qA_33) ?_
  exact obE_end rfl rfl rfl
 ·
  intro eA aA wA hNA hGA hbsA hdpA
  have qA_34 : Sl aA 34 (ptr k 0) := (hdpA 2 _ 34 (by kernel_rfl) rfl rfl).2 rfl
  refine op_load1 (v := (Value.map (some m))) one119 (ev_base hNA rfl qA_34) (hGA.cell rfl) ?_
  exact obE_end rfl rfl rfl
 ·
  intro eA aA wA hNA hGA hbsA hdpA
  have qA_1 := (hbsA 1 rfl).trans (sl_base hN rfl s1)
  refine op_move (ev_base hNA rfl qA_1) ?_
  exact obE_end rfl rfl rfl
 ·
  intro eA aA wA hNA hGA hbsA hdpA
  have qA_2 := (hbsA 2 rfl).trans (sl_base hN rfl s2)
  refine op_move (ev_base hNA rfl qA_2) ?_
  exact obE_end rfl rfl rfl
 ·
  intro eA aA wA hNA hGA hbsA hdpA
  have qA_3 := (hbsA 3 rfl).trans (sl_base hN rfl s3)
  refine op_move (ev_base hNA rfl qA_3) ?_
  exact obE_end rfl rfl rfl
 ·
  intro w62 E62 _ a62 hN62 hbs62 hdp62 o_ ho_; obtain rfl := Option.some.inj ho_
  have z_w62 := E62.size
  have hk := hk.keep0 E62
  have hM := hM.keep0 E62
  have hl := hl.keep0 E62
  have hb := grow_step0 hb E62
  have q62_37 : Sl a62 37 lv := (hdp62 5 _ 37 (by kernel_rfl) rfl rfl).2 rfl
  refine op_fn (vs := [lv]) ok77 ⟨(ev_base hN62 rfl q62_37), trivial⟩ (CloneL l _ _ (by omega) (hl.mono (Nat.zero_le _) (by omega))) ?_
  rintro v63 w64 ⟨E65, hO63⟩
  have E65 := grown_of_below E65
  have z_w64 := E65.size
  have hk := hk.keep0 E65
  have hM := hM.keep0 E65
  have hl := hl.keep0 E65
  have hb := grow_step0 hb E65
  have hO63 := hO63.mono (base' := w.heap.size) (by omega)
  refine ke_end rfl (by decide) rfl hk ?_
  intro w66 E66 _ a66 hN66 hbs66 hdp66 o_ ho_; obtain rfl := Option.some.inj ho_
  have z_w66 := E66.size
  have hk := hk.keep0 E66
  have hM := hM.keep0 E66
  have hl := hl.keep0 E66
  have hO63 := hO63.keep0 E66
  have hb := grow_step0 hb E66
  have q66_38 : Sl a66 38 v63 := (Option.some.inj ((hdp66 6 _ 38 (by kernel_rfl) rfl rfl).1 0 rfl)).symm
  have q66_39 : Sl a66 39 (Value.int .u64 s) := (hdp66 7 _ 39 (by kernel_rfl) rfl rfl).2 rfl
  refine op_build (pv := [(0, v63), (1, (Value.int .u64 s))]) (v := (Value.agg #[v63, (Value.int .u64 s), (Value.slice none 0 0), (Value.slice none 0 0), (Value.bool false)])) ⟨rfl, (ev_base hN66 rfl q66_38), ⟨rfl, (ev_base hN66 rfl q66_39), trivial⟩⟩ (by obtain ⟨_, _, _, rfl⟩ := hO63.sl; kernel_rfl) ?_
  refine ke_end rfl (by decide) rfl hk ?_
  intro w67 E67 _ a67 hN67 hbs67 hdp67 o_ ho_; obtain rfl := Option.some.inj ho_
  have z_w67 := E67.size
  have hk := hk.keep0 E67
  have hM := hM.keep0 E67
  have hl := hl.keep0 E67
  have hO63 := hO63.keep0 E67
  have hb := grow_step0 hb E67
  have q67_40 : Sl a67 40 (Value.agg #[v63, (Value.int .u64 s), (Value.slice none 0 0), (Value.slice none 0 0), (Value.bool false)]) := (Option.some.inj ((hdp67 8 _ 40 (by kernel_rfl) rfl rfl).1 1 rfl)).symm
  refine op_box (cs := [v63, (Value.int .u64 s), (Value.slice none 0 0), (Value.slice none 0 0), (Value.bool false)]) (ev_base hN67 rfl q67_40) rfl ?_
  intro w68 b69 lo_b69 hi_b69 hB71 E70
  have z_w68 := E70.size
  have hk := hk.keep0 E70
  have hM := hM.keep0 E70
  have hl := hl.keep0 E70
  have hO63 := hO63.keep0 E70
  have hb := grow_step0 hb E70
  refine ke_end rfl (by decide) rfl hk ?_
  intro w72 E72 a72 hN72 hd72 hbs72 hph72
  have hd72 := hd72.trans ((by simp only [putsL_defers] : _ = _).trans hd)
  have z_w72 := E72.size
  have hk := hk.keep0 E72
  have hM := hM.keep0 E72
  have hl := hl.keep0 E72
  have hO63 := hO63.keep0 E72
  have hB71 := hB71.keep0 E72
  have hb := grow_step0 hb E72
  have s72_8 := (hbs72 8 rfl).trans (sl_hit hN rfl)
  have s72_35 : Sl a72 35 (Value.map (some m)) := (hph72 3 _ 35 rfl rfl).2 rfl
  have s72_36 : Sl a72 36 (Value.int .i64 n) := (hph72 4 _ 36 rfl rfl).2 rfl
  have s72_41 : Sl a72 41 (ptr b69 0) := (Option.some.inj ((hph72 9 _ 41 rfl rfl).1 2 rfl)).symm
  refine split_end ?_
  refine from_seq (tl := [_]) (by decide) (by kernel_rfl) rfl ?_
  have hM_old := hM
  refine op_mapput (k := n) (v := b69) Try.underlying119 (Go.Gx.key_int Try.underlying3) (ev_base hN72 rfl s72_35) (ev_base hN72 rfl s72_36) (ev_base hN72 rfl s72_41) hM ?_
  intro w73 hM75 E74
  have z_w73 := E74.size
  have hk := hk.keepM hM_old E74
  have hl := hl.keepM hM_old E74
  have hO63 := hO63.keepM hM_old E74
  have hB71 := hB71.keepM hM_old E74
  have hb := grown_trans hb E74
  refine reg_nil ?_
  refine hK61 _ _ ?_
  refine seq_any fun K76 hK76 => ?_
  refine one_reg ?_
  refine op_assign rfl ?_
  refine reg_nil ?_
  refine hK76 _ _ ?_
  refine wp_ret ?_
  refine ret1 rfl hd72 (ev_hit hN72 rfl) ⟨_, rfl, ?_⟩
  -- path
  exact ⟨hb, rfl, b69, _, by omega, hB71, hO63, hM75⟩

theorem Enter_nomap {lv : Value} {s : Int} {l : List UInt16} {n : Int} {k : Nat} {w : World} (hk : Bx w k 121 [.map none]) {lo : Nat} (hl : RdC w 0 lo 1 lv l.length (l.map u16v)) (hlo : lo ≤ k) (hl8 : l.length ≤ 100) : Ret Try.prog 54 #[(ptr k 0), (Value.int .i64 n), lv, (Value.int .u64 s)] w (fun v' w' => w.grownBy w' (some k) ∧ v' = .int .i64 0 ∧ ∃ m q nv, w.heap.size ≤ m ∧ w.heap.size ≤ q ∧ Bx w' k 121 [.map (some m)] ∧ Bx w' q 164 [nv, .int .u64 s, .slice none 0 0, .slice none 0 0, .bool false] ∧ Own w' w.heap.size 46 1 nv l.length (l.map u16v) ∧ MapC (Value.int .i64) pv w' m [(n, q)]) := by
 have hi_k := hk.lt
 have hb := grown_refl w (some k)
 refine enter (N := 42) Try.func54 rfl rfl (by simp) fun a0 hN hd hA => ?_
 have s0 : a0.tmps.getD 0 undef = (ptr k 0) := hA 0 (by simp)
 have s1 : a0.tmps.getD 1 undef = (Value.int .i64 n) := hA 1 (by simp)
 have s2 : a0.tmps.getD 2 undef = lv := hA 2 (by simp)
 have s3 : a0.tmps.getD 3 undef = (Value.int .u64 s) := hA 3 (by simp)
 clear hA
 refine seq_any fun K77 hK77 => ?_
 refine one_reg ?_
 refine op_assign rfl ?_
 refine reg_nil ?_
 refine hK77 _ _ ?_
 refine seq_any fun K78 hK78 => ?_
 refine one_reg ?_
 refine op_move (ev_base hN rfl s0) ?_
 refine op_move (ev_base hN rfl s1) ?_
 refine op_fn (vs := [(ptr k 0), (Value.int .i64 n)]) ok95 ⟨(ev_hit hN rfl), ⟨(ev_hit hN rfl), trivial⟩⟩ (Ret.flip (at_nomap n hk)) ?_
 rintro _ _ ⟨rfl, rfl⟩
 refine op_move (ev_hit hN rfl) ?_
 refine op_extract (ev_hit hN rfl) rfl ?_
 refine op_extract (ev_hit hN rfl) rfl ?_
 refine op_assign (ev_hit hN rfl) ?_
 refine op_assign (ev_hit hN rfl) ?_
 refine reg_nil ?_
 refine hK78 _ _ ?_
 refine seq_any fun K79 hK79 => ?_
 refine seq_any fun K80 hK80 => ?_
 refine one_reg ?_
 refine op_move (ev_hit hN rfl) ?_
 refine reg_nil ?_
 refine hK80 _ _ ?_
 refine wp_block ?_
 refine seq_any fun K81 hK81 => ?_
 refine one_reg ?_
 refine op_bin (v := .bool false) (ev_hit hN rfl) rfl (by rw [binOp_eql]; rfl) ?_
 refine op_assign (ev_hit hN rfl) ?_
 refine reg_nil ?_
 refine hK81 _ _ ?_
 refine wp_cond_false (ev_hit hN rfl) ?_
 refine seq_any fun K82 hK82 => ?_
 refine one_reg ?_
 refine op_bin (v := .bool false) (ev_hit hN rfl) rfl (by rw [binOp_eql]; rfl) ?_
 refine op_assign (ev_hit hN rfl) ?_
 refine reg_nil ?_
 refine hK82 _ _ ?_
 refine wp_cond_false (ev_hit hN rfl) ?_
 refine wp_skip ?_
 refine hK79 _ _ ?_
 refine seq_any fun K83 hK83 => ?_
 refine seq_any fun K84 hK84 => ?_
 refine one_reg ?_
 refine op_move (ev_base hN rfl s0) ?_
 refine op_nil (ev_hit hN rfl) ?_
 refine op_field fld121_0 (ev_hit hN rfl) ?_
 refine op_load1 (v := (Value.map none)) one119 (ev_hit hN rfl) (hk.cell rfl) ?_
 refine op_meq (r := none) Try.underlying119 (ev_hit hN rfl) rfl ?_
 refine reg_nil ?_
 refine hK84 _ _ ?_
 refine wp_cond_true (ev_hit hN rfl) ?_
 refine one_reg ?_
 refine op_move (ev_base hN rfl s0) ?_
 refine op_mkmap (kv := (Value.int .i64)) (vv := pv) ?_
 intro w85 m87 lo_m87 hi_m87 hM88 E86
 have z_w85 := E86.size
 have hk := hk.keep0 E86
 have hl := hl.keep0 E86
 have hb := grow_step0 hb E86
 refine op_nil (ev_hit hN rfl) ?_
 refine op_field fld121_0 (ev_hit hN rfl) ?_
 have hk_old := hk
 refine op_store (vs := [(Value.map (some m87))]) (cs' := [(Value.map (some m87))]) size119 (ev_hit hN rfl) (ev_hit hN rfl) rfl rfl rfl hk (Nat.le_of_ble_eq_true rfl) rfl ?_
 intro w91 hk E92
 have z_w91 := E92.size
 have hl := hl.keep E92 (fun k hk => .inr (by simp at hk; omega))
 have hM88 := hM88.keepB hk_old E92
 have hb := grown_trans hb E92
 refine reg_nil ?_
 refine hK83 _ _ ?_
 refine seq_any fun K93 hK93 => ?_
 refine reg_split (hd := [_, _, _, _, _, _, _, _, _, _]) (tl := _) 10 mixed (by kernel_rfl) rfl rfl ?_
 refine any_env (φ := phiV [(fun uz => uz = (ptr k 0)), (fun uz => uz = (ptr k 0)), (fun uz => uz = (ptr k 0)), (fun uz => uz = (Value.map (some m87))), (fun uz => uz = (Value.int .i64 n)), (fun uz => uz = lv), (fun _ => True), (fun uz => uz = (Value.int .u64 s)), (fun _ => True), (fun _ => True)]) (G := fun w' => Bx w' k 121 [(Value.map (some m87))]) [6, 8, 9] (by kernel_rfl) (by kernel_rfl) (by kernel_rfl) (by kernel_rfl) hN (fun w1 w2 E h => h.keep0 E) hk (ObEs.cons ?_ (ObEs.cons ?_ (ObEs.cons ?_ (ObEs.cons ?_ (ObEs.cons ?_ (ObEs.cons ?_ (ObEs.pass rfl (ObEs.cons ?_ (ObEs.pass rfl (ObEs.pass rfl (ObEs.nil))))))))))) (by simp only [putsL_defers]) ?_
 ·
  intro eA aA wA hNA hGA hbsA hdpA
  have qA_0 := (hbsA 0 rfl).trans (sl_base hN rfl s0)
  refine op_move (ev_base hNA rfl qA_0) ?_
  exact obE_end rfl rfl rfl
 ·
  intro eA aA wA hNA hGA hbsA hdpA
  have qA_32 : Sl aA 32 (ptr k 0) := (hdpA 0 _ 32 (by kernel_rfl) rfl rfl).2 rfl
  refine op_nil (ev_base hNA rfl qA_32) ?_
  exact obE_end rfl rfl rfl
 ·
  intro eA aA wA hNA hGA hbsA hdpA
  have qA_33 : Sl aA 33 (ptr k 0) := (hdpA 1 _ 33 (by kernel_rfl) rfl rfl).2 rfl
  refine op_field fld121_0 (ev_base hNA rfl qA_33) ?_
  exact obE_end rfl rfl rfl
 ·
  intro eA aA wA hNA hGA hbsA hdpA
  have qA_34 : Sl aA 34 (ptr k 0) := (hdpA 2 _ 34 (by kernel_rfl) rfl rfl).2 rfl
  refine op_load1 (v := (Value.map (some m87))) one119 (ev_base hNA rfl qA_34) (hGA.cell rfl) ?_
  exact obE_end rfl rfl rfl
 ·
  intro eA aA wA hNA hGA hbsA hdpA
  have qA_1 := (hbsA 1 rfl).trans (sl_base hN rfl s1)
  refine op_move (ev_base hNA rfl qA_1) ?_
  exact obE_end rfl rfl rfl
 ·
  intro eA aA wA hNA hGA hbsA hdpA
  have qA_2 := (hbsA 2 rfl).trans (sl_base hN rfl s2)
  refine op_move (ev_base hNA rfl qA_2) ?_
  exact obE_end rfl rfl rfl
 ·
  intro eA aA wA hNA hGA hbsA hdpA
  have qA_3 := (hbsA 3 rfl).trans (sl_base hN rfl s3)
  refine op_move (ev_base hNA rfl qA_3) ?_
  exact obE_end rfl rfl rfl
 ·
  intro w94 E94 _ a94 hN94 hbs94 hdp94 o_ ho_; obtain rfl := Option.some.inj ho_
  have z_w94 := E94.size
  have hl := hl.keep0 E94
  have hM88 := hM88.keep0 E94
  have hk := hk.keep0 E94
  have hb := grow_step0 hb E94
  have q94_37 : Sl a94 37 lv := (hdp94 5 _ 37 (by kernel_rfl) rfl rfl).2 rfl
  refine op_fn (vs := [lv]) ok77 ⟨(ev_base hN94 rfl q94_37), trivial⟩ (CloneL l _ _ (by omega) (hl.mono (Nat.zero_le _) (by omega))) ?_
  rintro v95 w96 ⟨E97, hO95⟩
  have E97 := grown_of_below E97
  have z_w96 := E97.size
  have hl := hl.keep0 E97
  have hM88 := hM88.keep0 E97
  have hk := hk.keep0 E97
  have hb := grow_step0 hb E97
  have hO95 := hO95.mono (base' := w.heap.size) (by omega)
  refine ke_end rfl (by decide) rfl hk ?_
  intro w98 E98 _ a98 hN98 hbs98 hdp98 o_ ho_; obtain rfl := Option.some.inj ho_
  have z_w98 := E98.size
  have hl := hl.keep0 E98
  have hM88 := hM88.keep0 E98
  have hk := hk.keep0 E98
  have hO95 := hO95.keep0 E98
  have hb := grow_step0 hb E98
  have q98_38 : Sl a98 38 v95 := (Option.some.inj ((hdp98 6 _ 38 (by kernel_rfl) rfl rfl).1 0 rfl)).symm
  have q98_39 : Sl a98 39 (Value.int .u64 s) := (hdp98 7 _ 39 (by kernel_rfl) rfl rfl).2 rfl
  refine op_build (pv := [(0, v95), (1, (Value.int .u64 s))]) (v := (Value.agg #[v95, (Value.int .u64 s), (Value.slice none 0 0), (Value.slice none 0 0), (Value.bool false)])) ⟨rfl, (ev_base hN98 rfl q98_38), ⟨rfl, (ev_base hN98 rfl q98_39), trivial⟩⟩ (by obtain ⟨_, _, _, rfl⟩ := hO95.sl; kernel_rfl) ?_
  refine ke_end rfl (by decide) rfl hk ?_
  intro w99 E99 _ a99 hN99 hbs99 hdp99 o_ ho_; obtain rfl := Option.some.inj ho_
  have z_w99 := E99.size
  have hl := hl.keep0 E99
  have hM88 := hM88.keep0 E99
  have hk := hk.keep0 E99
  have hO95 := hO95.keep0 E99
  have hb := grow_step0 hb E99
  have q99_40 : Sl a99 40 (Value.agg #[v95, (Value.int .u64 s), (Value.slice none 0 0), (Value.slice none 0 0), (Value.bool false)]) := (Option.some.inj ((hdp99 8 _ 40 (by kernel_rfl) rfl rfl).1 1 rfl)).symm
  refine op_box (cs := [v95, (Value.int .u64 s), (Value.slice none 0 0), (Value.slice none 0 0), (Value.bool false)]) (ev_base hN99 rfl q99_40) rfl ?_
  intro w100 b101 lo_b101 hi_b101 hB103 E102
  have z_w100 := E102.size
  have hl := hl.keep0 E102
  have hM88 := hM88.keep0 E102
  have hk := hk.keep0 E102
  have hO95 := hO95.keep0 E102
  have hb := grow_step0 hb E102
  refine ke_end rfl (by decide) rfl hk ?_
  intro w104 E104 a104 hN104 hd104 hbs104 hph104
  have hd104 := hd104.trans ((by simp only [putsL_defers] : _ = _).trans hd)
  have z_w104 := E104.size
  have hl := hl.keep0 E104
  have hM88 := hM88.keep0 E104
  have hk := hk.keep0 E104
  have hO95 := hO95.keep0 E104
  have hB103 := hB103.keep0 E104
  have hb := grow_step0 hb E104
  have s104_8 := (hbs104 8 rfl).trans (sl_hit hN rfl)
  have s104_35 : Sl a104 35 (Value.map (some m87)) := (hph104 3 _ 35 rfl rfl).2 rfl
  have s104_36 : Sl a104 36 (Value.int .i64 n) := (hph104 4 _ 36 rfl rfl).2 rfl
  have s104_41 : Sl a104 41 (ptr b101 0) := (Option.some.inj ((hph104 9 _ 41 rfl rfl).1 2 rfl)).symm
  refine split_end ?_
  refine from_seq (tl := [_]) (by decide) (by kernel_rfl) rfl ?_
  have hM88_old := hM88
  refine op_mapput (k := n) (v := b101) Try.underlying119 (Go.Gx.key_int Try.underlying3) (ev_base hN104 rfl s104_35) (ev_base hN104 rfl s104_36) (ev_base hN104 rfl s104_41) hM88 ?_
  intro w105 hM107 E106
  have z_w105 := E106.size
  have hl := hl.keepM hM88_old E106
  have hk := hk.keepM hM88_old E106
  have hO95 := hO95.keepM hM88_old E106
  have hB103 := hB103.keepM hM88_old E106
  have hb := grow_step1 hb E106 (by omega)
  refine reg_nil ?_
  refine hK93 _ _ ?_
  refine seq_any fun K108 hK108 => ?_
  refine one_reg ?_
  refine op_assign rfl ?_
  refine reg_nil ?_
  refine hK108 _ _ ?_
  refine wp_ret ?_
  refine ret1 rfl hd104 (ev_hit hN104 rfl) ⟨_, rfl, ?_⟩
  -- path
  exact ⟨hb, rfl, m87, b101, _, by omega, by omega, hk, hB103, hO95, hM107⟩

theorem lockNew_ret (w : World) : Ret Try.prog 53 #[] w (fun v' w' => Below w.heap.size w w' ∧ ∃ k, w.heap.size ≤ k ∧ v' = ptr k 0 ∧ Bx w' k 121 [.map none]) := by
 have hb := Below.refl w.heap.size w
 refine enter (N := 3) Try.func53 rfl rfl (by simp) fun a0 hN hd hA => ?_
 clear hA
 refine seq_any fun K109 hK109 => ?_
 refine one_reg ?_
 refine op_assign rfl ?_
 refine reg_nil ?_
 refine hK109 _ _ ?_
 refine seq_any fun K110 hK110 => ?_
 refine one_reg ?_
 refine op_build (pv := []) (v := (Value.agg #[(Value.map none)])) trivial (by kernel_rfl) ?_
 refine op_box (cs := [(Value.map none)]) (ev_hit hN rfl) rfl ?_
 intro w111 b112 lo_b112 hi_b112 hB114 E113
 have z_w111 := E113.size
 have hb := below_step0 hb E113 hb.size
 refine op_assign (ev_hit hN rfl) ?_
 refine reg_nil ?_
 refine hK110 _ _ ?_
 refine wp_ret ?_
 refine ret1 rfl hd (ev_hit hN rfl) ⟨_, rfl, ?_⟩
 -- path
 exact ⟨hb, b112, by omega, rfl, hB114⟩

end Go.Proofs.Ytmhdbphpmgjpcaa

/- Walks, written by a program: what each function of the translation hands back. -/
namespace Go.Proofs.Ytmhdbphpmgjpcaa
open Go.Gx Go.RowKit
attribute [local irreducible] wpList wpStill Code.wp Calls

theorem keys_ret {m : Nat} (w : World) : Ret Try.prog 120 #[(Value.map (some m))] w (fun v' w' => Below w.heap.size w w' ∧ ∃ b, w.heap.size ≤ b ∧ v' = .func (.func 138) #[] #[ptr b 0] ∧ Bx w' b 119 [.map (some m)]) := by
 have hb := Below.refl w.heap.size w
 refine enter (N := 4) Try.func120 rfl rfl (by simp) fun a0 hN hd hA => ?_
 have s0 : a0.tmps.getD 0 undef = (Value.map (some m)) := hA 0 (by simp)
 clear hA
 refine seq_any fun K1 hK1 => ?_
 refine one_reg ?_
 refine op_box (cs := [(Value.map (some m))]) (ev_base hN rfl s0) rfl ?_
 intro w2 b3 lo_b3 hi_b3 hB5 E4
 have z_w2 := E4.size
 have hb := below_step0 hb E4 hb.size
 refine op_assign rfl ?_
 refine reg_nil ?_
 refine hK1 _ _ ?_
 refine seq_any fun K6 hK6 => ?_
 refine one_reg ?_
 refine op_mkfn (cv := [(ptr b3 0)]) ⟨(ev_hit hN rfl), trivial⟩ ?_
 refine op_assign (ev_hit hN rfl) ?_
 refine reg_nil ?_
 refine hK6 _ _ ?_
 refine wp_ret ?_
 refine ret1 rfl hd (ev_hit hN rfl) ⟨_, rfl, ?_⟩
 -- path
 exact ⟨hb, b3, by omega, rfl, hB5⟩

theorem others_ret {base k m : Nat} {M : TM} {C : List TC} {F0 : Nat → Prop} {q : List UInt16 → Bool} (n : Int) {w : World} (hbase : base ≤ w.heap.size) (hk : Bx w k 121 [.map (some m)]) (hM : MapC (Value.int .i64) pv w m (esOf M C)) (hA : LkAll w base M C F0) (hMo : MOk M) {g : Nat} {fs cs : List Value} (hokg : callOk Try.prog g = true) (hf : ∀ j, j < M.length → ∀ w1, Below w.heap.size w w1 → Ret Try.prog g (fs ++ [(C.getD j default).la] ++ cs).toArray w1 (fun v' w' => Below w1.heap.size w1 w' ∧ v' = .bool (q (M.getD j default).2.label))) : Ret Try.prog 96 #[(ptr k 0), (Value.int .i64 n), (Value.func (.func g) fs.toArray cs.toArray)] w (fun v' w' => Below w.heap.size w w' ∧ Own w' w.heap.size 3 1 v' (othersL M n q).length ((othersL M n q).map (Value.int .i64))) := by
 have hi_k := hk.lt
 have hi_m := hM.lt
 have hsl := sortK_len (M := M)
 have hm1 := hMo.1
 have djk := hA.notBx hk (by decide) (by decide) (by decide) (by decide)
 have djm := hA.notMap hM
 have hb := Below.refl w.heap.size w
 refine enter (N := 43) Try.func96 rfl rfl (by simp) fun a0 hN hd hA => ?_
 have s0 : a0.tmps.getD 0 undef = (ptr k 0) := hA 0 (by simp)
 have s1 : a0.tmps.getD 1 undef = (Value.int .i64 n) := hA 1 (by simp)
 have s2 : a0.tmps.getD 2 undef = (Value.func (.func g) fs.toArray cs.toArray) := hA 2 (by simp)
 clear hA
 refine seq_any fun K7 hK7 => ?_
 refine one_reg ?_
 refine op_assign rfl ?_
 refine reg_nil ?_
 refine hK7 _ _ ?_
 refine seq_any fun K8 hK8 => ?_
 refine one_reg ?_
 refine op_assign rfl ?_
 refine reg_nil ?_
 refine hK8 _ _ ?_
 refine seq_any fun K9 hK9 => ?_
 refine seq_any fun K10 hK10 => ?_
 refine one_reg ?_
 refine op_move (ev_base hN rfl s0) ?_
 refine op_nil (ev_hit hN rfl) ?_
 refine op_field fld121_0 (ev_hit hN rfl) ?_
 refine op_load1 (v := (Value.map (some m))) one119 (ev_hit hN rfl) (hk.cell rfl) ?_
 refine op_fn (vs := [(Value.map (some m))]) ok120 ⟨(ev_hit hN rfl), trivial⟩ (keys_ret _) ?_
 rintro _ w12 ⟨E13, b11, lo_b11, rfl, hB11⟩
 have E13 := grown_of_below E13
 have z_w12 := E13.size
 have hk := hk.keep0 E13
 have hM := hM.keep0 E13
 have hA := hA.keepG (Gr.of0 E13 NoB) (fun _ _ h => h)
 have hb := below_step0 hb E13 hb.size
 refine op_fn (vs := [(Value.func (.func 138) #[] #[(ptr b11 0)])]) ok119 ⟨(ev_hit hN rfl), trivial⟩ (sortedKeys_ret hM (es_wf hA.1 hMo) (by rw [esOf_len hA.1]; have := hMo.1; omega) hB11) ?_
 rintro v14 w15 ⟨E16, hO14⟩
 have dj17 : Dj F0 (Bl v14) := Dj.fresh (fun k hk => (hA.lt k hk).2) (fun k hk => (hO14.lt k hk).1)
 have E16 := grown_of_below E16
 have z_w15 := E16.size
 have hk := hk.keep0 E16
 have hM := hM.keep0 E16
 have hA := hA.keepG (Gr.of0 E16 NoB) (fun _ _ h => h)
 have hB11 := hB11.keep0 E16
 have hb := below_step0 hb E16 hb.size
 rw [keysUp_eq hA.1] at hO14
 have hO14 := hO14.mono (base' := w.heap.size) (by omega)
 refine op_len_rd Try.underlying35 (ev_hit hN rfl) hO14.rdw ?_
 refine op_move rfl ?_
 refine reg_nil ?_
 refine hK10 _ _ ?_
 refine wp_block ?_
 refine loop_m (fun mz_ az_ w' => ∃ (i : Nat) (r : Value), mz_ = (sortK M).length - i ∧ (az_.tmps.getD 0 undef = (ptr k 0)) ∧ (az_.tmps.getD 1 undef = (Value.int .i64 n)) ∧ (az_.tmps.getD 2 undef = (Value.func (.func g) fs.toArray cs.toArray)) ∧ (az_.tmps.getD 6 undef = (Value.slice none 0 0)) ∧ (az_.tmps.getD 15 undef = v14) ∧ (az_.tmps.getD 16 undef = (Value.int .i64 (((sortK M).length : Nat) : Int))) ∧ (az_.tmps.getD 17 undef = (Value.int .i64 ((i : Nat) : Int))) ∧ (az_.tmps.getD 7 undef = r) ∧ (i ≤ (sortK M).length) ∧ ((((sortK M).take i).filter (fun i => decide (i ≠ n) && q (txAt M i).label)).length ≤ i) ∧ (DJ v14 r) ∧ (Below w.heap.size w w') ∧ (w15.heap.size ≤ w'.heap.size) ∧ (Bx w' k 121 [(Value.map (some m))]) ∧ (MapC (Value.int .i64) pv w' m (esOf M C)) ∧ (LkAll w' base M C F0) ∧ (Bx w' b11 119 [(Value.map (some m))]) ∧ (Own w' w.heap.size 3 1 v14 (sortK M).length ((sortK M).map (Value.int .i64))) ∧ (Own w' w.heap.size 3 1 r (((sortK M).take i).filter (fun i => decide (i ≠ n) && q (txAt M i).label)).length ((((sortK M).take i).filter (fun i => decide (i ≠ n) && q (txAt M i).label)).map (Value.int .i64)))) _ hN hd ⟨0, (Value.slice none 0 0), rfl, (sl_base hN rfl s0), (sl_base hN rfl s1), (sl_base hN rfl s2), (sl_hit hN rfl), (sl_hit hN rfl), (sl_hit hN rfl), (sl_hit hN rfl), (sl_hit hN rfl), (Nat.zero_le _), (by simp), (Dj.nil _), hb, (Nat.le_refl _), hk, hM, hA, hB11, hO14, (Own.nil _ _ _ _)⟩ ?_
 rintro _ a18 w18 hN18 hd18 ⟨i, r, rfl, s18_0, s18_1, s18_2, s18_6, s18_15, s18_16, s18_17, s18_7, hi, hfl, djr, hb, zl_w18, hk, hM, hA, hB11, hO14, hO19⟩
 have z_w18 := hb.size
 refine seq_any fun K20 hK20 => ?_
 refine one_reg ?_
 refine op_lss (ev_base hN18 rfl s18_17) (ev_base hN18 rfl s18_16) (fun c18 => ?_) (fun c18 => ?_)
 · -- 18T
  refine reg_nil ?_
  refine hK20 _ _ ?_
  refine seq_any fun K21 hK21 => ?_
  refine wp_cond_true (ev_hit hN18 rfl) ?_
  refine wp_skip ?_
  refine hK21 _ _ ?_
  refine seq_any fun K22 hK22 => ?_
  refine wp_block ?_
  refine seq_any fun K23 hK23 => ?_
  refine one_reg ?_
  refine op_index_rd slt35 (ev_base hN18 rfl s18_15) hO14.rdw (ev_base hN18 rfl s18_17) (by omega) (by omega) ?_
  intro b24 o25 h0b24 h1b24 hc26
  refine op_load1 (v := (Value.int .i64 ((sortK M).getD i 0))) one3 (ev_hit hN18 rfl) (by have := hc26 0 (Value.int .i64 ((sortK M).getD i 0)) (by decide) (el_i64 (i := i) (by omega) (by omega)); simpa using this) ?_
  refine op_assign (ev_hit hN18 rfl) ?_
  refine reg_nil ?_
  refine hK23 _ _ ?_
  refine seq_any fun K27 hK27 => ?_
  refine one_reg ?_
  refine op_move (ev_hit hN18 rfl) ?_
  refine op_move (ev_base hN18 rfl s18_1) ?_
  refine op_neq (ev_hit hN18 rfl) (ev_hit hN18 rfl) (fun c23 => ?_) (fun c23 => ?_)
  · -- 23T
   refine op_move (ev_hit hN18 rfl) ?_
   have hx9 : (sortK M).getD i 0 ∈ M.map Prod.fst := sortK_mem.1 (getD_mem (by omega))
   obtain ⟨T9, hT9⟩ := mget_key hx9
   obtain ⟨j9, p9, la9, rv9, wv9, D9, hj9, hl9, hMj9, hCj9, hes9, hp9, hx9, hL9, hR9, hD9, hW9, hDe9⟩ := LkAll.key hA hT9
   have ht9 : txAt M ((sortK M).getD i 0) = T9 := by unfold txAt; rw [hT9]; rfl
   refine g_true (j := 3) (dj := 24) (b := true) rfl rfl rfl (ev_hit hN18 rfl) ?_
   refine op_move (ev_base hN18 rfl s18_2) ?_
   refine g_true (j := 3) (dj := 24) (b := true) rfl rfl rfl (ev_hit hN18 rfl) ?_
   refine op_move (ev_base hN18 rfl s18_0) ?_
   refine g_true (j := 3) (dj := 24) (b := true) rfl rfl rfl (ev_hit hN18 rfl) ?_
   refine op_nil (ev_hit hN18 rfl) ?_
   refine g_true (j := 3) (dj := 24) (b := true) rfl rfl rfl (ev_hit hN18 rfl) ?_
   refine op_field fld121_0 (ev_hit hN18 rfl) ?_
   refine g_true (j := 3) (dj := 24) (b := true) rfl rfl rfl (ev_hit hN18 rfl) ?_
   refine op_load1 (v := (Value.map (some m))) one119 (ev_hit hN18 rfl) (hk.cell rfl) ?_
   refine g_true (j := 3) (dj := 24) (b := true) rfl rfl rfl (ev_hit hN18 rfl) ?_
   refine op_move (ev_hit hN18 rfl) ?_
   refine g_true (j := 3) (dj := 24) (b := true) rfl rfl rfl (ev_hit hN18 rfl) ?_
   refine op_look_hit (k := ((sortK M).getD i 0)) (v := p9) Try.underlying119 (Go.Gx.key_int Try.underlying3) zero155 (ev_hit hN18 rfl) (ev_hit hN18 rfl) hM hes9 ?_
   refine g_true (j := 3) (dj := 24) (b := true) rfl rfl rfl (ev_hit hN18 rfl) ?_
   refine op_nil (ev_hit hN18 rfl) ?_
   refine g_true (j := 3) (dj := 24) (b := true) rfl rfl rfl (ev_hit hN18 rfl) ?_
   refine op_field fld164_0 (ev_hit hN18 rfl) ?_
   refine g_true (j := 3) (dj := 24) (b := true) rfl rfl rfl (ev_hit hN18 rfl) ?_
   refine op_load1 (v := la9) one54 (ev_hit hN18 rfl) (hx9.cell rfl) ?_
   refine g_true (j := 3) (dj := 24) (b := true) rfl rfl rfl (ev_hit hN18 rfl) ?_
   refine op_fnv (fs := fs) (vs := [la9]) (cs := cs) (ev_hit hN18 rfl) hokg ⟨(ev_hit hN18 rfl), trivial⟩ ((by have h9 := hf j9 hj9 _ hb; rw [hCj9, hMj9] at h9; exact h9)) ?_
   rintro _ w28 ⟨E29, rfl⟩
   have E29 := grown_of_below E29
   have z_w28 := E29.size
   have hk := hk.keep0 E29
   have hM := hM.keep0 E29
   have hA := hA.keepG (Gr.of0 E29 NoB) (fun _ _ h => h)
   have hB11 := hB11.keep0 E29
   have hO14 := hO14.keep0 E29
   have hO19 := hO19.keep0 E29
   have hx9 := hx9.keep0 E29
   have hL9 := hL9.keep0 E29
   have hR9 := hR9.keep0 E29
   have hD9 : ∀ x9 ∈ (D9.map rdL), Own w28 base 46 1 x9.1 x9.2.length (x9.2.map u16v) := fun x9 hx9 => (hD9 x9 hx9).keep0 E29
   have hW9 := hW9.keep0 E29
   have hb := below_step0 hb E29 hb.size
   rcases Bool.eq_false_or_eq_true ((q T9.label)) with c35 | c35
   · -- 35T
    rw [c35]
    refine op_pick_t (ev_hit hN18 rfl) (ev_hit hN18 rfl) ?_
    refine reg_nil ?_
    refine hK27 _ _ ?_
    refine wp_cond_true (ev_hit hN18 rfl) ?_
    refine one_reg ?_
    refine op_move (ev_base hN18 rfl s18_7) ?_
    refine op_move (ev_hit hN18 rfl) ?_
    refine op_bslice (e := 3) (pv := [(0, (Value.int .i64 ((sortK M).getD i 0)))]) (cs := [(Value.int .i64 ((sortK M).getD i 0))]) ⟨rfl, (ev_hit hN18 rfl), trivial⟩ (by kernel_rfl) ?_
    intro w30 b31 lo_b31 hi_b31 hB33 E32
    have dj34 : ¬ F0 b31 := fun hf => by have := (hA.lt _ hf).2; omega
    have ne_b31_v14 : v14.ownBlock ≠ some b31 := fun hh => by have := (hO14.lt _ hh).2; omega
    have ne_b31_r : r.ownBlock ≠ some b31 := fun hh => by have := (hO19.lt _ hh).2; omega
    have z_w30 := E32.size
    have hk := hk.keep0 E32
    have hM := hM.keep0 E32
    have hA := hA.keepG (Gr.of0 E32 NoB) (fun _ _ h => h)
    have hB11 := hB11.keep0 E32
    have hO14 := hO14.keep0 E32
    have hO19 := hO19.keep0 E32
    have hx9 := hx9.keep0 E32
    have hL9 := hL9.keep0 E32
    have hR9 := hR9.keep0 E32
    have hD9 : ∀ x9 ∈ (D9.map rdL), Own w30 base 46 1 x9.1 x9.2.length (x9.2.map u16v) := fun x9 hx9 => (hD9 x9 hx9).keep0 E32
    have hW9 := hW9.keep0 E32
    have hb := below_step0 hb E32 hb.size
    have hP40 := hO19
    refine op_append slt35 (ev_hit hN18 rfl) hP40 (ev_hit hN18 rfl) (Src.ofRd Try.underlying35 (by decide) (RdC.ofBx (sz := 1) (n := 1) hB33 rfl (by decide)) (by simp [Value.oneCell', u8v])) (by unfold maxLen; omega) (by omega) hb.size ?_
    intro v35 w36 hO38 E37 hm39
    have dj41 : DJ v14 v35 := DJ.step hm39 (fun k hk => (hO14.lt k hk).2) djr
    have dj42 : Dj F0 (Bl v35) := Dj.step hm39 (fun k hk => (hA.lt k hk).2) (hA.notOwn hP40 (by decide) (by decide) (by decide) (by decide)).symm
    have z_w36 := E37.size
    have hk := hk.keepO hP40 E37 (by decide)
    have hM := hM.keepO hP40 E37
    have hA := hA.keepG (Gr.of E37) (hA.notOwn hP40 (by decide) (by decide) (by decide) (by decide)).symm
    have hB11 := hB11.keepO hP40 E37 (by decide)
    have hO14 := hO14.keepD E37 djr
    have hx9 := hx9.keepO hP40 E37 (by decide)
    have hL9 := hL9.keepT hP40 E37 (by decide)
    have hR9 := hR9.keepT hP40 E37 (by decide)
    have hD9 : ∀ x9 ∈ (D9.map rdL), Own w36 base 46 1 x9.1 x9.2.length (x9.2.map u16v) := fun x9 hx9 => (hD9 x9 hx9).keepT hP40 E37 (by decide)
    have hW9 := hW9.keepT hP40 E37 (by decide)
    have hB33 := hB33.keep E37 (fun hh => ne_b31_r hh.symm)
    have hb := below_stepO hb hP40 E37 hb.size (by omega)
    have hO38 : Own w36 w.heap.size 3 1 v35 ((((sortK M).take i).filter (fun i => decide (i ≠ n) && q (txAt M i).label)).length + 1) ((((((sortK M).take i).filter (fun i => decide (i ≠ n) && q (txAt M i).label)) ++ [((sortK M).getD i 0)])).map (Value.int .i64)) := by simpa [u8v, u16v, sv] using hO38
    have ne_b31_v35 : v35.ownBlock ≠ some b31 := ne_step (w1 := w30) ⟨E37, hm39⟩ (by omega) ne_b31_r
    refine op_assign (ev_hit hN18 rfl) ?_
    refine reg_nil ?_
    refine hK22 _ _ ?_
    refine one_reg ?_
    refine op_add (ev_base hN18 rfl s18_17) rfl (add64 (by omega)) ?_
    refine op_move (ev_hit hN18 rfl) ?_
    refine reg_nil ?_
    -- round 18T 23T 35T
    exact loop_next _ hN18 hd18 ⟨(i + 1), v35, rfl, (sl_base hN18 rfl s18_0), (sl_base hN18 rfl s18_1), (sl_base hN18 rfl s18_2), (sl_base hN18 rfl s18_6), (sl_base hN18 rfl s18_15), (sl_base hN18 rfl s18_16), (sl_hit hN18 rfl).trans (congrArg (Value.int .i64) (by omega)), (sl_hit hN18 rfl), (by omega), (filt_le (by omega)), dj41, hb, (by omega), hk, hM, hA, hB11, hO14, (hO38.cast (by rw [filtT (d := 0) (by omega) (by rw [decide_eq_true c23, ht9, c35]; rfl)]; simp) (by rw [filtT (d := 0) (by omega) (by rw [decide_eq_true c23, ht9, c35]; rfl)]))⟩ (by omega)
   · -- 35F
    rw [c35]
    refine op_pick_t (ev_hit hN18 rfl) (ev_hit hN18 rfl) ?_
    refine reg_nil ?_
    refine hK27 _ _ ?_
    refine wp_cond_false (ev_hit hN18 rfl) ?_
    refine wp_skip ?_
    refine hK22 _ _ ?_
    refine one_reg ?_
    refine op_add (ev_base hN18 rfl s18_17) rfl (add64 (by omega)) ?_
    refine op_move (ev_hit hN18 rfl) ?_
    refine reg_nil ?_
    -- round 18T 23T 35F
    exact loop_next _ hN18 hd18 ⟨(i + 1), r, rfl, (sl_base hN18 rfl s18_0), (sl_base hN18 rfl s18_1), (sl_base hN18 rfl s18_2), (sl_base hN18 rfl s18_6), (sl_base hN18 rfl s18_15), (sl_base hN18 rfl s18_16), (sl_hit hN18 rfl).trans (congrArg (Value.int .i64) (by omega)), (sl_base hN18 rfl s18_7), (by omega), (filt_le (by omega)), djr, hb, (by omega), hk, hM, hA, hB11, hO14, (hO19.cast (by rw [filtF (d := 0) (by omega) (by rw [ht9, c35, Bool.and_false])]) (by rw [filtF (d := 0) (by omega) (by rw [ht9, c35, Bool.and_false])]))⟩ (by omega)
  · -- 23F
   refine op_move (ev_hit hN18 rfl) ?_
   have hx9 : (sortK M).getD i 0 ∈ M.map Prod.fst := sortK_mem.1 (getD_mem (by omega))
   obtain ⟨T9, hT9⟩ := mget_key hx9
   obtain ⟨j9, p9, la9, rv9, wv9, D9, hj9, hl9, hMj9, hCj9, hes9, hp9, hx9, hL9, hR9, hD9, hW9, hDe9⟩ := LkAll.key hA hT9
   have ht9 : txAt M ((sortK M).getD i 0) = T9 := by unfold txAt; rw [hT9]; rfl
   refine g_false (j := 3) (dj := 24) (b := true) rfl rfl rfl (ev_hit hN18 rfl) rfl rfl ?_
   refine g_false (j := 3) (dj := 24) (b := true) rfl rfl rfl (ev_hit hN18 rfl) rfl rfl ?_
   refine g_false (j := 3) (dj := 24) (b := true) rfl rfl rfl (ev_hit hN18 rfl) rfl rfl ?_
   refine g_false (j := 3) (dj := 24) (b := true) rfl rfl rfl (ev_hit hN18 rfl) rfl rfl ?_
   refine g_false (j := 3) (dj := 24) (b := true) rfl rfl rfl (ev_hit hN18 rfl) rfl rfl ?_
   refine g_false (j := 3) (dj := 24) (b := true) rfl rfl rfl (ev_hit hN18 rfl) rfl rfl ?_
   refine g_false (j := 3) (dj := 24) (b := true) rfl rfl rfl (ev_hit hN18 rfl) rfl rfl ?_
   refine g_false (j := 3) (dj := 24) (b := true) rfl rfl rfl (ev_hit hN18 rfl) rfl rfl ?_
   refine g_false (j := 3) (dj := 24) (b := true) rfl rfl rfl (ev_hit hN18 rfl) rfl rfl ?_
   refine g_false (j := 3) (dj := 24) (b := true) rfl rfl rfl (ev_hit hN18 rfl) rfl rfl ?_
   refine g_false (j := 3) (dj := 24) (b := true) rfl rfl rfl (ev_hit hN18 rfl) rfl rfl ?_
   refine op_pick_f (ev_hit hN18 rfl) rfl ?_
   refine reg_nil ?_
   refine hK27 _ _ ?_
   refine wp_cond_false (ev_hit hN18 rfl) ?_
   refine wp_skip ?_
   refine hK22 _ _ ?_
   refine one_reg ?_
   refine op_add (ev_base hN18 rfl s18_17) rfl (add64 (by omega)) ?_
   refine op_move (ev_hit hN18 rfl) ?_
   refine reg_nil ?_
   -- round 18T 23F
   exact loop_next _ hN18 hd18 ⟨(i + 1), r, rfl, (sl_base hN18 rfl s18_0), (sl_base hN18 rfl s18_1), (sl_base hN18 rfl s18_2), (sl_base hN18 rfl s18_6), (sl_base hN18 rfl s18_15), (sl_base hN18 rfl s18_16), (sl_hit hN18 rfl).trans (congrArg (Value.int .i64) (by omega)), (sl_base hN18 rfl s18_7), (by omega), (filt_le (by omega)), djr, hb, (by omega), hk, hM, hA, hB11, hO14, (hO19.cast (by rw [filtF (d := 0) (by omega) (by rw [decide_eq_false (fun h => h c23)]; rfl)]) (by rw [filtF (d := 0) (by omega) (by rw [decide_eq_false (fun h => h c23)]; rfl)]))⟩ (by omega)
 · -- 18F
  refine reg_nil ?_
  refine hK20 _ _ ?_
  refine seq_any fun K43 hK43 => ?_
  refine wp_cond_false (ev_hit hN18 rfl) ?_
  refine wp_exit (then_exit (then_exit (blk_hit ?_)))
  refine hK9 _ _ ?_
  refine seq_any fun K44 hK44 => ?_
  refine one_reg ?_
  refine op_move (ev_base hN18 rfl s18_7) ?_
  refine op_assign (ev_hit hN18 rfl) ?_
  refine reg_nil ?_
  refine hK44 _ _ ?_
  refine wp_ret ?_
  refine ret1 rfl hd18 (ev_hit hN18 rfl) ⟨_, rfl, ?_⟩
  -- path 18F
  rw [List.take_of_length_le (by omega)] at hO19
  exact ⟨hb, hO19⟩

end Go.Proofs.Ytmhdbphpmgjpcaa

/- Walks, written by a program: what each function of the translation hands back. -/
namespace Go.Proofs.Ytmhdbphpmgjpcaa
open Go.Gx Go.RowKit
attribute [local irreducible] wpList wpStill Code.wp Calls

theorem ask1 {base : Nat} {la rv wv : Value} {lab : List UInt16} {stp : Int} {dm : Bool} {p tb : Nat} {l : List UInt16} {lv : Value} {w : World} (hb9 : Bx w tb 155 [ptr p 0]) (hx : Bx w p 164 [la, .int .u64 stp, rv, wv, .bool dm]) (hLa : Own w base 46 1 la lab.length (lab.map u16v)) (hl : RdC w 0 w.heap.size 1 lv l.length (l.map u16v)) (h8 : lab.length ≤ 8) (hl8 : l.length ≤ 8) : Ret Try.prog 97 #[lv, (ptr tb 0)] w (fun v' w' => Below w.heap.size w w' ∧ v' = .bool (decide (l = lab))) := by
 have hb := Below.refl w.heap.size w
 refine enter (N := 11) Try.func97 rfl rfl (by simp) fun a0 hN hd hA => ?_
 have s0 : a0.tmps.getD 0 undef = lv := hA 0 (by simp)
 have s1 : a0.tmps.getD 1 undef = (ptr tb 0) := hA 1 (by simp)
 clear hA
 refine seq_any fun K1 hK1 => ?_
 refine one_reg ?_
 refine op_assign rfl ?_
 refine reg_nil ?_
 refine hK1 _ _ ?_
 refine seq_any fun K2 hK2 => ?_
 refine one_reg ?_
 refine op_move (ev_base hN rfl s0) ?_
 refine op_load1 (v := (ptr p 0)) one155 (ev_base hN rfl s1) (hb9.cell rfl) ?_
 refine op_nil (ev_hit hN rfl) ?_
 refine op_field fld164_0 (ev_hit hN rfl) ?_
 refine op_load1 (v := la) one54 (ev_hit hN rfl) (hx.cell rfl) ?_
 refine op_fn (vs := [lv, la]) ok98 ⟨(ev_hit hN rfl), ⟨(ev_hit hN rfl), trivial⟩⟩ (lcmpW_ret l lab _ _ _ (by first | assumption | omega | (simp only [List.length_append, List.length_cons, List.length_nil, List.length_drop, List.length_take]; omega) | (dsimp only; omega) | decide | (simp [keyV, be8_len]; done)) (by first | assumption | omega | (simp only [List.length_append, List.length_cons, List.length_nil, List.length_drop, List.length_take]; omega) | (dsimp only; omega) | decide | (simp [keyV, be8_len]; done)) (show RdC w 0 w.heap.size 1 lv l.length (l.map u16v) from by have hh : RdC w 0 w.heap.size 1 _ _ _ := (hl.mono (L' := 0) (B' := w.heap.size) (Nat.zero_le _) (by omega)); first | exact hh | exact hh.cast (by first | omega | (simp; try omega)) (by first | rfl | simp [u16v])) (show RdC w 0 w.heap.size 1 la lab.length (lab.map u16v) from by have hh : RdC w 0 w.heap.size 1 _ _ _ := (hLa.rdw.mono (L' := 0) (B' := w.heap.size) (Nat.zero_le _) (by omega)); first | exact hh | exact hh.cast (by first | omega | (simp; try omega)) (by first | rfl | simp [u16v]))) ?_
 rintro _ w3 ⟨E4, rfl⟩
 have E4 := grown_of_below E4
 have z_w3 := E4.size
 have hb9 := hb9.keep0 E4
 have hx := hx.keep0 E4
 have hLa := hLa.keep0 E4
 have hl := hl.keep0 E4
 have hb := below_step0 hb E4 hb.size
 refine op_eql (ev_hit hN rfl) rfl (fun c10 => ?_) (fun c10 => ?_)
 · -- 10T
  refine op_assign (ev_hit hN rfl) ?_
  refine reg_nil ?_
  refine hK2 _ _ ?_
  refine wp_ret ?_
  refine ret1 rfl hd (ev_hit hN rfl) ⟨_, rfl, ?_⟩
  -- path 10T
  exact ⟨hb, congrArg Value.bool (decide_eq_true (cmpL_zero.1 c10)).symm⟩
 · -- 10F
  refine op_assign (ev_hit hN rfl) ?_
  refine reg_nil ?_
  refine hK2 _ _ ?_
  refine wp_ret ?_
  refine ret1 rfl hd (ev_hit hN rfl) ⟨_, rfl, ?_⟩
  -- path 10F
  exact ⟨hb, congrArg Value.bool (decide_eq_false (fun h => c10 (cmpL_zero.2 h))).symm⟩

theorem Ask_hit {base k m : Nat} {M : TM} {C : List TC} {F0 : Nat → Prop} {p : Nat} {T : TX} {FT : Nat → Prop} {Rs : List (List UInt8)} {rsv : Value} {x : List UInt8} {Lr Br : Nat} {n : Int} {w : World} (hbase : base ≤ w.heap.size) (hk : Bx w k 121 [.map (some m)]) (hM : MapC (Value.int .i64) pv w m (esOf M C)) (hA : LkAll w base M C F0) (hMo : MOk M) (hT : mget M n = some T) (hes : mget (esOf M C) n = some p) (hTx : TxR w base p T FT) (hsm : T.reads.length ≤ 50000 ∧ T.writes.length ≤ 50000) (hRl : Rs.length ≤ 1000) (hRs : RdC w Lr Br 1 rsv Rs.length (Rs.map sv)) (hBr : Br ≤ w.heap.size) (hap : ∀ y, FT y → y < Lr ∨ Br ≤ y) : Ret Try.prog 55 #[(ptr k 0), (Value.int .i64 n), rsv, (Value.string (bs x))] w (fun v' w' => Gr w w' FT ∧ v' = .tuple #[.int .i64 (askO M n T Rs x), .int .i64 0] ∧ ∃ FT', TxR w' base p (askT T Rs x (askO M n T Rs x)) FT' ∧ NewF w.heap.size FT FT') := by
 have hi_k := hk.lt
 have hi_m := hM.lt
 have hm1 := hMo.1
 have hT8 : TOk T := (hMo.2 _ (mget_mem hT)).2
 have hl8 := hT8.1
 have hol := others_len (M := M) (n := n) (q := sameQ T)
 have djk := hA.notBx hk (by decide) (by decide) (by decide) (by decide)
 have djm := hA.notMap hM
 have hbT : ∀ y, FT y → base ≤ y := fun y hy => (hTx.lt y hy).1
 have hb := Gr.refl w FT
 refine enter (N := 91) Try.func55 rfl rfl (by simp) fun a0 hN hd hA => ?_
 have s0 : a0.tmps.getD 0 undef = (ptr k 0) := hA 0 (by simp)
 have s1 : a0.tmps.getD 1 undef = (Value.int .i64 n) := hA 1 (by simp)
 have s2 : a0.tmps.getD 2 undef = rsv := hA 2 (by simp)
 have s3 : a0.tmps.getD 3 undef = (Value.string (bs x)) := hA 3 (by simp)
 clear hA
 refine seq_any fun K11 hK11 => ?_
 refine one_reg ?_
 refine op_assign rfl ?_
 refine op_assign rfl ?_
 refine reg_nil ?_
 refine hK11 _ _ ?_
 refine seq_any fun K12 hK12 => ?_
 refine one_reg ?_
 refine op_move (ev_base hN rfl s0) ?_
 refine op_move (ev_base hN rfl s1) ?_
 refine op_fn (vs := [(ptr k 0), (Value.int .i64 n)]) ok95 ⟨(ev_hit hN rfl), ⟨(ev_hit hN rfl), trivial⟩⟩ (Ret.flip (at_hit n hk hM hes)) ?_
 rintro _ _ ⟨rfl, rfl⟩
 refine op_move (ev_hit hN rfl) ?_
 refine op_extract (ev_hit hN rfl) rfl ?_
 refine op_extract (ev_hit hN rfl) rfl ?_
 refine op_alloc (cs := [(Value.pointer none)]) zero155 rfl ?_
 intro w13 b14 lo_b14 hi_b14 hB16 E15
 have dj17 : ¬ F0 b14 := fun hf => by have := (hA.lt _ hf).2; omega
 have dj18 : ¬ FT b14 := fun hf => by have := (hTx.lt _ hf).2; omega
 have z_w13 := E15.size
 have hk := hk.keep0 E15
 have hM := hM.keep0 E15
 have hA := hA.keepG (Gr.of0 E15 NoB) (fun _ _ h => h)
 have hTx := hTx.keepG (Gr.of0 E15 NoB) (fun _ _ h => h)
 have hRs := hRs.keep0 E15
 have hb := hb.step0 E15
 have hB16_old := hB16
 refine op_store (vs := [(ptr p 0)]) (cs' := [(ptr p 0)]) size155 (ev_hit hN rfl) (ev_hit hN rfl) rfl rfl rfl hB16 (Nat.le_of_ble_eq_true rfl) rfl ?_
 intro w21 hB16 E22
 have z_w21 := E22.size
 have hk := hk.keep E22 (fun hh => hk.ne hB16_old (by decide) (Option.some.inj hh))
 have hM := hM.keepB hB16_old E22
 have hA := hA.keepG (Gr.of E22) (Dj.one dj17)
 have hTx := hTx.keepG (Gr.of E22) (Dj.one dj18)
 have hRs := hRs.keep E22 (fun k hk => .inr (by simp at hk; omega))
 have hb := hb.step1 E22 (by omega)
 refine op_assign (ev_hit hN rfl) ?_
 refine reg_nil ?_
 refine hK12 _ _ ?_
 refine seq_any fun K23 hK23 => ?_
 refine seq_any fun K24 hK24 => ?_
 refine one_reg ?_
 refine op_move (ev_hit hN rfl) ?_
 refine op_bin (v := .bool false) (ev_hit hN rfl) rfl (by rw [binOp_neq]; rfl) ?_
 refine reg_nil ?_
 refine hK24 _ _ ?_
 refine wp_cond_false (ev_hit hN rfl) ?_
 refine wp_skip ?_
 refine hK23 _ _ ?_
 refine seq_any fun K25 hK25 => ?_
 refine one_reg ?_
 refine op_assign rfl ?_
 refine reg_nil ?_
 refine hK25 _ _ ?_
 refine seq_any fun K26 hK26 => ?_
 refine seq_any fun K27 hK27 => ?_
 refine one_reg ?_
 refine op_move (ev_base hN rfl s0) ?_
 refine op_move (ev_base hN rfl s1) ?_
 obtain ⟨la0, rv0, wv0, D0, hp0, hx0, hL0, hR0, hD0, hW0, hDe0, hF0⟩ := hTx.parts
 refine op_mkfn (cv := [(ptr b14 0)]) ⟨(ev_hit hN rfl), trivial⟩ ?_
 refine op_fn (vs := [(ptr k 0), (Value.int .i64 n), (Value.func (.func 97) #[] #[(ptr b14 0)])]) ok96 ⟨(ev_hit hN rfl), ⟨(ev_hit hN rfl), ⟨(ev_hit hN rfl), trivial⟩⟩⟩ (others_ret (q := sameQ T) n (by omega) hk hM hA hMo (g := 97) (fs := []) (cs := [(ptr b14 0)]) ok97 (fun j hj w1 E => ask1 (hB16.keep0 (grown_of_below E)) (hx0.keep0 (grown_of_below E)) (hL0.keep0 (grown_of_below E)) (((hA.2.1 j hj).2.2.1.keep0 (grown_of_below E)).rdw.mono (Nat.zero_le _) (Nat.le_refl _)) hT8.1 (hMo.2 _ (getD_mem hj)).2.1)) ?_
 rintro v28 w29 ⟨E30, hO28⟩
 have dj31 : Dj F0 (Bl v28) := Dj.fresh (fun k hk => (hA.lt k hk).2) (fun k hk => (hO28.lt k hk).1)
 have dj32 : Dj FT (Bl v28) := Dj.fresh (fun k hk => (hTx.lt k hk).2) (fun k hk => (hO28.lt k hk).1)
 have E30 := grown_of_below E30
 have z_w29 := E30.size
 have hk := hk.keep0 E30
 have hM := hM.keep0 E30
 have hA := hA.keepG (Gr.of0 E30 NoB) (fun _ _ h => h)
 have hTx := hTx.keepG (Gr.of0 E30 NoB) (fun _ _ h => h)
 have hRs := hRs.keep0 E30
 have hB16 := hB16.keep0 E30
 have hx0 := hx0.keep0 E30
 have hL0 := hL0.keep0 E30
 have hR0 := hR0.keep0 E30
 have hD0 : ∀ x9 ∈ (D0.map rdL), Own w29 base 46 1 x9.1 x9.2.length (x9.2.map u16v) := fun x9 hx9 => (hD0 x9 hx9).keep0 E30
 have hW0 := hW0.keep0 E30
 have hb := hb.step0 E30
 have hO28 := hO28.mono (base' := w.heap.size) (by omega)
 refine op_len_rd Try.underlying35 (ev_hit hN rfl) hO28.rdw ?_
 refine op_move rfl ?_
 refine reg_nil ?_
 refine hK27 _ _ ?_
 refine wp_block ?_
 refine loop_m (fun mz_ az_ w' => ∃ (i : Nat), mz_ = (othersL M n (sameQ T)).length - i ∧ (az_.tmps.getD 0 undef = (ptr k 0)) ∧ (az_.tmps.getD 2 undef = rsv) ∧ (az_.tmps.getD 3 undef = (Value.string (bs x))) ∧ (az_.tmps.getD 10 undef = (ptr b14 0)) ∧ (az_.tmps.getD 30 undef = v28) ∧ (az_.tmps.getD 31 undef = (Value.int .i64 (((othersL M n (sameQ T)).length : Nat) : Int))) ∧ (az_.tmps.getD 32 undef = (Value.int .i64 ((i : Nat) : Int))) ∧ (az_.tmps.getD 12 undef = (Value.int .i64 (outW (stB M T Rs x) ((othersL M n (sameQ T)).take i)))) ∧ (i ≤ (othersL M n (sameQ T)).length) ∧ (((othersL M n (sameQ T)).take i).any (dieB M T Rs x) = false) ∧ (Gr w w' FT) ∧ (w29.heap.size ≤ w'.heap.size) ∧ (Bx w' k 121 [(Value.map (some m))]) ∧ (MapC (Value.int .i64) pv w' m (esOf M C)) ∧ (LkAll w' base M C F0) ∧ (TxR w' base p T FT) ∧ (RdC w' Lr Br 1 rsv Rs.length (Rs.map sv)) ∧ (Bx w' b14 155 [(ptr p 0)]) ∧ (Bx w' p 164 [la0, (Value.int .u64 T.stamp), rv0, wv0, (Value.bool T.doomed)]) ∧ (Own w' base 46 1 la0 T.label.length (T.label.map u16v)) ∧ (Own w' base 169 2 rv0 D0.length (D0.flatMap cellsRd)) ∧ (∀ x9 ∈ (D0.map rdL), Own w' base 46 1 x9.1 x9.2.length (x9.2.map u16v)) ∧ (Own w' base 9 1 wv0 T.writes.length (T.writes.map sv)) ∧ (Own w' w.heap.size 3 1 v28 (othersL M n (sameQ T)).length ((othersL M n (sameQ T)).map (Value.int .i64)))) _ hN hd ⟨0, rfl, (sl_base hN rfl s0), (sl_base hN rfl s2), (sl_base hN rfl s3), (sl_hit hN rfl), (sl_hit hN rfl), (sl_hit hN rfl), (sl_hit hN rfl), (sl_hit hN rfl), (Nat.zero_le _), rfl, hb, (Nat.le_refl _), hk, hM, hA, hTx, hRs, hB16, hx0, hL0, hR0, hD0, hW0, hO28⟩ ?_
 rintro _ a33 w33 hN33 hd33 ⟨i, rfl, s33_0, s33_2, s33_3, s33_10, s33_30, s33_31, s33_32, s33_12, hi, hno, hb, zl_w33, hk, hM, hA, hTx, hRs, hB16, hx0, hL0, hR0, hD0, hW0, hO28⟩
 have z_w33 := hb.size
 refine seq_any fun K34 hK34 => ?_
 refine one_reg ?_
 refine op_lss (ev_base hN33 rfl s33_32) (ev_base hN33 rfl s33_31) (fun c33 => ?_) (fun c33 => ?_)
 · -- 33T
  refine reg_nil ?_
  refine hK34 _ _ ?_
  refine seq_any fun K35 hK35 => ?_
  refine wp_cond_true (ev_hit hN33 rfl) ?_
  refine wp_skip ?_
  refine hK35 _ _ ?_
  refine seq_any fun K36 hK36 => ?_
  refine wp_block ?_
  refine seq_any fun K37 hK37 => ?_
  refine one_reg ?_
  refine op_index_rd slt35 (ev_base hN33 rfl s33_30) hO28.rdw (ev_base hN33 rfl s33_32) (by omega) (by omega) ?_
  intro b38 o39 h0b38 h1b38 hc40
  refine op_load1 (v := (Value.int .i64 ((othersL M n (sameQ T)).getD i 0))) one3 (ev_hit hN33 rfl) (by have := hc40 0 (Value.int .i64 ((othersL M n (sameQ T)).getD i 0)) (by decide) (el_i64 (i := i) (by omega) (by omega)); simpa using this) ?_
  refine op_assign (ev_hit hN33 rfl) ?_
  refine reg_nil ?_
  refine hK37 _ _ ?_
  refine seq_any fun K41 hK41 => ?_
  refine one_reg ?_
  have hx9 := (others_mem (getD_mem (d := 0) (show i < (othersL M n (sameQ T)).length by omega))).1
  obtain ⟨T9, hT9⟩ := mget_key hx9
  obtain ⟨j9, p9, la9, rv9, wv9, D9, hj9, hl9, hMj9, hCj9, hes9, hp9, hx9, hL9, hR9, hD9, hW9, hDe9⟩ := LkAll.key hA hT9
  have ht9 : txAt M ((othersL M n (sameQ T)).getD i 0) = T9 := by unfold txAt; rw [hT9]; rfl
  have h89 : TOk T9 := (hMo.2 _ (mget_mem hT9)).2
  refine op_move (ev_base hN33 rfl s33_0) ?_
  refine op_nil (ev_hit hN33 rfl) ?_
  refine op_field fld121_0 (ev_hit hN33 rfl) ?_
  refine op_load1 (v := (Value.map (some m))) one119 (ev_hit hN33 rfl) (hk.cell rfl) ?_
  refine op_move (ev_hit hN33 rfl) ?_
  refine op_look_hit (k := ((othersL M n (sameQ T)).getD i 0)) (v := p9) Try.underlying119 (Go.Gx.key_int Try.underlying3) zero155 (ev_hit hN33 rfl) (ev_hit hN33 rfl) hM hes9 ?_
  refine op_assign (ev_hit hN33 rfl) ?_
  refine reg_nil ?_
  refine hK41 _ _ ?_
  refine wp_block ?_
  refine seq_any fun K42 hK42 => ?_
  refine one_reg ?_
  refine op_move (ev_hit hN33 rfl) ?_
  refine op_move (ev_base hN33 rfl s33_2) ?_
  refine op_move (ev_base hN33 rfl s33_3) ?_
  refine op_load1 (v := (ptr p 0)) one155 (ev_base hN33 rfl s33_10) (hB16.cell rfl) ?_
  refine op_nil (ev_hit hN33 rfl) ?_
  refine op_field fld164_0 (ev_hit hN33 rfl) ?_
  refine op_load1 (v := la0) one54 (ev_hit hN33 rfl) (hx0.cell rfl) ?_
  refine op_fn (vs := [(ptr p9 0), rsv, (Value.string (bs x)), la0]) ok99 ⟨(ev_hit hN33 rfl), ⟨(ev_hit hN33 rfl), ⟨(ev_hit hN33 rfl), ⟨(ev_hit hN33 rfl), trivial⟩⟩⟩⟩ (standsT (by omega) hx9 hL9 hR9 hD9 hW9 ⟨h89.1, TOk.rd h89 hDe9⟩ (hRs.mono (Nat.zero_le _) (by omega)) (hL0.rdw.mono (Nat.zero_le _) (by omega)) (by first | exact hT8.1 | omega)) ?_
  rintro _ w43 ⟨E44, rfl⟩
  have E44 := grown_of_below E44
  have z_w43 := E44.size
  have hk := hk.keep0 E44
  have hM := hM.keep0 E44
  have hA := hA.keepG (Gr.of0 E44 NoB) (fun _ _ h => h)
  have hTx := hTx.keepG (Gr.of0 E44 NoB) (fun _ _ h => h)
  have hRs := hRs.keep0 E44
  have hB16 := hB16.keep0 E44
  have hx0 := hx0.keep0 E44
  have hL0 := hL0.keep0 E44
  have hR0 := hR0.keep0 E44
  have hD0 : ∀ x9 ∈ (D0.map rdL), Own w43 base 46 1 x9.1 x9.2.length (x9.2.map u16v) := fun x9 hx9 => (hD0 x9 hx9).keep0 E44
  have hW0 := hW0.keep0 E44
  have hO28 := hO28.keep0 E44
  have hx9 := hx9.keep0 E44
  have hL9 := hL9.keep0 E44
  have hR9 := hR9.keep0 E44
  have hD9 : ∀ x9 ∈ (D9.map rdL), Own w43 base 46 1 x9.1 x9.2.length (x9.2.map u16v) := fun x9 hx9 => (hD9 x9 hx9).keep0 E44
  have hW9 := hW9.keep0 E44
  have hb := hb.step0 E44
  rcases Bool.eq_false_or_eq_true ((standB ⟨T9.label, T9.stamp, D9.map rOf, T9.writes, T9.doomed⟩ Rs x T.label)) with c50 | c50
  · -- 50T
   rw [c50]
   refine op_not (ev_hit hN33 rfl) ?_
   refine op_assign (ev_hit hN33 rfl) ?_
   refine reg_nil ?_
   refine hK42 _ _ ?_
   refine wp_cond_false (ev_hit hN33 rfl) ?_
   refine seq_any fun K45 hK45 => ?_
   refine reg_still mixed (by kernel_rfl) ?_
   intro w47 E46
   have z_w47 := E46.size
   have hk := hk.keep0 E46
   have hM := hM.keep0 E46
   have hA := hA.keepG (Gr.of0 E46 NoB) (fun _ _ h => h)
   have hTx := hTx.keepG (Gr.of0 E46 NoB) (fun _ _ h => h)
   have hRs := hRs.keep0 E46
   have hB16 := hB16.keep0 E46
   have hx0 := hx0.keep0 E46
   have hL0 := hL0.keep0 E46
   have hR0 := hR0.keep0 E46
   have hD0 : ∀ x9 ∈ (D0.map rdL), Own w47 base 46 1 x9.1 x9.2.length (x9.2.map u16v) := fun x9 hx9 => (hD0 x9 hx9).keep0 E46
   have hW0 := hW0.keep0 E46
   have hO28 := hO28.keep0 E46
   have hx9 := hx9.keep0 E46
   have hL9 := hL9.keep0 E46
   have hR9 := hR9.keep0 E46
   have hD9 : ∀ x9 ∈ (D9.map rdL), Own w47 base 46 1 x9.1 x9.2.length (x9.2.map u16v) := fun x9 hx9 => (hD9 x9 hx9).keep0 E46
   have hW9 := hW9.keep0 E46
   have hb := hb.step0 E46
   refine st_step rfl (fun _ h9 => op_move (ev_hit hN33 rfl) h9) ?_
   refine st_step rfl (fun _ h9 => op_nil (ev_hit hN33 rfl) h9) ?_
   refine st_step rfl (fun _ h9 => op_field fld164_1 (ev_hit hN33 rfl) h9) ?_
   refine st_step rfl (fun _ h9 => op_load1 (v := (Value.int .u64 T9.stamp)) one61 (ev_hit hN33 rfl) (hx9.cell rfl) h9) ?_
   refine st_step rfl (fun _ h9 => op_load1 (v := (ptr p 0)) one155 (ev_base hN33 rfl s33_10) (hB16.cell rfl) h9) ?_
   refine st_step rfl (fun _ h9 => op_nil (ev_hit hN33 rfl) h9) ?_
   refine st_step rfl (fun _ h9 => op_field fld164_1 (ev_hit hN33 rfl) h9) ?_
   refine st_step rfl (fun _ h9 => op_load1 (v := (Value.int .u64 T.stamp)) one61 (ev_hit hN33 rfl) (hx0.cell rfl) h9) ?_
   refine st_step rfl (fun _ h9 => op_cmp (b := (decide (T9.stamp ≤ T.stamp))) (ev_hit hN33 rfl) (ev_hit hN33 rfl) (b_leq rfl) h9) ?_
   refine st_step rfl (fun _ h9 => op_assign (ev_hit hN33 rfl) h9) ?_
   refine st_nil ?_
   refine hK45 _ _ ?_
   refine wp_cond_split (ev_hit hN33 rfl) (fun c52 => ?_) (fun c52 => ?_)
   · -- 52T
    have c52 := of_decide_eq_true c52
    refine seq_any fun K48 hK48 => ?_
    refine one_reg ?_
    refine op_assign rfl ?_
    refine op_assign rfl ?_
    refine reg_nil ?_
    refine hK48 _ _ ?_
    refine wp_ret (blk_ret (blk_ret (then_ret (then_ret (blk_ret (then_ret ( ?_)))))))
    refine ret2 rfl hd33 (ev_hit hN33 rfl) (ev_hit hN33 rfl) ⟨_, rfl, ?_⟩
    -- path 33T 50T 52T
    have hst9 : stB M T Rs x ((othersL M n (sameQ T)).getD i 0) = true := by unfold stB; rw [ht9]; rw [hDe9] at c50; exact c50
    have hdi : dieB M T Rs x ((othersL M n (sameQ T)).getD i 0) = true := by unfold dieB; rw [hst9, ht9, decide_eq_true c52]; rfl
    have ho : askO M n T Rs x = 3 := if_pos (any_hit (d := 0) (i := i) (by omega) hdi)
    have ho2 : askT T Rs x (askO M n T Rs x) = T := if_neg (by rw [ho]; decide)
    rw [ho2, ho]
    exact ⟨hb, rfl, _, hTx, (NewF.refl _ _)⟩
   · -- 52F
    have c52 := of_decide_eq_false c52
    refine one_reg ?_
    refine op_assign rfl ?_
    refine reg_nil ?_
    refine hK36 _ _ ?_
    refine one_reg ?_
    refine op_add (ev_base hN33 rfl s33_32) rfl (add64 (by omega)) ?_
    refine op_move (ev_hit hN33 rfl) ?_
    refine reg_nil ?_
    -- round 33T 50T 52F
    have hst9 : stB M T Rs x ((othersL M n (sameQ T)).getD i 0) = true := by unfold stB; rw [ht9]; rw [hDe9] at c50; exact c50
    have hdi : dieB M T Rs x ((othersL M n (sameQ T)).getD i 0) = false := by unfold dieB; rw [hst9, ht9, decide_eq_false c52]; rfl
    exact loop_next _ hN33 hd33 ⟨(i + 1), rfl, (sl_base hN33 rfl s33_0), (sl_base hN33 rfl s33_2), (sl_base hN33 rfl s33_3), (sl_base hN33 rfl s33_10), (sl_base hN33 rfl s33_30), (sl_base hN33 rfl s33_31), (sl_hit hN33 rfl).trans (congrArg (Value.int .i64) (by omega)), (sl_hit hN33 rfl).trans (congrArg (Value.int .i64) (outW_t (by omega) hst9).symm), (by omega), (any_step (d := 0) (by omega) hno hdi), hb, (by omega), hk, hM, hA, hTx, hRs, hB16, hx0, hL0, hR0, hD0, hW0, hO28⟩ (by omega)
  · -- 50F
   rw [c50]
   refine op_not (ev_hit hN33 rfl) ?_
   refine op_assign (ev_hit hN33 rfl) ?_
   refine reg_nil ?_
   refine hK42 _ _ ?_
   refine wp_cond_true (ev_hit hN33 rfl) ?_
   refine wp_skip ?_
   refine hK36 _ _ ?_
   refine one_reg ?_
   refine op_add (ev_base hN33 rfl s33_32) rfl (add64 (by omega)) ?_
   refine op_move (ev_hit hN33 rfl) ?_
   refine reg_nil ?_
   -- round 33T 50F
   have hst9 : stB M T Rs x ((othersL M n (sameQ T)).getD i 0) = false := by unfold stB; rw [ht9]; rw [hDe9] at c50; exact c50
   have hdi : dieB M T Rs x ((othersL M n (sameQ T)).getD i 0) = false := by unfold dieB; rw [hst9]; rfl
   exact loop_next _ hN33 hd33 ⟨(i + 1), rfl, (sl_base hN33 rfl s33_0), (sl_base hN33 rfl s33_2), (sl_base hN33 rfl s33_3), (sl_base hN33 rfl s33_10), (sl_base hN33 rfl s33_30), (sl_base hN33 rfl s33_31), (sl_hit hN33 rfl).trans (congrArg (Value.int .i64) (by omega)), (sl_base hN33 rfl s33_12).trans (congrArg (Value.int .i64) (outW_f (by omega) hst9).symm), (by omega), (any_step (d := 0) (by omega) hno hdi), hb, (by omega), hk, hM, hA, hTx, hRs, hB16, hx0, hL0, hR0, hD0, hW0, hO28⟩ (by omega)
 · -- 33F
  refine reg_nil ?_
  refine hK34 _ _ ?_
  refine seq_any fun K49 hK49 => ?_
  refine wp_cond_false (ev_hit hN33 rfl) ?_
  refine wp_exit (then_exit (then_exit (blk_hit ?_)))
  refine hK26 _ _ ?_
  refine seq_any fun K50 hK50 => ?_
  refine seq_any fun K51 hK51 => ?_
  refine one_reg ?_
  have hnoe := any_end (by omega) hno
  have hte : (othersL M n (sameQ T)).take i = (othersL M n (sameQ T)) := List.take_of_length_le (by omega)
  refine op_move (ev_base hN33 rfl s33_12) ?_
  refine op_eql (ev_hit hN33 rfl) rfl (fun c64 => ?_) (fun c64 => ?_)
  · -- 64T
   refine reg_nil ?_
   refine hK51 _ _ ?_
   refine wp_cond_true (ev_hit hN33 rfl) ?_
   refine seq_any fun K52 hK52 => ?_
   refine seq_any fun K53 hK53 => ?_
   refine one_reg ?_
   refine op_move (ev_base hN33 rfl s33_2) ?_
   refine op_len_rd Try.underlying26 (ev_hit hN33 rfl) hRs ?_
   refine op_move rfl ?_
   refine reg_nil ?_
   refine hK53 _ _ ?_
   refine wp_block ?_
   refine loop_m (fun mz_ az_ w' => ∃ (i2 : Nat) (FK : Nat → Prop), mz_ = Rs.length - i2 ∧ (az_.tmps.getD 3 undef = (Value.string (bs x))) ∧ (az_.tmps.getD 10 undef = (ptr b14 0)) ∧ (az_.tmps.getD 12 undef = (Value.int .i64 (outW (stB M T Rs x) ((othersL M n (sameQ T)).take i)))) ∧ (az_.tmps.getD 65 undef = rsv) ∧ (az_.tmps.getD 66 undef = (Value.int .i64 ((Rs.length : Nat) : Int))) ∧ (az_.tmps.getD 67 undef = (Value.int .i64 ((i2 : Nat) : Int))) ∧ (i2 ≤ Rs.length) ∧ (NewF w.heap.size FT FK) ∧ (Gr w w' FT) ∧ (w33.heap.size ≤ w'.heap.size) ∧ (Bx w' k 121 [(Value.map (some m))]) ∧ (MapC (Value.int .i64) pv w' m (esOf M C)) ∧ (RdC w' Lr Br 1 rsv Rs.length (Rs.map sv)) ∧ (Bx w' b14 155 [(ptr p 0)]) ∧ (TxR w' base p ({ T with reads := gotR T (Rs.take i2) }) FK)) _ hN33 hd33 ⟨0, FT, rfl, (sl_base hN33 rfl s33_3), (sl_base hN33 rfl s33_10), (sl_base hN33 rfl s33_12), (sl_hit hN33 rfl), (sl_hit hN33 rfl), (sl_hit hN33 rfl), (Nat.zero_le _), (NewF.refl _ _), hb, (Nat.le_refl _), hk, hM, hRs, hB16, hTx⟩ ?_
   rintro _ a54 w54 hN54 hd54 ⟨i2, FK, rfl, s54_3, s54_10, s54_12, s54_65, s54_66, s54_67, hi2, hNK, hb, zl_w54, hk, hM, hRs, hB16, hT⟩
   have z_w54 := hb.size
   refine seq_any fun K55 hK55 => ?_
   refine one_reg ?_
   refine op_lss (ev_base hN54 rfl s54_67) (ev_base hN54 rfl s54_66) (fun c68 => ?_) (fun c68 => ?_)
   · -- 68T
    refine reg_nil ?_
    refine hK55 _ _ ?_
    refine seq_any fun K56 hK56 => ?_
    refine wp_cond_true (ev_hit hN54 rfl) ?_
    refine wp_skip ?_
    refine hK56 _ _ ?_
    refine seq_any fun K57 hK57 => ?_
    refine wp_block ?_
    refine seq_any fun K58 hK58 => ?_
    refine one_reg ?_
    refine op_index_rd slt26 (ev_base hN54 rfl s54_65) hRs (ev_base hN54 rfl s54_67) (by omega) (by omega) ?_
    intro b59 o60 h0b59 h1b59 hc61
    refine op_load1 (v := (Value.string (bs (Rs.getD i2 [])))) one9 (ev_hit hN54 rfl) (by have := hc61 0 (Value.string (bs (Rs.getD i2 []))) (by decide) (el_sv (i := i2) (by omega) (by omega)); simpa using this) ?_
    refine op_assign (ev_hit hN54 rfl) ?_
    refine reg_nil ?_
    refine hK58 _ _ ?_
    obtain ⟨la0, rv0, wv0, D0, hp0, hx0, hL0, hR0, hD0, hW0, hDe0, hF0⟩ := hT.parts
    refine reg_split (hd := [_, _, _, _, _, _, _, _, _, _]) (tl := _) 10 mixed (by kernel_rfl) rfl rfl ?_
    refine any_env (φ := phiV [(fun uz => uz = (ptr p 0)), (fun uz => uz = (ptr p 0)), (fun uz => uz = (ptr p 2)), (fun uz => uz = (Value.string (bs (Rs.getD i2 [])))), (fun uz => uz = (ptr p 0)), (fun uz => uz = (ptr p 0)), (fun uz => uz = (ptr p 0)), (fun uz => uz = la0), (fun _ => True), (fun _ => True)]) (G := fun w' => Bx w' b14 155 [(ptr p 0)] ∧ Bx w' p 164 [la0, (Value.int .u64 T.stamp), rv0, wv0, (Value.bool T.doomed)]) [8, 9] (by kernel_rfl) (by kernel_rfl) (by kernel_rfl) (by kernel_rfl) hN54 (fun w1 w2 E h => by obtain ⟨h0, h1⟩ := h; exact ⟨h0.keep0 E, h1.keep0 E⟩) ⟨hB16, hx0⟩ (ObEs.cons ?_ (ObEs.cons ?_ (ObEs.cons ?_ (ObEs.cons ?_ (ObEs.cons ?_ (ObEs.cons ?_ (ObEs.cons ?_ (ObEs.cons ?_ (ObEs.pass rfl (ObEs.pass rfl (ObEs.nil))))))))))) (by simp only [putsL_defers]) ?_
    ·
     intro eA aA wA hNA hGA hbsA hdpA
     have qA_10 := (hbsA 10 rfl).trans (sl_base hN54 rfl s54_10)
     obtain ⟨hB16, hx0⟩ := hGA
     refine op_load1 (v := (ptr p 0)) one155 (ev_base hNA rfl qA_10) (hB16.cell rfl) ?_
     exact obE_end rfl rfl rfl
    ·
     intro eA aA wA hNA hGA hbsA hdpA
     have qA_71 : Sl aA 71 (ptr p 0) := (hdpA 0 _ 71 (by kernel_rfl) rfl rfl).2 rfl
     refine op_nil (ev_base hNA rfl qA_71) ?_
     exact obE_end rfl rfl rfl
    ·
     intro eA aA wA hNA hGA hbsA hdpA
     have qA_72 : Sl aA 72 (ptr p 0) := (hdpA 1 _ 72 (by kernel_rfl) rfl rfl).2 rfl
     refine op_field fld164_2 (ev_base hNA rfl qA_72) ?_
     exact obE_end rfl rfl rfl
    ·
     intro eA aA wA hNA hGA hbsA hdpA
     have qA_17 := (hbsA 17 rfl).trans (sl_hit hN54 rfl)
     refine op_move (ev_base hNA rfl qA_17) ?_
     exact obE_end rfl rfl rfl
    ·
     intro eA aA wA hNA hGA hbsA hdpA
     have qA_10 := (hbsA 10 rfl).trans (sl_base hN54 rfl s54_10)
     obtain ⟨hB16, hx0⟩ := hGA
     refine op_load1 (v := (ptr p 0)) one155 (ev_base hNA rfl qA_10) (hB16.cell rfl) ?_
     exact obE_end rfl rfl rfl
    ·
     intro eA aA wA hNA hGA hbsA hdpA
     have qA_75 : Sl aA 75 (ptr p 0) := (hdpA 4 _ 75 (by kernel_rfl) rfl rfl).2 rfl
     refine op_nil (ev_base hNA rfl qA_75) ?_
     exact obE_end rfl rfl rfl
    ·
     intro eA aA wA hNA hGA hbsA hdpA
     have qA_76 : Sl aA 76 (ptr p 0) := (hdpA 5 _ 76 (by kernel_rfl) rfl rfl).2 rfl
     refine op_field fld164_0 (ev_base hNA rfl qA_76) ?_
     exact obE_end rfl rfl rfl
    ·
     intro eA aA wA hNA hGA hbsA hdpA
     have qA_77 : Sl aA 77 (ptr p 0) := (hdpA 6 _ 77 (by kernel_rfl) rfl rfl).2 rfl
     obtain ⟨hB16, hx0⟩ := hGA
     refine op_load1 (v := la0) one54 (ev_base hNA rfl qA_77) (hx0.cell rfl) ?_
     exact obE_end rfl rfl rfl
    ·
     intro w62 E62 _ a62 hN62 hbs62 hdp62 o_ ho_; obtain rfl := Option.some.inj ho_
     have z_w62 := E62.size
     have hk := hk.keep0 E62
     have hM := hM.keep0 E62
     have hRs := hRs.keep0 E62
     have hB16 := hB16.keep0 E62
     have hT := hT.keepG (Gr.of0 E62 NoB) (fun _ _ h => h)
     have hx0 := hx0.keep0 E62
     have hL0 := hL0.keep0 E62
     have hR0 := hR0.keep0 E62
     have hD0 : ∀ x9 ∈ (D0.map rdL), Own w62 base 46 1 x9.1 x9.2.length (x9.2.map u16v) := fun x9 hx9 => (hD0 x9 hx9).keep0 E62
     have hW0 := hW0.keep0 E62
     have hb := hb.step0 E62
     have q62_78 : Sl a62 78 la0 := (hdp62 7 _ 78 (by kernel_rfl) rfl rfl).2 rfl
     refine op_fn (vs := [la0]) ok77 ⟨(ev_base hN62 rfl q62_78), trivial⟩ (CloneL T.label _ _ (by omega) (hL0.rdw.mono (Nat.zero_le _) (by omega))) ?_
     rintro v63 w64 ⟨E65, hO63⟩
     have dj66 : Dj FK (Bl v63) := Dj.fresh (fun k hk => (hT.lt k hk).2) (fun k hk => (hO63.lt k hk).1)
     have dj67 : DJ v63 la0 := fun k hk hg => by have q1 := (hO63.lt k hk).1; have q2 := (hL0.lt k hg).2; omega
     have dja68 : ∀ x9 ∈ (D0.map rdL), DJ x9.1 v63 := fun x9 hx9 k hk hg => by have q1 := ((hD0 x9 hx9).lt k hk).2; have q2 := (hO63.lt k hg).1; omega
     have E65 := grown_of_below E65
     have z_w64 := E65.size
     have hk := hk.keep0 E65
     have hM := hM.keep0 E65
     have hRs := hRs.keep0 E65
     have hB16 := hB16.keep0 E65
     have hT := hT.keepG (Gr.of0 E65 NoB) (fun _ _ h => h)
     have hx0 := hx0.keep0 E65
     have hL0 := hL0.keep0 E65
     have hR0 := hR0.keep0 E65
     have hD0 : ∀ x9 ∈ (D0.map rdL), Own w64 base 46 1 x9.1 x9.2.length (x9.2.map u16v) := fun x9 hx9 => (hD0 x9 hx9).keep0 E65
     have hW0 := hW0.keep0 E65
     have hb := hb.step0 E65
     have hO63 := hO63.mono (base' := w.heap.size) (by omega)
     refine ke_end rfl (by decide) rfl ⟨hB16, hx0⟩ ?_
     intro w69 E69 _ a69 hN69 hbs69 hdp69 o_ ho_; obtain rfl := Option.some.inj ho_
     have z_w69 := E69.size
     have hk := hk.keep0 E69
     have hM := hM.keep0 E69
     have hRs := hRs.keep0 E69
     have hB16 := hB16.keep0 E69
     have hT := hT.keepG (Gr.of0 E69 NoB) (fun _ _ h => h)
     have hx0 := hx0.keep0 E69
     have hL0 := hL0.keep0 E69
     have hR0 := hR0.keep0 E69
     have hD0 : ∀ x9 ∈ (D0.map rdL), Own w69 base 46 1 x9.1 x9.2.length (x9.2.map u16v) := fun x9 hx9 => (hD0 x9 hx9).keep0 E69
     have hW0 := hW0.keep0 E69
     have hO63 := hO63.keep0 E69
     have hb := hb.step0 E69
     have q69_74 : Sl a69 74 (Value.string (bs (Rs.getD i2 []))) := (hdp69 3 _ 74 (by kernel_rfl) rfl rfl).2 rfl
     have q69_79 : Sl a69 79 v63 := (Option.some.inj ((hdp69 8 _ 79 (by kernel_rfl) rfl rfl).1 0 rfl)).symm
     refine op_build (pv := [(0, (Value.string (bs (Rs.getD i2 [])))), (1, v63)]) (v := (Value.agg #[(Value.string (bs (Rs.getD i2 []))), v63])) ⟨rfl, (ev_base hN69 rfl q69_74), ⟨rfl, (ev_base hN69 rfl q69_79), trivial⟩⟩ (by obtain ⟨_, _, _, rfl⟩ := hO63.sl; kernel_rfl) ?_
     refine ke_end rfl (by decide) rfl ⟨hB16, hx0⟩ ?_
     intro w70 E70 a70 hN70 hd70 hbs70 hph70
     have hd70 := hd70.trans ((by simp only [putsL_defers] : _ = _).trans hd54)
     have z_w70 := E70.size
     have hk := hk.keep0 E70
     have hM := hM.keep0 E70
     have hRs := hRs.keep0 E70
     have hB16 := hB16.keep0 E70
     have hT := hT.keepG (Gr.of0 E70 NoB) (fun _ _ h => h)
     have hx0 := hx0.keep0 E70
     have hL0 := hL0.keep0 E70
     have hR0 := hR0.keep0 E70
     have hD0 : ∀ x9 ∈ (D0.map rdL), Own w70 base 46 1 x9.1 x9.2.length (x9.2.map u16v) := fun x9 hx9 => (hD0 x9 hx9).keep0 E70
     have hW0 := hW0.keep0 E70
     have hO63 := hO63.keep0 E70
     have hb := hb.step0 E70
     have s70_3 := (hbs70 3 rfl).trans (sl_base hN54 rfl s54_3)
     have s70_10 := (hbs70 10 rfl).trans (sl_base hN54 rfl s54_10)
     have s70_12 := (hbs70 12 rfl).trans (sl_base hN54 rfl s54_12)
     have s70_65 := (hbs70 65 rfl).trans (sl_base hN54 rfl s54_65)
     have s70_66 := (hbs70 66 rfl).trans (sl_base hN54 rfl s54_66)
     have s70_67 := (hbs70 67 rfl).trans (sl_base hN54 rfl s54_67)
     have s70_73 : Sl a70 73 (ptr p 2) := (hph70 2 _ 73 rfl rfl).2 rfl
     have s70_80 : Sl a70 80 (Value.agg #[(Value.string (bs (Rs.getD i2 []))), v63]) := (Option.some.inj ((hph70 9 _ 80 rfl rfl).1 1 rfl)).symm
     refine split_end ?_
     refine from_seq (tl := [_]) (by decide) (by kernel_rfl) rfl ?_
     refine op_fn (vs := [(ptr p 2), (Value.agg #[(Value.string (bs (Rs.getD i2 []))), v63]), (Value.func (.func 101) #[] #[])]) ok100 ⟨(ev_base hN70 rfl s70_73), ⟨(ev_base hN70 rfl s70_80), ⟨rfl, trivial⟩⟩⟩ (addR_T (Rs.getD i2 []) hT (hO63.mono (by omega)) (by omega) ⟨hT8.1, (gotR_ok hT8.1 (Rs.take i2) T rfl hT8.2).1⟩ (by have h9 := (gotR_ok hT8.1 (Rs.take i2) T rfl hT8.2).2; simp only [List.length_take] at h9; show (gotR T (Rs.take i2)).length ≤ 100000; omega)) ?_
     rintro u71 w72 ⟨E73, F71, hT71, hs71⟩
     have hlc71 := fun y hy => (hO63.lt y hy).1
     have hT_old := hT
     have hN71 : NewF w.heap.size FT F71 := fun y hy => (hs71 y hy).elim (fun q => hNK y q) (fun q => .inr (q.elim (fun q => hlc71 y q) (fun q => by omega)))
     have z_w72 := E73.size
     have hk := hk.keepG E73 (hT_old.notBx hk (by decide) (by decide) (by decide) (by decide))
     have hM := hM.keepG E73 (hT_old.notMap hM)
     have hRs := hRs.keepG E73 (fun k hk => (hNK k hk).elim (fun q => hap k q) (fun q => .inr (by omega)))
     have hB16 := hB16.keepG E73 (hT_old.notBx hB16 (by decide) (by decide) (by decide) (by decide))
     have hb := hb.stepF E73 (fun y hy h9 => (hNK y h9).resolve_right (by omega))
     have hT71 : TxR w72 base p ({ T with reads := addR (gotR T (Rs.take i2)) ((Rs.getD i2 []), T.label) }) F71 := hT71
     refine reg_nil ?_
     refine hK57 _ _ ?_
     refine one_reg ?_
     refine op_add (ev_base hN70 rfl s70_67) rfl (add64 (by omega)) ?_
     refine op_move (ev_hit hN70 rfl) ?_
     refine reg_nil ?_
     -- round 33F 64T 68T
     exact loop_next _ hN70 hd70 ⟨(i2 + 1), F71, rfl, (sl_base hN70 rfl s70_3), (sl_base hN70 rfl s70_10), (sl_base hN70 rfl s70_12), (sl_base hN70 rfl s70_65), (sl_base hN70 rfl s70_66), (sl_hit hN70 rfl).trans (congrArg (Value.int .i64) (by omega)), (by omega), hN71, hb, (by omega), hk, hM, hRs, hB16, (by rw [gotR_step (by omega)]; exact hT71)⟩ (by omega)
   · -- 68F
    refine reg_nil ?_
    refine hK55 _ _ ?_
    refine seq_any fun K74 hK74 => ?_
    refine wp_cond_false (ev_hit hN54 rfl) ?_
    refine wp_exit (then_exit (then_exit (blk_hit ?_)))
    refine hK52 _ _ ?_
    refine seq_any fun K75 hK75 => ?_
    refine one_reg ?_
    refine op_move (ev_base hN54 rfl s54_3) ?_
    refine op_sneq (ev_hit hN54 rfl) rfl (fun c84 => ?_) (fun c84 => ?_)
    · -- 84T
     refine reg_nil ?_
     refine hK75 _ _ ?_
     refine wp_cond_true (ev_hit hN54 rfl) ?_
     refine one_reg ?_
     refine op_load1 (v := (ptr p 0)) one155 (ev_base hN54 rfl s54_10) (hB16.cell rfl) ?_
     refine op_nil (ev_hit hN54 rfl) ?_
     refine op_field fld164_3 (ev_hit hN54 rfl) ?_
     refine op_move (ev_base hN54 rfl s54_3) ?_
     refine op_fn (vs := [(ptr p 3), (Value.string (bs x)), (Value.func (.func 104) #[] #[])]) ok103 ⟨(ev_hit hN54 rfl), ⟨(ev_hit hN54 rfl), ⟨rfl, trivial⟩⟩⟩ (addS_T x hT (by omega) ⟨hT8.1, (gotR_ok hT8.1 (Rs.take i2) T rfl hT8.2).1⟩ (show T.writes.length ≤ 100000 by omega)) ?_
     rintro u76 w77 ⟨E78, F76, hT76, hs76⟩
     have hT_old := hT
     have hN76 : NewF w.heap.size FT F76 := fun y hy => (hs76 y hy).elim (fun q => hNK y q) (fun q => .inr (by omega))
     have z_w77 := E78.size
     have hk := hk.keepG E78 (hT_old.notBx hk (by decide) (by decide) (by decide) (by decide))
     have hM := hM.keepG E78 (hT_old.notMap hM)
     have hRs := hRs.keepG E78 (fun k hk => (hNK k hk).elim (fun q => hap k q) (fun q => .inr (by omega)))
     have hB16 := hB16.keepG E78 (hT_old.notBx hB16 (by decide) (by decide) (by decide) (by decide))
     have hb := hb.stepF E78 (fun y hy h9 => (hNK y h9).resolve_right (by omega))
     have hT76 : TxR w77 base p ({ T with reads := gotR T (Rs.take i2), writes := addW T.writes x }) F76 := hT76
     refine reg_nil ?_
     refine hK50 _ _ ?_
     refine seq_any fun K79 hK79 => ?_
     refine one_reg ?_
     refine op_move (ev_base hN54 rfl s54_12) ?_
     refine op_assign (ev_hit hN54 rfl) ?_
     refine op_assign rfl ?_
     refine reg_nil ?_
     refine hK79 _ _ ?_
     refine wp_ret ?_
     refine ret2 rfl hd54 (ev_hit hN54 rfl) (ev_hit hN54 rfl) ⟨_, rfl, ?_⟩
     -- path 33F 64T 68F 84T
     have hv := c64
     rw [hte] at c64
     have ho : askO M n T Rs x = 1 := (if_neg (by rw [hnoe]; decide)).trans c64
     have ho2 : askT T Rs x (askO M n T Rs x) = { T with reads := gotR T Rs, writes := gotW T x } := if_pos ho
     have hre : Rs.take i2 = Rs := List.take_of_length_le (by omega)
     have hgw : gotW T x = addW T.writes x := if_neg c84
     rw [ho2, ho, hgw]
     rw [hre] at hT76
     exact ⟨hb, congrArg (fun z : Int => Value.tuple #[.int .i64 z, .int .i64 0]) hv, _, hT76, hN76⟩
    · -- 84F
     refine reg_nil ?_
     refine hK75 _ _ ?_
     refine wp_cond_false (ev_hit hN54 rfl) ?_
     refine wp_skip ?_
     refine hK50 _ _ ?_
     refine seq_any fun K80 hK80 => ?_
     refine one_reg ?_
     refine op_move (ev_base hN54 rfl s54_12) ?_
     refine op_assign (ev_hit hN54 rfl) ?_
     refine op_assign rfl ?_
     refine reg_nil ?_
     refine hK80 _ _ ?_
     refine wp_ret ?_
     refine ret2 rfl hd54 (ev_hit hN54 rfl) (ev_hit hN54 rfl) ⟨_, rfl, ?_⟩
     -- path 33F 64T 68F 84F
     have hv := c64
     rw [hte] at c64
     have ho : askO M n T Rs x = 1 := (if_neg (by rw [hnoe]; decide)).trans c64
     have ho2 : askT T Rs x (askO M n T Rs x) = { T with reads := gotR T Rs, writes := gotW T x } := if_pos ho
     have hre : Rs.take i2 = Rs := List.take_of_length_le (by omega)
     have hgw : gotW T x = T.writes := if_pos c84
     rw [ho2, ho, hgw]
     rw [hre] at hT
     exact ⟨hb, congrArg (fun z : Int => Value.tuple #[.int .i64 z, .int .i64 0]) hv, _, hT, hNK⟩
  · -- 64F
   refine reg_nil ?_
   refine hK51 _ _ ?_
   refine wp_cond_false (ev_hit hN33 rfl) ?_
   refine wp_skip ?_
   refine hK50 _ _ ?_
   refine seq_any fun K81 hK81 => ?_
   refine one_reg ?_
   refine op_move (ev_base hN33 rfl s33_12) ?_
   refine op_assign (ev_hit hN33 rfl) ?_
   refine op_assign rfl ?_
   refine reg_nil ?_
   refine hK81 _ _ ?_
   refine wp_ret ?_
   refine ret2 rfl hd33 (ev_hit hN33 rfl) (ev_hit hN33 rfl) ⟨_, rfl, ?_⟩
   -- path 33F 64F
   rw [hte] at c64
   have ho : askO M n T Rs x = outW (stB M T Rs x) (othersL M n (sameQ T)) := if_neg (by rw [hnoe]; decide)
   have ho2 : askT T Rs x (askO M n T Rs x) = T := if_neg (by rw [ho]; exact c64)
   rw [ho2, ho]
   exact ⟨hb, congrArg (fun z : Int => Value.tuple #[.int .i64 z, .int .i64 0]) (by rw [hte]), _, hTx, (NewF.refl _ _)⟩

theorem Ask_miss {rsv : Value} {x : List UInt8} {n : Int} {k m : Nat} {es : List (Int × Nat)} {w : World} (hk : Bx w k 121 [.map (some m)]) (hM : MapC (Value.int .i64) pv w m es) (hg : mget es n = none)  : Ret Try.prog 55 #[(ptr k 0), (Value.int .i64 n), rsv, (Value.string (bs x))] w (fun v' w' => Below w.heap.size w w' ∧ v' = .tuple #[.int .i64 0, .int .i64 18]) := by
 have hb := Below.refl w.heap.size w
 refine enter (N := 91) Try.func55 rfl rfl (by simp) fun a0 hN hd hA => ?_
 have s0 : a0.tmps.getD 0 undef = (ptr k 0) := hA 0 (by simp)
 have s1 : a0.tmps.getD 1 undef = (Value.int .i64 n) := hA 1 (by simp)
 have s2 : a0.tmps.getD 2 undef = rsv := hA 2 (by simp)
 have s3 : a0.tmps.getD 3 undef = (Value.string (bs x)) := hA 3 (by simp)
 clear hA
 refine seq_any fun K82 hK82 => ?_
 refine one_reg ?_
 refine op_assign rfl ?_
 refine op_assign rfl ?_
 refine reg_nil ?_
 refine hK82 _ _ ?_
 refine seq_any fun K83 hK83 => ?_
 refine one_reg ?_
 refine op_move (ev_base hN rfl s0) ?_
 refine op_move (ev_base hN rfl s1) ?_
 refine op_fn (vs := [(ptr k 0), (Value.int .i64 n)]) ok95 ⟨(ev_hit hN rfl), ⟨(ev_hit hN rfl), trivial⟩⟩ (Ret.flip (at_miss n hk hM hg)) ?_
 rintro _ _ ⟨rfl, rfl⟩
 refine op_move (ev_hit hN rfl) ?_
 refine op_extract (ev_hit hN rfl) rfl ?_
 refine op_extract (ev_hit hN rfl) rfl ?_
 refine op_alloc (cs := [(Value.pointer none)]) zero155 rfl ?_
 intro w84 b85 lo_b85 hi_b85 hB87 E86
 have z_w84 := E86.size
 have hk := hk.keep0 E86
 have hM := hM.keep0 E86
 have hb := below_step0 hb E86 hb.size
 have hB87_old := hB87
 refine op_store (vs := [(Value.pointer none)]) (cs' := [(Value.pointer none)]) size155 (ev_hit hN rfl) (ev_hit hN rfl) rfl rfl rfl hB87 (Nat.le_of_ble_eq_true rfl) rfl ?_
 intro w90 hB87 E91
 have z_w90 := E91.size
 have hk := hk.keep E91 (fun hh => hk.ne hB87_old (by decide) (Option.some.inj hh))
 have hM := hM.keepB hB87_old E91
 have hb := below_step1 hb E91 hb.size (by omega)
 refine op_assign (ev_hit hN rfl) ?_
 refine reg_nil ?_
 refine hK83 _ _ ?_
 refine seq_any fun K92 hK92 => ?_
 refine seq_any fun K93 hK93 => ?_
 refine one_reg ?_
 refine op_move (ev_hit hN rfl) ?_
 refine op_bin (v := .bool true) (ev_hit hN rfl) rfl (by rw [binOp_neq]; rfl) ?_
 refine reg_nil ?_
 refine hK93 _ _ ?_
 refine wp_cond_true (ev_hit hN rfl) ?_
 refine seq_any fun K94 hK94 => ?_
 refine one_reg ?_
 refine op_move (ev_hit hN rfl) ?_
 refine op_assign rfl ?_
 refine op_assign (ev_hit hN rfl) ?_
 refine reg_nil ?_
 refine hK94 _ _ ?_
 refine wp_ret (then_ret ( ?_))
 refine ret2 rfl hd (ev_hit hN rfl) (ev_hit hN rfl) ⟨_, rfl, ?_⟩
 -- path
 exact ⟨hb, rfl⟩

theorem Ask_nomap {rsv : Value} {x : List UInt8} {n : Int} {k : Nat} {w : World} (hk : Bx w k 121 [.map none])  : Ret Try.prog 55 #[(ptr k 0), (Value.int .i64 n), rsv, (Value.string (bs x))] w (fun v' w' => Below w.heap.size w w' ∧ v' = .tuple #[.int .i64 0, .int .i64 18]) := by
 have hb := Below.refl w.heap.size w
 refine enter (N := 91) Try.func55 rfl rfl (by simp) fun a0 hN hd hA => ?_
 have s0 : a0.tmps.getD 0 undef = (ptr k 0) := hA 0 (by simp)
 have s1 : a0.tmps.getD 1 undef = (Value.int .i64 n) := hA 1 (by simp)
 have s2 : a0.tmps.getD 2 undef = rsv := hA 2 (by simp)
 have s3 : a0.tmps.getD 3 undef = (Value.string (bs x)) := hA 3 (by simp)
 clear hA
 refine seq_any fun K95 hK95 => ?_
 refine one_reg ?_
 refine op_assign rfl ?_
 refine op_assign rfl ?_
 refine reg_nil ?_
 refine hK95 _ _ ?_
 refine seq_any fun K96 hK96 => ?_
 refine one_reg ?_
 refine op_move (ev_base hN rfl s0) ?_
 refine op_move (ev_base hN rfl s1) ?_
 refine op_fn (vs := [(ptr k 0), (Value.int .i64 n)]) ok95 ⟨(ev_hit hN rfl), ⟨(ev_hit hN rfl), trivial⟩⟩ (Ret.flip (at_nomap n hk)) ?_
 rintro _ _ ⟨rfl, rfl⟩
 refine op_move (ev_hit hN rfl) ?_
 refine op_extract (ev_hit hN rfl) rfl ?_
 refine op_extract (ev_hit hN rfl) rfl ?_
 refine op_alloc (cs := [(Value.pointer none)]) zero155 rfl ?_
 intro w97 b98 lo_b98 hi_b98 hB100 E99
 have z_w97 := E99.size
 have hk := hk.keep0 E99
 have hb := below_step0 hb E99 hb.size
 have hB100_old := hB100
 refine op_store (vs := [(Value.pointer none)]) (cs' := [(Value.pointer none)]) size155 (ev_hit hN rfl) (ev_hit hN rfl) rfl rfl rfl hB100 (Nat.le_of_ble_eq_true rfl) rfl ?_
 intro w103 hB100 E104
 have z_w103 := E104.size
 have hk := hk.keep E104 (fun hh => hk.ne hB100_old (by decide) (Option.some.inj hh))
 have hb := below_step1 hb E104 hb.size (by omega)
 refine op_assign (ev_hit hN rfl) ?_
 refine reg_nil ?_
 refine hK96 _ _ ?_
 refine seq_any fun K105 hK105 => ?_
 refine seq_any fun K106 hK106 => ?_
 refine one_reg ?_
 refine op_move (ev_hit hN rfl) ?_
 refine op_bin (v := .bool true) (ev_hit hN rfl) rfl (by rw [binOp_neq]; rfl) ?_
 refine reg_nil ?_
 refine hK106 _ _ ?_
 refine wp_cond_true (ev_hit hN rfl) ?_
 refine seq_any fun K107 hK107 => ?_
 refine one_reg ?_
 refine op_move (ev_hit hN rfl) ?_
 refine op_assign rfl ?_
 refine op_assign (ev_hit hN rfl) ?_
 refine reg_nil ?_
 refine hK107 _ _ ?_
 refine wp_ret (then_ret ( ?_))
 refine ret2 rfl hd (ev_hit hN rfl) (ev_hit hN rfl) ⟨_, rfl, ?_⟩
 -- path
 exact ⟨hb, rfl⟩

end Go.Proofs.Ytmhdbphpmgjpcaa

/- Who is doomed, plainly. -/
namespace Go.Proofs.Ytmhdbphpmgjpcaa
open Go.Gx
section
variable {M : TM} {T : TX} {xs L : List Int} {x : Int} {i j : Nat} {t : TX} {C : List TC}
end
section
variable {w w' : World} {base j p : Nat} {M : TM} {C : List TC} {F : Nat → Prop} {T : TX} {la rv wv : Value} {D : List RD} {x : Int}
/-- Unlike keys have unlike boxes. -/
theorem LkAll.ne (h : LkAll w base M C F) {i j p q : Nat} {la rv wv la2 rv2 wv2 : Value} {D D2 : List RD} (hi : i < M.length) (hj : j < M.length) (hij : i ≠ j) (h1 : C.getD i default = ⟨p, la, rv, wv, D⟩) (h2 : C.getD j default = ⟨q, la2, rv2, wv2, D2⟩) : p ≠ q := by
  rintro rfl
  exact h.2.2.1 i j hi hj hij p (by rw [h1]; exact .inl rfl) (by rw [h2]; exact .inl rfl)
end
end Go.Proofs.Ytmhdbphpmgjpcaa

/- Walks, written by a program: what each function of the translation hands back. -/
namespace Go.Proofs.Ytmhdbphpmgjpcaa
open Go.Gx Go.RowKit
attribute [local irreducible] wpList wpStill Code.wp Calls

end Go.Proofs.Ytmhdbphpmgjpcaa

/- Locks as objects: what is done with them, told plainly. -/
namespace Go.Proofs.Ytmhdbphpmgjpcaa
open Go.Gx Go.RowKit
/-! plainly -/
def MSm (M : TM) : Prop := ∀ a ∈ M, a.2.reads.length ≤ 50000 ∧ a.2.writes.length ≤ 50000
def newT (l : List UInt16) (s : Int) : TX := ⟨l, s, [], [], false⟩
def enterE (M : TM) (n : Int) : Int := if (mget M n).isSome = true then 18 else 0
def enterM (M : TM) (n : Int) (l : List UInt16) (s : Int) : TM := if (mget M n).isSome = true then M else mput M n (newT l s)
def moveT (t : TX) (l : List UInt16) (s : Int) : TX := { t with label := l, stamp := s }
def moveM (M : TM) (n : Int) (l : List UInt16) (s : Int) : TM := match mget M n with | none => M | some t => if 0 < t.writes.length then M else mput M n (moveT t l s)
def leaveE (M : TM) (n : Int) : Int := if (mget M n).isSome = true then 0 else 18
def askE (M : TM) (n : Int) : Int := if (mget M n).isSome = true then 0 else 18
def othB (M : TM) (n : Int) (q : List UInt16 → Bool) (i : Int) : Bool := decide (i ≠ n) && q (txAt M i).label
theorem any_others {M : TM} {n : Int} {q : List UInt16 → Bool} {p : Int → Bool} : (othersL M n q).any p = M.any fun a => othB M n q a.1 && p a.1 := by
  rw [Bool.eq_iff_iff, List.any_eq_true, List.any_eq_true]
  constructor
  · rintro ⟨i, hi, hp⟩
    have h1 := List.mem_filter.1 hi
    obtain ⟨a, ha, rfl⟩ := List.mem_map.1 (sortK_mem.1 h1.1)
    exact ⟨a, ha, by rw [hp, Bool.and_true]; exact h1.2⟩
  · rintro ⟨a, ha, hp⟩
    rw [Bool.and_eq_true] at hp
    exact ⟨a.1, List.mem_filter.2 ⟨sortK_mem.2 (List.mem_map.2 ⟨a, ha, rfl⟩), hp.1⟩, hp.2⟩
/-- The answer to an asking, whatever the order. -/
def ansO (M : TM) (n : Int) (T : TX) (Rs : List (List UInt8)) (x : List UInt8) : Int :=
  if (M.any fun a => othB M n (sameQ T) a.1 && dieB M T Rs x a.1) = true then 3 else if (M.any fun a => othB M n (sameQ T) a.1 && stB M T Rs x a.1) = true then 2 else 1
theorem askO_eq {M : TM} {n : Int} {T : TX} {Rs : List (List UInt8)} {x : List UInt8} : askO M n T Rs x = ansO M n T Rs x := by
  unfold askO ansO outW; rw [any_others, any_others]
def askV (M : TM) (n : Int) (Rs : List (List UInt8)) (x : List UInt8) : Int := match mget M n with | none => 0 | some t => ansO M n t Rs x
def askM (M : TM) (n : Int) (Rs : List (List UInt8)) (x : List UInt8) : TM := match mget M n with | none => M | some t => mput M n (askT t Rs x (ansO M n t Rs x))
section
variable {w w' : World} {base k p lo : Nat} {M : TM} {F : Nat → Prop} {n s : Int} {l : List UInt16} {lv : Value} {C : List TC}
theorem es_none (h : C.length = M.length) (hg : mget M n = none) : mget (esOf M C) n = none := by
  rw [mget_none] at *; rw [esOf_keys h]; exact hg
theorem es_some {t : TX} (h : C.length = M.length) (hg : mget M n = some t) : ∃ q, mget (esOf M C) n = some q := by
  cases hq : mget (esOf M C) n with
  | some q => exact ⟨q, rfl⟩
  | none => rw [mget_none, esOf_keys h, ← mget_none, hg] at hq; cases hq
theorem es_nil (h : C.length = M.length) (he : esOf M C = []) : M = [] := by
  have := congrArg List.length he
  rw [esOf_len h] at this
  exact List.length_eq_zero_iff.1 this
/-- A transaction more. -/
theorem LkAll.more {q : Nat} {nv : Value} {F0 : Nat → Prop} {t0 : Nat} (hA : LkAll w base M C F0) (E : Gr w w' (fun y => y = t0)) (h0 : ¬ F0 t0) (hb : base ≤ w.heap.size) (hq : w.heap.size ≤ q) (hx : Bx w' q 164 [nv, .int .u64 s, .slice none 0 0, .slice none 0 0, .bool false]) (hL : Own w' w.heap.size 46 1 nv l.length (l.map u16v)) (hg : mget M n = none) :
    ∃ C' F', LkAll w' base (mput M n (newT l s)) C' F' ∧ esOf (mput M n (newT l s)) C' = mput (esOf M C) n q ∧ (∀ x, F' x → F0 x ∨ w.heap.size ≤ x) := by
  have hA' := hA.keepG E (fun x hx hy => h0 (hy ▸ hx))
  have hlk : mlook M n = none := by
    cases hq : mlook M n with
    | none => rfl
    | some r => unfold mget at hg; rw [hq] at hg; cases hg
  have hput : mput M n (newT l s) = M ++ [(n, newT l s)] := by unfold mput; rw [hlk]
  have hput2 : mput (esOf M C) n q = esOf M C ++ [(n, q)] := by unfold mput; rw [esOf_look hA.1, hlk]; rfl
  have hT : TxAt w' base (newT l s) ⟨q, nv, .slice none 0 0, .slice none 0 0, []⟩ := ⟨Nat.le_trans hb hq, hx, hL.mono hb, Own.nil _ _ _ _, fun _ h => (by cases h), Own.nil _ _ _ _, rfl⟩
  have hnew : ∀ x, PartT ⟨q, nv, .slice none 0 0, .slice none 0 0, []⟩ x → w.heap.size ≤ x := fun x hx => by
    rcases hx with rfl | hx | hx | hx | ⟨r, hr, _⟩
    · exact hq
    · exact (hL.lt x hx).1
    · cases hx
    · cases hx
    · cases hr
  refine ⟨C ++ [⟨q, nv, .slice none 0 0, .slice none 0 0, []⟩], (fun x => F0 x ∨ PartT ⟨q, nv, .slice none 0 0, .slice none 0 0, []⟩ x), by rw [hput]; exact hA'.snoc hT (fun x hx hy => by have := (hA.lt x hx).2; have := hnew x hy; omega), by rw [hput, hput2, esOf_snoc hA.1], fun x hx => hx.imp id (hnew x)⟩
theorem EnterR (hb : base ≤ w.heap.size) (hl : RdC w 0 lo 1 lv l.length (l.map u16v)) (hlo : lo ≤ base) (hl8 : l.length ≤ 8) (h : LocksR w base k M F) :
    Ret Try.prog 54 #[ptr k 0, .int .i64 n, lv, .int .u64 s] w (fun v' w' => Gr w w' F ∧ v' = .int .i64 (enterE M n) ∧ ∃ F', LocksR w' base k (enterM M n l s) F' ∧ NewF w.heap.size F F') := by
  have h' := h
  obtain ⟨mv, C, F0, hk, hx, hM, hA, hF⟩ := h'
  have hl2 : RdC w 0 w.heap.size 1 lv l.length (l.map u16v) := hl.mono (Nat.zero_le _) (by omega)
  rcases hM with ⟨rfl, he⟩ | ⟨m, rfl, hm, hM⟩
  · have hM0 := es_nil hA.1 he
    subst hM0
    refine (Enter_nomap hx hl (by omega) (by omega)).mono fun v' w' q => ?_
    obtain ⟨E, rfl, m, q, nv, hm, hq, hx', hb', hL', hM'⟩ := q
    have E1 : Gr w w' (fun y => y = k) := (Gr.of E).mono fun y _ hy => (Option.some.inj hy).symm
    obtain ⟨C', F', hA', hes, hsub⟩ := LkAll.more (n := n) hA E1 (hA.notBx hx (by decide) (by decide) (by decide) (by decide)) hb hq hb' hL' rfl
    refine ⟨E1.mono fun y _ hy => (hF y).2 (.inl hy), rfl, _, ⟨.map (some m), C', F', hk, hx', .inr ⟨m, rfl, by omega, by rw [show enterM [] n l s = mput [] n (newT l s) from rfl, hes, he]; exact hM'⟩, hA', fun x => Iff.rfl⟩, fun y hy => ?_⟩
    rcases hy with rfl | hy | hy
    · exact .inl ((hF y).2 (.inl rfl))
    · injection hy with hy; injection hy with hy; subst hy; exact .inr hm
    · exact (hsub y hy).imp (fun q => (hF y).2 (.inr (.inr q))) id
  · cases hg : mget M n with
    | some t =>
      obtain ⟨q, hq⟩ := es_some hA.1 hg
      refine (Enter_hit (l := l) hx hM hq).mono fun v' w' q => ?_
      obtain ⟨E, rfl⟩ := q
      refine ⟨Gr.ofBelow E F, by unfold enterE; rw [hg]; rfl, F, ?_, NewF.refl _ _⟩
      have : enterM M n l s = M := by unfold enterM; rw [hg]; rfl
      rw [this]; exact h.keepG (Gr.ofBelow E NoB) fun _ _ hh => hh
    | none =>
      refine (Enter_miss hx hM (es_none hA.1 hg) hl2 (by omega)).mono fun v' w' q => ?_
      obtain ⟨E, rfl, q, nv, hq, hb', hL', hM'⟩ := q
      have E1 : Gr w w' (fun y => y = m) := (Gr.of E).mono fun y _ hy => (Option.some.inj hy).symm
      obtain ⟨C', F', hA', hes, hsub⟩ := LkAll.more (n := n) hA E1 (hA.notMap hM) hb hq hb' hL' hg
      have hem : enterM M n l s = mput M n (newT l s) := by unfold enterM; rw [hg]; rfl
      refine ⟨E1.mono fun y _ hy => (hF y).2 (.inr (.inl (by rw [hy]))), by unfold enterE; rw [hg]; rfl, _, ⟨.map (some m), C', F', hk, hx.keepG E1 (hx.notMap hM), .inr ⟨m, rfl, hm, by rw [hem, hes]; exact hM'⟩, by rw [hem]; exact hA', fun x => Iff.rfl⟩, fun y hy => ?_⟩
      rcases hy with rfl | hy | hy
      · exact .inl ((hF y).2 (.inl rfl))
      · exact .inl ((hF y).2 (.inr (.inl hy)))
      · exact (hsub y hy).imp (fun q => (hF y).2 (.inr (.inr q))) id
/-- What changes nothing. -/
theorem lk_same (h : LocksR w base k M F) (E : Below w.heap.size w w') : Gr w w' F ∧ ∃ F', LocksR w' base k M F' ∧ NewF w.heap.size F F' := ⟨Gr.ofBelow E F, F, h.keepG (Gr.ofBelow E NoB) fun _ _ hh => hh, NewF.refl _ _⟩
theorem DoomedR (h : LocksR w base k M F) : Ret Try.prog 62 #[ptr k 0, .int .i64 n] w (fun v' w' => Below w.heap.size w w' ∧ v' = .bool (txAt M n).doomed) := by
  cases hg : mget M n with
  | none =>
    have e : (txAt M n).doomed = false := by unfold txAt; rw [hg]; rfl
    rw [e]
    obtain ⟨mv, C, F0, hk, hx, hM, hA, hF⟩ := h
    rcases hM with ⟨rfl, he⟩ | ⟨m, rfl, hm, hM⟩
    · exact Doomed_nomap hx
    · exact Doomed_miss hx hM (es_none hA.1 hg)
  | some t =>
    have e : (txAt M n).doomed = t.doomed := by unfold txAt; rw [hg]; rfl
    rw [e]
    obtain ⟨m, C, F0, p, FT, hx, hM, hA, hes, hT, hsub, close⟩ := LocksR.hit h hg
    obtain ⟨la, rv, wv, D, hp, hb0, hL, hR, hD, hW, hDe, hFT⟩ := hT.parts
    exact Doomed_hit (base := base) (D := D) (lab := t.label) (Wr := t.writes) hx hM hes hb0
theorem WroteR (hb : base ≤ w.heap.size) (hn : MSm M) (h : LocksR w base k M F) : Ret Try.prog 70 #[ptr k 0, .int .i64 n] w (fun v' w' => Below w.heap.size w w' ∧ Own w' w.heap.size 9 1 v' (txAt M n).writes.length ((txAt M n).writes.map sv)) := by
  cases hg : mget M n with
  | none =>
    have e : (txAt M n).writes = [] := by unfold txAt; rw [hg]; rfl
    rw [e]
    obtain ⟨mv, C, F0, hk, hx, hM, hA, hF⟩ := h
    rcases hM with ⟨rfl, he⟩ | ⟨m, rfl, hm, hM⟩
    · refine (Wrote_nomap hx).mono fun v' w' q => ?_
      obtain ⟨E, rfl⟩ := q; exact ⟨E, Own.nil _ _ _ _⟩
    · refine (Wrote_miss hx hM (es_none hA.1 hg)).mono fun v' w' q => ?_
      obtain ⟨E, rfl⟩ := q; exact ⟨E, Own.nil _ _ _ _⟩
  | some t =>
    have e : txAt M n = t := by unfold txAt; rw [hg]; rfl
    rw [e]
    obtain ⟨m, C, F0, p, FT, hx, hM, hA, hes, hT, hsub, close⟩ := LocksR.hit h hg
    obtain ⟨la, rv, wv, D, hp, hb0, hL, hR, hD, hW, hDe, hFT⟩ := hT.parts
    exact Wrote_hit (D := D) (lab := t.label) hx hM hes hb hb0 hW (by have h9 := (hn _ (mget_mem hg)).2; simp only at h9; omega)
/-- Without a transaction. -/
theorem lk_drop {m : Nat} {F0 : Nat → Prop} (hb : base ≤ w.heap.size) (hk : base ≤ k) (hm : base ≤ m) (hx : Bx w k 121 [.map (some m)]) (hM : MapC (Value.int .i64) pv w m (mdel (esOf M C) n)) (hA : LkAll w base M C F0) : ∃ F', LocksR w base k (mdel M n) F' ∧ ∀ x, F' x → x = k ∨ x = m ∨ F0 x := by
  have hes : mdel (esOf M C) n = match mlook M n with | none => esOf M C | some (j, _) => (esOf M C).eraseIdx j := by
    unfold mdel; rw [esOf_look hA.1]; cases mlook M n <;> rfl
  cases hl : mlook M n with
  | none =>
    rw [hl] at hes
    have hd : mdel M n = M := by unfold mdel; rw [hl]
    rw [hd]
    exact ⟨_, ⟨_, C, F0, hk, hx, .inr ⟨m, rfl, hm, by rw [hes] at hM; exact hM⟩, hA, fun x => Iff.rfl⟩, fun x hx => by
      rcases hx with hx | hx | hx
      · exact .inl hx
      · injection hx with hx; injection hx with hx; exact .inr (.inl hx.symm)
      · exact .inr (.inr hx)⟩
  | some q =>
    obtain ⟨j, t⟩ := q
    rw [hl] at hes
    have hd : mdel M n = M.eraseIdx j := by unfold mdel; rw [hl]
    have hj := (List.getElem?_eq_some_iff.1 (mlook_some hl)).1
    obtain ⟨F2, hA2, hs⟩ := hA.erase hj
    rw [hd]
    exact ⟨_, ⟨_, _, F2, hk, hx, .inr ⟨m, rfl, hm, by rw [esOf_erase hA.1]; rw [hes] at hM; exact hM⟩, hA2, fun x => Iff.rfl⟩, fun x hx => by
      rcases hx with hx | hx | hx
      · exact .inl hx
      · injection hx with hx; injection hx with hx; exact .inr (.inl hx.symm)
      · exact .inr (.inr (hs x hx))⟩
theorem LeaveR (hb : base ≤ w.heap.size) (h : LocksR w base k M F) : Ret Try.prog 57 #[ptr k 0, .int .i64 n] w (fun v' w' => Gr w w' F ∧ v' = .int .i64 (leaveE M n) ∧ ∃ F', LocksR w' base k (mdel M n) F' ∧ NewF w.heap.size F F') := by
  have h' := h
  obtain ⟨mv, C, F0, hk, hx, hM, hA, hF⟩ := h'
  cases hg : mget M n with
  | none =>
    have e1 : leaveE M n = 18 := by unfold leaveE; rw [hg]; rfl
    have e2 : mdel M n = M := by
      unfold mdel
      cases hq : mlook M n with
      | none => rfl
      | some r => unfold mget at hg; rw [hq] at hg; cases hg
    rw [e1, e2]
    rcases hM with ⟨rfl, he⟩ | ⟨m, rfl, hm, hM⟩
    · exact (Leave_nomap hx).mono fun v' w' q => ⟨(lk_same h q.1).1, q.2, (lk_same h q.1).2⟩
    · exact (Leave_miss hx hM (es_none hA.1 hg)).mono fun v' w' q => ⟨(lk_same h q.1).1, q.2, (lk_same h q.1).2⟩
  | some t =>
    have e1 : leaveE M n = 0 := by unfold leaveE; rw [hg]; rfl
    rw [e1]
    obtain ⟨q, hq⟩ := es_some hA.1 hg
    rcases hM with ⟨rfl, he⟩ | ⟨m, rfl, hm, hM⟩
    · rw [he] at hq; cases hq
    · refine (Leave_hit hx hM hq).mono fun v' w' q => ?_
      obtain ⟨E, rfl, hM'⟩ := q
      have E1 : Gr w w' (fun y => y = m) := (Gr.of E).mono fun y _ hy => (Option.some.inj hy).symm
      obtain ⟨F', hK, hs⟩ := lk_drop (k := k) (Nat.le_trans hb E.size) hk hm (hx.keepG E1 (hx.notMap hM)) hM' (hA.keepG E1 fun x hx hy => hA.notMap hM (hy ▸ hx))
      exact ⟨E1.mono fun y _ hy => (hF y).2 (.inr (.inl (by rw [hy]))), rfl, F', hK, fun y hy => .inl ((hF y).2 ((hs y hy).imp id fun q => q.imp (fun q => by rw [q]) id))⟩
theorem AskR {Rs : List (List UInt8)} {rsv : Value} {x : List UInt8} {Lr Br : Nat} (hb : base ≤ w.heap.size) (hMo : MOk M) (hsm : MSm M) (hRl : Rs.length ≤ 1000) (hRs : RdC w Lr Br 1 rsv Rs.length (Rs.map sv)) (hBr : Br ≤ w.heap.size) (hap : ∀ y, F y → y < Lr ∨ Br ≤ y) (h : LocksR w base k M F) :
    Ret Try.prog 55 #[ptr k 0, .int .i64 n, rsv, .string (bs x)] w (fun v' w' => Gr w w' F ∧ v' = .tuple #[.int .i64 (askV M n Rs x), .int .i64 (askE M n)] ∧ ∃ F', LocksR w' base k (askM M n Rs x) F' ∧ NewF w.heap.size F F') := by
  cases hg : mget M n with
  | none =>
    have e1 : askE M n = 18 := by unfold askE; rw [hg]; rfl
    have e2 : askM M n Rs x = M := by unfold askM; rw [hg]
    have e3 : askV M n Rs x = 0 := by unfold askV; rw [hg]
    rw [e1, e2, e3]
    have h' := h
    obtain ⟨mv, C, F0, hk, hx, hM, hA, hF⟩ := h'
    rcases hM with ⟨rfl, he⟩ | ⟨m, rfl, hm, hM⟩
    · exact (Ask_nomap hx).mono fun v' w' q => ⟨(lk_same h q.1).1, q.2, (lk_same h q.1).2⟩
    · exact (Ask_miss hx hM (es_none hA.1 hg)).mono fun v' w' q => ⟨(lk_same h q.1).1, q.2, (lk_same h q.1).2⟩
  | some t =>
    have e1 : askE M n = 0 := by unfold askE; rw [hg]; rfl
    have e2 : askM M n Rs x = mput M n (askT t Rs x (askO M n t Rs x)) := by unfold askM; rw [hg, askO_eq]
    have e3 : askV M n Rs x = askO M n t Rs x := by unfold askV; rw [hg, askO_eq]
    rw [e1, e2, e3]
    obtain ⟨m, C, F0, p, FT, hx, hM, hA, hes, hT, hsub, close⟩ := LocksR.hit h hg
    refine (Ask_hit hb hx hM hA hMo hg hes hT (hsm _ (mget_mem hg)) hRl hRs hBr (fun y hy => hap y (hsub y hy))).mono fun v' w' q => ?_
    obtain ⟨E, rfl, FT', hT', hN⟩ := q
    obtain ⟨E2, F2, hK, hN2⟩ := close w' _ _ E hT' hN
    exact ⟨E2, rfl, F2, hK, hN2⟩
/-- The same, with what comes of it told otherwise. -/
theorem lk_conv {f : Nat} {as9 : Array Value} {A A' : Value} {M1 M2 : TM} (h : Ret Try.prog f as9 w (fun v' w' => Gr w w' F ∧ v' = A ∧ ∃ F', LocksR w' base k M1 F' ∧ NewF w.heap.size F F')) (hA : A = A') (hM : M1 = M2) :
    Ret Try.prog f as9 w (fun v' w' => Gr w w' F ∧ v' = A' ∧ ∃ F', LocksR w' base k M2 F' ∧ NewF w.heap.size F F') := by subst hA; subst hM; exact h
theorem lockNewR : Ret Try.prog 53 #[] w (fun v' w' => Below w.heap.size w w' ∧ ∃ k F, v' = ptr k 0 ∧ LocksR w' w.heap.size k [] F) := by
  refine (lockNew_ret w).mono fun v' w' q => ?_
  obtain ⟨E, k, hk, rfl, hx⟩ := q
  exact ⟨E, k, _, rfl, .map none, [], NoB, hk, hx, .inl ⟨rfl, rfl⟩, LkAll.nil _ _, fun _ => Iff.rfl⟩
end
end Go.Proofs.Ytmhdbphpmgjpcaa
namespace Go.Proofs.Ytmhdbphpmgjpcaa
open Go.Gx Go.RowKit
end Go.Proofs.Ytmhdbphpmgjpcaa

/- Walks, written by a program: what each function of the translation hands back. -/
namespace Go.Proofs.Ytmhdbphpmgjpcaa
open Go.Gx Go.RowKit
attribute [local irreducible] wpList wpStill Code.wp Calls

theorem begun19_ret (w : World) : Ret Try.prog 52 #[] w (fun v' w' => Below w.heap.size w w' ∧ v' = .bool true) := by
 have hb := Below.refl w.heap.size w
 refine enter (N := 57) Try.func52 rfl rfl (by simp) fun a0 hN hd hA => ?_
 clear hA
 refine seq_any fun K5 hK5 => ?_
 refine one_reg ?_
 refine op_assign rfl ?_
 refine reg_nil ?_
 refine hK5 _ _ ?_
 refine seq_any fun K6 hK6 => ?_
 refine one_reg ?_
 refine op_fn (vs := []) ok53 trivial (lockNewR) ?_
 rintro _ w8 ⟨E9, k7, F7, rfl, hl7⟩
 have lo_F7 : ∀ x, F7 x → w.heap.size ≤ x := fun x hx => (hl7.lt x hx).1
 have E9 := grown_of_below E9
 have z_w8 := E9.size
 have hb := below_step0 hb E9 hb.size
 have hl7 : LocksR w8 w.heap.size k7 ([] : TM) F7 := hl7.mono (by omega)
 refine op_assign (ev_hit hN rfl) ?_
 refine reg_nil ?_
 refine hK6 _ _ ?_
 refine seq_any fun K10 hK10 => ?_
 refine one_reg ?_
 refine op_move (ev_hit hN rfl) ?_
 refine op_fn (vs := [(ptr k7 0), (Value.int .i64 1), (Value.slice none 0 0), (Value.int .u64 1)]) ok54 ⟨(ev_hit hN rfl), ⟨rfl, ⟨rfl, ⟨rfl, trivial⟩⟩⟩⟩ (lk_conv (EnterR (n := 1) (s := 1) (l := ([] : List UInt16)) (by omega) (lo := 0) (RdC.nil _ _ _ _) (Nat.zero_le _) (by first | decide | omega) hl7) (A' := (Value.int .i64 0)) (M2 := ([(1, ⟨[], 1, [], [], false⟩)] : TM)) (by rfl) (by rfl)) ?_
 rintro _ w12 ⟨E13, rfl, F11, hl11, hN11⟩
 have hl7_old := hl7
 have z_w12 := E13.size
 have hb := below_stepG hb E13 hb.size (fun k hk => (hl7_old.lt k hk).1)
 refine op_assign (ev_hit hN rfl) ?_
 refine reg_nil ?_
 refine hK10 _ _ ?_
 refine seq_any fun K14 hK14 => ?_
 refine one_reg ?_
 refine op_move (ev_hit hN rfl) ?_
 refine op_fn (vs := [(ptr k7 0), (Value.int .i64 2), (Value.slice none 0 0), (Value.int .u64 2)]) ok54 ⟨(ev_hit hN rfl), ⟨rfl, ⟨rfl, ⟨rfl, trivial⟩⟩⟩⟩ (lk_conv (EnterR (n := 2) (s := 2) (l := ([] : List UInt16)) (by omega) (lo := 0) (RdC.nil _ _ _ _) (Nat.zero_le _) (by first | decide | omega) hl11) (A' := (Value.int .i64 0)) (M2 := ([(1, ⟨[], 1, [], [], false⟩), (2, ⟨[], 2, [], [], false⟩)] : TM)) (by rfl) (by rfl)) ?_
 rintro _ w16 ⟨E17, rfl, F15, hl15, hN15⟩
 have hl11_old := hl11
 have z_w16 := E17.size
 have hb := below_stepG hb E17 hb.size (fun k hk => (hl11_old.lt k hk).1)
 refine op_assign (ev_hit hN rfl) ?_
 refine reg_nil ?_
 refine hK14 _ _ ?_
 refine seq_any fun K18 hK18 => ?_
 refine one_reg ?_
 refine op_move (ev_hit hN rfl) ?_
 refine op_fn (vs := [(ptr k7 0), (Value.int .i64 1), (Value.slice none 0 0), (Value.string (bs [116]))]) ok55 ⟨(ev_hit hN rfl), ⟨rfl, ⟨rfl, ⟨rfl, trivial⟩⟩⟩⟩ (lk_conv (AskR (n := 1) (Rs := ([] : List (List UInt8))) (x := ([116])) (by omega) (by unfold MOk TOk; decide) (by unfold MSm; decide) (by decide) (RdC.nil _ 0 0 _) (Nat.zero_le _) (fun _ _ => .inr (Nat.zero_le _)) hl15) (A' := (Value.tuple #[(Value.int .i64 1), (Value.int .i64 0)])) (M2 := ([(1, ⟨[], 1, [], [[116]], false⟩), (2, ⟨[], 2, [], [], false⟩)] : TM)) (by rfl) (by rfl)) ?_
 rintro _ w20 ⟨E21, rfl, F19, hl19, hN19⟩
 have hl15_old := hl15
 have z_w20 := E21.size
 have hb := below_stepG hb E21 hb.size (fun k hk => (hl15_old.lt k hk).1)
 refine op_move (ev_hit hN rfl) ?_
 refine op_extract (ev_hit hN rfl) rfl ?_
 refine op_extract (ev_hit hN rfl) rfl ?_
 refine op_assign (ev_hit hN rfl) ?_
 refine op_assign (ev_hit hN rfl) ?_
 refine reg_nil ?_
 refine hK18 _ _ ?_
 refine seq_any fun K22 hK22 => ?_
 refine one_reg ?_
 refine op_move (ev_hit hN rfl) ?_
 refine op_bslice (e := 9) (pv := [(0, (Value.string (bs [116])))]) (cs := [(Value.string (bs [116]))]) ⟨rfl, rfl, trivial⟩ (by kernel_rfl) ?_
 intro w23 b24 lo_b24 hi_b24 hB26 E25
 have dj27 : ¬ F19 b24 := fun hf => by have := (hl19.lt _ hf).2; omega
 have z_w23 := E25.size
 have hl19 := hl19.keepG (Gr.of0 E25 NoB) (fun _ _ h => h)
 have hb := below_step0 hb E25 hb.size
 refine op_fn (vs := [(ptr k7 0), (Value.int .i64 2), (Value.slice (some ⟨b24, 0, none⟩) 1 1), (Value.string (bs []))]) ok55 ⟨(ev_hit hN rfl), ⟨rfl, ⟨(ev_hit hN rfl), ⟨rfl, trivial⟩⟩⟩⟩ (lk_conv (AskR (n := 2) (Rs := [[116]]) (x := []) (by omega) (by unfold MOk TOk; decide) (by unfold MSm; decide) (by decide) (Lr := b24) (Br := b24 + 1) (RdC.ofBx (sz := 1) (n := 1) hB26 rfl (by decide)) (by have := hB26.lt; omega) (fun y hy => Nat.lt_or_gt_of_ne (fun e => dj27 (e ▸ hy))) hl19) (A' := (Value.tuple #[(Value.int .i64 3), (Value.int .i64 0)])) (M2 := ([(1, ⟨[], 1, [], [[116]], false⟩), (2, ⟨[], 2, [], [], false⟩)] : TM)) (by rfl) (by rfl)) ?_
 rintro _ w29 ⟨E30, rfl, F28, hl28, hN28⟩
 have bd31 := hB26.lt
 have hl19_old := hl19
 have z_w29 := E30.size
 have hB26 := hB26.keepG E30 dj27
 have hb := below_stepG hb E30 hb.size (fun k hk => (hl19_old.lt k hk).1)
 have dj32 : ¬ F28 b24 := ne_stepF hN28 bd31 dj27
 refine op_move (ev_hit hN rfl) ?_
 refine op_extract (ev_hit hN rfl) rfl ?_
 refine op_extract (ev_hit hN rfl) rfl ?_
 refine op_assign (ev_hit hN rfl) ?_
 refine op_assign (ev_hit hN rfl) ?_
 refine reg_nil ?_
 refine hK22 _ _ ?_
 refine seq_any fun K33 hK33 => ?_
 refine one_reg ?_
 refine op_move (ev_hit hN rfl) ?_
 refine op_bin (v := .bool true) (ev_hit hN rfl) rfl (by rw [binOp_eql]; rfl) ?_
 refine op_move (ev_hit hN rfl) ?_
 refine g_true (j := 2) (dj := 26) (b := true) rfl rfl rfl (ev_hit hN rfl) ?_
 refine op_move (ev_hit hN rfl) ?_
 refine g_true (j := 2) (dj := 26) (b := true) rfl rfl rfl (ev_hit hN rfl) ?_
 refine op_bin (v := .bool true) (ev_hit hN rfl) rfl (by rw [binOp_eql]; rfl) ?_
 refine op_pick_t (ev_hit hN rfl) (ev_hit hN rfl) ?_
 refine op_move (ev_hit hN rfl) ?_
 refine g_true (j := 6) (dj := 30) (b := true) rfl rfl rfl (ev_hit hN rfl) ?_
 refine op_move (ev_hit hN rfl) ?_
 refine g_true (j := 6) (dj := 30) (b := true) rfl rfl rfl (ev_hit hN rfl) ?_
 refine op_bin (v := .bool true) (ev_hit hN rfl) rfl (by rw [binOp_eql]; rfl) ?_
 refine op_pick_t (ev_hit hN rfl) (ev_hit hN rfl) ?_
 refine op_move (ev_hit hN rfl) ?_
 refine g_true (j := 10) (dj := 34) (b := true) rfl rfl rfl (ev_hit hN rfl) ?_
 refine op_move (ev_hit hN rfl) ?_
 refine g_true (j := 10) (dj := 34) (b := true) rfl rfl rfl (ev_hit hN rfl) ?_
 refine op_bin (v := .bool true) (ev_hit hN rfl) rfl (by rw [binOp_eql]; rfl) ?_
 refine op_pick_t (ev_hit hN rfl) (ev_hit hN rfl) ?_
 refine op_move (ev_hit hN rfl) ?_
 refine g_true (j := 14) (dj := 38) (b := true) rfl rfl rfl (ev_hit hN rfl) ?_
 refine op_move (ev_hit hN rfl) ?_
 refine g_true (j := 14) (dj := 38) (b := true) rfl rfl rfl (ev_hit hN rfl) ?_
 refine op_bin (v := .bool true) (ev_hit hN rfl) rfl (by rw [binOp_eql]; rfl) ?_
 refine op_pick_t (ev_hit hN rfl) (ev_hit hN rfl) ?_
 refine op_move (ev_hit hN rfl) ?_
 refine g_true (j := 18) (dj := 42) (b := true) rfl rfl rfl (ev_hit hN rfl) ?_
 refine op_move (ev_hit hN rfl) ?_
 refine g_true (j := 18) (dj := 42) (b := true) rfl rfl rfl (ev_hit hN rfl) ?_
 refine op_bin (v := .bool true) (ev_hit hN rfl) rfl (by rw [binOp_eql]; rfl) ?_
 refine op_pick_t (ev_hit hN rfl) (ev_hit hN rfl) ?_
 refine op_move (ev_hit hN rfl) ?_
 refine g_true (j := 22) (dj := 46) (b := true) rfl rfl rfl (ev_hit hN rfl) ?_
 refine op_move (ev_hit hN rfl) ?_
 refine g_true (j := 22) (dj := 46) (b := true) rfl rfl rfl (ev_hit hN rfl) ?_
 refine op_fn (vs := [(ptr k7 0), (Value.int .i64 1)]) ok70 ⟨(ev_hit hN rfl), ⟨rfl, trivial⟩⟩ (WroteR (n := 1) (by omega) (by unfold MSm; decide) hl28) ?_
 rintro v34 w35 ⟨E36, hO34⟩
 have dj37 : Dj F28 (Bl v34) := Dj.fresh (fun k hk => (hl28.lt k hk).2) (fun k hk => (hO34.lt k hk).1)
 have E36 := grown_of_below E36
 have z_w35 := E36.size
 have hB26 := hB26.keep0 E36
 have hl28 := hl28.keepG (Gr.of0 E36 NoB) (fun _ _ h => h)
 have hb := below_step0 hb E36 hb.size
 have hO34 := hO34.mono (base' := w.heap.size) (by omega)
 refine g_true (j := 22) (dj := 46) (b := true) rfl rfl rfl (ev_hit hN rfl) ?_
 refine op_len_rd Try.underlying26 (ev_hit hN rfl) hO34.rdw ?_
 refine g_true (j := 22) (dj := 46) (b := true) rfl rfl rfl (ev_hit hN rfl) ?_
 refine op_eql (ev_hit hN rfl) rfl (fun c50 => ?_) (fun c50 => ?_)
 · -- 50T
  refine op_pick_t (ev_hit hN rfl) (ev_hit hN rfl) ?_
  refine op_move (ev_hit hN rfl) ?_
  refine g_true (j := 28) (dj := 52) (b := true) rfl rfl rfl (ev_hit hN rfl) ?_
  refine op_move (ev_hit hN rfl) ?_
  refine g_true (j := 28) (dj := 52) (b := true) rfl rfl rfl (ev_hit hN rfl) ?_
  refine op_fn (vs := [(ptr k7 0), (Value.int .i64 2)]) ok62 ⟨(ev_hit hN rfl), ⟨rfl, trivial⟩⟩ (DoomedR (n := 2) hl28) ?_
  rintro _ w38 ⟨E39, rfl⟩
  have E39 := grown_of_below E39
  have z_w38 := E39.size
  have hB26 := hB26.keep0 E39
  have hl28 := hl28.keepG (Gr.of0 E39 NoB) (fun _ _ h => h)
  have hO34 := hO34.keep0 E39
  have hb := below_step0 hb E39 hb.size
  refine g_true (j := 28) (dj := 52) (b := true) rfl rfl rfl (ev_hit hN rfl) ?_
  refine op_not (ev_hit hN rfl) ?_
  refine op_pick_t (ev_hit hN rfl) (ev_hit hN rfl) ?_
  refine op_assign (ev_hit hN rfl) ?_
  refine reg_nil ?_
  refine hK33 _ _ ?_
  refine wp_ret ?_
  refine ret1 rfl hd (ev_hit hN rfl) ⟨_, rfl, ?_⟩
  -- path 50T
  exact ⟨hb, rfl⟩
 · -- 50F
  exact absurd rfl c50

end Go.Proofs.Ytmhdbphpmgjpcaa

/- Locks in a run: what stays as it must be, whatever is done. -/
namespace Go.Proofs.Ytmhdbphpmgjpcaa
open Go.Gx Go.RowKit
def TIn (i : Nat) (t : TX) : Prop := TOk t ∧ t.reads.length ≤ 8 * i ∧ t.writes.length ≤ i
def MIn (M : TM) (i : Nat) : Prop := M.length ≤ i ∧ (M.map Prod.fst).Nodup ∧ ∀ a ∈ M, (Lit.int .i64 a.1).wf = true ∧ TIn i a.2
section
variable {M : TM} {i j n9 : Nat} {n s : Int} {l : List UInt16} {t : TX} {Rs : List (List UInt8)} {x : List UInt8} {a : Int × TX}
theorem wf_i64 (h0 : -1000000 ≤ n) (h : n ≤ 1000000) : (Lit.int .i64 n).wf = true := by
  simp only [Lit.wf, IntKind.min, IntKind.max, IntKind.signed, IntKind.bits, Bool.and_eq_true, decide_eq_true_eq]; simp; omega
theorem TIn.mono (h : TIn i t) (hj : i ≤ j) : TIn j t := ⟨h.1, by have := h.2.1; omega, by have := h.2.2; omega⟩
theorem MIn.start : MIn [] 0 := ⟨Nat.le_refl _, List.nodup_nil, fun _ h => by cases h⟩
theorem MIn.mono (h : MIn M i) (hj : i ≤ j) : MIn M j := ⟨Nat.le_trans h.1 hj, h.2.1, fun a ha => ⟨(h.2.2 a ha).1, (h.2.2 a ha).2.mono hj⟩⟩
theorem MIn.ok (h : MIn M i) (hi : i ≤ 1000) : MOk M := ⟨Nat.le_trans h.1 hi, fun a ha => ⟨(h.2.2 a ha).1, (h.2.2 a ha).2.1⟩⟩
theorem MIn.sm (h : MIn M i) (hi : i ≤ 1000) : MSm M := fun a ha => ⟨by have := (h.2.2 a ha).2.2.1; omega, by have := (h.2.2 a ha).2.2.2; omega⟩
theorem mput_len {K V : Type} [DecidableEq K] {es : List (K × V)} {k : K} {v : V} : (mput es k v).length ≤ es.length + 1 := by
  have h := congrArg List.length (mput_keys (es := es) (k := k) (v := v))
  rw [List.length_map] at h
  split at h
  · rw [List.length_map] at h; omega
  · rw [List.length_append, List.length_map] at h; simp at h; omega
theorem MIn.put (h : MIn M i) (hn : (Lit.int .i64 n).wf = true) (ht : TIn (i + 1) t) : MIn (mput M n t) (i + 1) := by
  refine ⟨Nat.le_trans mput_len (by have := h.1; omega), nodup_mput h.2.1, fun a ha => ?_⟩
  rcases (mem_mput h.2.1).1 ha with ⟨rfl, rfl⟩ | ⟨_, ha⟩
  · exact ⟨hn, ht⟩
  · exact ⟨(h.2.2 _ ha).1, (h.2.2 _ ha).2.mono (Nat.le_succ _)⟩
theorem MIn.del (h : MIn M i) : MIn (mdel M n) (i + 1) :=
  ⟨Nat.le_trans (mdel_keys_sub (es := M)).length_le (Nat.le_succ_of_le h.1), nodup_mdel h.2.1, fun a ha => ⟨(h.2.2 a (mdel_keys_sub.subset ha)).1, (h.2.2 a (mdel_keys_sub.subset ha)).2.mono (Nat.le_succ _)⟩⟩
theorem newT_in (hl : l.length ≤ 8) : TIn i (newT l s) := ⟨⟨hl, fun _ h => by cases h⟩, Nat.zero_le _, Nat.zero_le _⟩
theorem MIn.enter (h : MIn M i) (hn : (Lit.int .i64 n).wf = true) (hl : l.length ≤ 8) : MIn (enterM M n l s) (i + 1) := by
  unfold enterM; split
  · exact h.mono (Nat.le_succ _)
  · exact h.put hn (newT_in hl)
theorem MIn.get (h : MIn M i) (hg : mget M n = some t) : (Lit.int .i64 n).wf = true ∧ TIn i t := h.2.2 _ (mget_mem hg)
theorem MIn.move (h : MIn M i) (hl : l.length ≤ 8) : MIn (moveM M n l s) (i + 1) := by
  unfold moveM
  cases hg : mget M n with
  | none => exact h.mono (Nat.le_succ _)
  | some t =>
    simp only []
    split
    · exact h.mono (Nat.le_succ _)
    · have q := h.get hg
      exact h.put q.1 ⟨⟨hl, q.2.1.2⟩, by have := q.2.2.1; show t.reads.length ≤ _; omega, by have := q.2.2.2; show t.writes.length ≤ _; omega⟩
theorem addW_len {W : List (List UInt8)} : (addW W x).length ≤ W.length + 1 := by unfold addW; split <;> simp
theorem askT_in {o : Int} (h : TIn i t) (hR : Rs.length ≤ 8) : TIn (i + 1) (askT t Rs x o) := by
  unfold askT; split
  · have q := gotR_ok h.1.1 Rs t rfl h.1.2
    refine ⟨⟨h.1.1, q.1⟩, ?_, ?_⟩
    · have := h.2.1; have := q.2; show (gotR t Rs).length ≤ _; omega
    · show (gotW t x).length ≤ _
      unfold gotW; have := h.2.2
      split
      · omega
      · have := addW_len (W := t.writes) (x := x); omega
  · exact h.mono (Nat.le_succ _)
theorem MIn.ask (h : MIn M i) (hR : Rs.length ≤ 8) : MIn (askM M n Rs x) (i + 1) := by
  unfold askM
  cases hg : mget M n with
  | none => exact h.mono (Nat.le_succ _)
  | some t => exact h.put (h.get hg).1 (askT_in (h.get hg).2 hR)
theorem MIn.at (h : MIn M i) (ha : a ∈ M) : txAt M a.1 = a.2 := by unfold txAt; rw [mget_of_mem h.2.1 (show (a.1, a.2) ∈ M from ha)]; rfl
/-! those that are there: 0, 1, and so on -/
def Keys0 (M : TM) (n9 : Nat) : Prop := M.map Prod.fst = (List.range n9).map fun j : Nat => (j : Int)
theorem Keys0.mem (h : Keys0 M n9) : n ∈ M.map Prod.fst ↔ ∃ j : Nat, j < n9 ∧ n = (j : Int) := by
  rw [h, List.mem_map]
  exact ⟨fun ⟨j, hj, e⟩ => ⟨j, List.mem_range.1 hj, e.symm⟩, fun ⟨j, hj, e⟩ => ⟨j, List.mem_range.2 hj, e.symm⟩⟩
theorem Keys0.miss (h : Keys0 M n9) : mget M (n9 : Int) = none := mget_none.2 fun hm => by obtain ⟨j, hj, e⟩ := h.mem.1 hm; omega
theorem Keys0.hit (h : Keys0 M n9) (hj : j < n9) : ∃ t, mget M (j : Int) = some t := mget_key (h.mem.2 ⟨j, hj, rfl⟩)
theorem Keys0.enter (h : Keys0 M n9) : enterE M (n9 : Int) = 0 ∧ Keys0 (enterM M (n9 : Int) l s) (n9 + 1) ∧ ∀ a ∈ enterM M (n9 : Int) l s, a ∈ M ∨ a = ((n9 : Int), newT l s) := by
  have hl : mlook M (n9 : Int) = none := by
    have := h.miss
    cases hq : mlook M (n9 : Int) with
    | none => rfl
    | some r => unfold mget at this; rw [hq] at this; cases this
  have e : enterM M (n9 : Int) l s = M ++ [((n9 : Int), newT l s)] := by unfold enterM; rw [h.miss]; show mput M _ _ = _; unfold mput; rw [hl]
  refine ⟨by unfold enterE; rw [h.miss]; rfl, ?_, fun a ha => ?_⟩
  · unfold Keys0 at h ⊢; rw [e, List.map_append, h, List.range_succ, List.map_append]; rfl
  · rw [e] at ha; rcases List.mem_append.1 ha with ha | ha
    · exact .inl ha
    · exact .inr (List.mem_singleton.1 ha)
theorem Keys0.ask (h : Keys0 M n9) (hn : (M.map Prod.fst).Nodup) (hj : j < n9) : askE M (j : Int) = 0 ∧ Keys0 (askM M (j : Int) Rs x) n9 ∧ ∀ a ∈ askM M (j : Int) Rs x, (a ∈ M ∨ ∃ t o, ((j : Int), t) ∈ M ∧ a = ((j : Int), askT t Rs x o)) := by
  obtain ⟨t, ht⟩ := h.hit hj
  have hm := mget_mem ht
  have e : askM M (j : Int) Rs x = mput M (j : Int) (askT t Rs x (ansO M (j : Int) t Rs x)) := by unfold askM; rw [ht]
  refine ⟨by unfold askE; rw [ht]; rfl, ?_, fun a ha => ?_⟩
  · unfold Keys0; rw [e, mput_keys, if_pos (List.mem_map.2 ⟨_, hm, rfl⟩)]; exact h
  · rw [e] at ha
    rcases (mem_mput (a := a.1) (u := a.2) hn).1 ha with ⟨e1, e2⟩ | ⟨_, ha⟩
    · exact .inr ⟨t, _, hm, Prod.ext e1 e2⟩
    · exact .inl ha
theorem ans_one (h : ∀ a ∈ M, othB M n (sameQ t) a.1 = false ∨ stB M t Rs x a.1 = false) : ansO M n t Rs x = 1 := by
  have h2 : (M.any fun a => othB M n (sameQ t) a.1 && stB M t Rs x a.1) = false := List.any_eq_false.2 fun a ha => by
    rcases h a ha with e | e <;> rw [e] <;> simp
  have h3 : (M.any fun a => othB M n (sameQ t) a.1 && dieB M t Rs x a.1) = false := List.any_eq_false.2 fun a ha => by
    unfold dieB
    rcases h a ha with e | e <;> rw [e] <;> simp
  unfold ansO; rw [h2, h3]; rfl
theorem askV_of (ht : mget M n = some t) : askV M n Rs x = ansO M n t Rs x := by unfold askV; rw [ht]
/-- Nobody has a write. -/
def ShK (M : TM) (n9 i : Nat) : Prop := MIn M (n9 + i) ∧ Keys0 M n9 ∧ ∀ a ∈ M, a.2.writes = []
theorem ShK.start : ShK [] 0 0 := ⟨MIn.start, rfl, fun _ h => by cases h⟩
theorem ShK.enter (h : ShK M n9 0) (hn : n9 ≤ 100) (hl : l.length ≤ 8) : enterE M (n9 : Int) = 0 ∧ ShK (enterM M (n9 : Int) l s) (n9 + 1) 0 := by
  have q := h.2.1.enter (l := l) (s := s)
  refine ⟨q.1, (h.1.enter (wf_i64 (by omega) (by omega)) hl).mono (by omega), q.2.1, fun a ha => ?_⟩
  rcases q.2.2 a ha with ha | rfl
  · exact h.2.2 a ha
  · rfl
theorem ShK.ask (h : ShK M n9 i) (hj : j < n9) (hR : Rs.length ≤ 8) : askV M (j : Int) Rs [] = 1 ∧ askE M (j : Int) = 0 ∧ ShK (askM M (j : Int) Rs []) n9 (i + 1) := by
  obtain ⟨t, ht⟩ := h.2.1.hit hj
  have q := h.2.1.ask (Rs := Rs) (x := []) h.1.2.1 hj
  refine ⟨(askV_of ht).trans (ans_one fun a ha => .inr ?_), q.1, (h.1.ask hR).mono (by omega), q.2.1, fun a ha => ?_⟩
  · unfold stB standB
    rw [h.1.at ha, h.2.2 a ha]
    have : Rs.any (writB []) = false := List.any_eq_false.2 fun r _ => by simp [writB]
    rw [this]; rfl
  · rcases q.2.2 a ha with ha | ⟨t, o, ht, rfl⟩
    · exact h.2.2 a ha
    · have := h.2.2 _ ht
      unfold askT; split
      · exact this
      · exact this
/-- All have unlike labels. -/
def ShW (Ls : Nat → List UInt16) (M : TM) (n9 i : Nat) : Prop := MIn M (n9 + i) ∧ Keys0 M n9 ∧ ∀ a ∈ M, a.2.label = Ls a.1.toNat
theorem ShW.start {Ls : Nat → List UInt16} : ShW Ls [] 0 0 := ⟨MIn.start, rfl, fun _ h => by cases h⟩
theorem ShW.enter {Ls : Nat → List UInt16} (h : ShW Ls M n9 0) (hn : n9 ≤ 100) (hl : (Ls n9).length ≤ 8) : enterE M (n9 : Int) = 0 ∧ ShW Ls (enterM M (n9 : Int) (Ls n9) s) (n9 + 1) 0 := by
  have q := h.2.1.enter (l := Ls n9) (s := s)
  refine ⟨q.1, (h.1.enter (wf_i64 (by omega) (by omega)) hl).mono (by omega), q.2.1, fun a ha => ?_⟩
  rcases q.2.2 a ha with ha | rfl
  · exact h.2.2 a ha
  · rfl
theorem ShW.ask {Ls : Nat → List UInt16} (h : ShW Ls M n9 i) (hne : ∀ a b, a < b → b < n9 → Ls a ≠ Ls b) (hj : j < n9) (hR : Rs.length ≤ 8) : askV M (j : Int) Rs x = 1 ∧ askE M (j : Int) = 0 ∧ ShW Ls (askM M (j : Int) Rs x) n9 (i + 1) := by
  obtain ⟨t, ht⟩ := h.2.1.hit hj
  have q := h.2.1.ask (Rs := Rs) (x := x) h.1.2.1 hj
  have hlt : t.label = Ls j := h.2.2 _ (mget_mem ht)
  refine ⟨(askV_of ht).trans (ans_one fun a ha => .inl ?_), q.1, (h.1.ask hR).mono (by omega), q.2.1, fun a ha => ?_⟩
  · unfold othB sameQ
    rw [h.1.at ha, h.2.2 a ha, hlt]
    obtain ⟨b, hb, e⟩ := h.2.1.mem.1 (List.mem_map.2 ⟨a, ha, rfl⟩)
    rw [e]
    by_cases hbj : b = j
    · subst hbj; simp
    · have : Ls b ≠ Ls j := by
        rcases Nat.lt_or_gt_of_ne hbj with hh | hh
        · exact hne _ _ hh hj
        · exact fun e => hne _ _ hh hb e.symm
      simp [this]
  · rcases q.2.2 a ha with ha | ⟨t, o, ht, rfl⟩
    · exact h.2.2 a ha
    · have := h.2.2 _ ht
      unfold askT; split
      · exact this
      · exact this
end
end Go.Proofs.Ytmhdbphpmgjpcaa

/- Operations on locks as they are told; a run at one label: nobody waits in a ring. -/
namespace Go.Proofs.Ytmhdbphpmgjpcaa
open Go.Gx Go.RowKit
abbrev OpT := Int × Int × (Value × List UInt16) × UInt64 × (Value × List (List UInt8)) × List UInt8
def opK (o : OpT) : Int := o.1
def opN (o : OpT) : Int := o.2.1
def opLv (o : OpT) : Value := o.2.2.1.1
def opL (o : OpT) : List UInt16 := o.2.2.1.2
def opS (o : OpT) : UInt64 := o.2.2.2.1
def opRv (o : OpT) : Value := o.2.2.2.2.1.1
def opR (o : OpT) : List (List UInt8) := o.2.2.2.2.1.2
def opW (o : OpT) : List UInt8 := o.2.2.2.2.2
def dOp : OpT := (0, 0, (.slice none 0 0, []), 0, (.slice none 0 0, []), [])
def cellsOp (o : OpT) : List Value := [.int .i64 (opK o), .int .i64 (opN o), opLv o, .int .u64 ((opS o).toNat : Int), opRv o, .string (bs (opW o))]
theorem el_op {L : List OpT} {e : Int} {i : Nat} (he : e = (i : Int)) (h : i < L.length) : ∀ j u, (cellsOp (L.getD i dOp))[j]? = some u → (L.flatMap cellsOp)[e.toNat * 6 + j]? = some u :=
  Go.Gx.el_flat (f := cellsOp) (d := dOp) (by decide) (fun _ _ => rfl) he h
def ligR (R : List (List UInt8)) : Bool := R.all fun r => decide (r.length ≤ 20)
def lightB (o : OpT) : Bool := mayL (opL o) && decide ((opR o).length ≤ 8) && decide ((opW o).length ≤ 20) && ligR (opR o)
theorem lightB_ok {o : OpT} (h : lightB o = true) : mayL (opL o) = true ∧ (opR o).length ≤ 8 ∧ (opW o).length ≤ 20 ∧ ∀ r ∈ opR o, r.length ≤ 20 := by
  unfold lightB ligR at h
  simp only [Bool.and_eq_true, decide_eq_true_eq, List.all_eq_true] at h
  exact ⟨h.1.1.1, h.1.1.2, h.1.2, h.2⟩
theorem tmod_lt {n : Int} {k : Int} (hk : 0 < k) : -k < n.tmod k ∧ n.tmod k < k := by
  have h1 := Int.tmod_lt_of_pos n hk
  have h2 : -k < n.tmod k := by
    have h3 := Int.tmod_lt_of_pos (-n) hk
    rw [Int.neg_tmod] at h3; omega
  exact ⟨h2, h1⟩
/-- Which of k. -/
def tix (k : Nat) (n : Int) : Nat := ((n.tmod k + k).tmod k).toNat
theorem tix_eq {k : Nat} (hk : 0 < k) (n : Int) : (n.tmod k + k).tmod k = ((tix k n : Nat) : Int) := by
  have h := tmod_lt (n := n) (k := (k : Int)) (by omega)
  have h2 : 0 ≤ (n.tmod k + k).tmod k := Int.tmod_nonneg _ (by omega)
  unfold tix; omega
theorem tix_lt {k : Nat} (hk : 0 < k) (n : Int) : tix k n < k := by
  have h2 := tmod_lt (n := n.tmod k + k) (k := (k : Int)) (by omega)
  have := tix_eq hk n; omega
def opLab (o : OpT) : Value × List UInt16 := (opLv o, opL o)
def opRds (o : OpT) : Value × List (List UInt8) := (opRv o, opR o)
def nU (n : Nat) : Value := .int .u64 (n : Int)
theorem lightB_t {o : OpT} (h : mayL (opL o) = true ∧ (opR o).length ≤ 8 ∧ (opW o).length ≤ 20 ∧ ∀ r ∈ opR o, r.length ≤ 20) : lightB o = true := by
  unfold lightB ligR
  simp only [Bool.and_eq_true, decide_eq_true_eq, List.all_eq_true]
  exact ⟨⟨⟨h.1, h.2.1⟩, h.2.2.1⟩, h.2.2.2⟩
theorem lightB_f {o : OpT} (h : ¬ (mayL (opL o) = true ∧ (opR o).length ≤ 8 ∧ (opW o).length ≤ 20 ∧ ∀ r ∈ opR o, r.length ≤ 20)) : lightB o = false := by
  cases hq : lightB o with
  | false => rfl
  | true => exact absurd (lightB_ok hq) h
theorem le_upto {R : List (List UInt8)} {i m : Nat} (h : ∀ j, j < i → (R.getD j []).length ≤ m) (hi : (R.getD i []).length ≤ m) : ∀ j, j < i + 1 → (R.getD j []).length ≤ m := fun j hj => by
  by_cases hb : j < i
  · exact h j hb
  · obtain rfl : j = i := by omega
    exact hi
theorem mem_getD {α : Type} {l : List α} {x d : α} (h : x ∈ l) : ∃ j, j < l.length ∧ l.getD j d = x := by
  obtain ⟨j, hj, rfl⟩ := List.getElem_of_mem h
  exact ⟨j, hj, by simp [List.getD_eq_getElem?_getD, hj]⟩
/-! at one label -/
def eldB (IN : List Bool) (ST : List Nat) (t j : Nat) : Bool := (List.range j).all fun q => !(decide (q ≠ t) && IN.getD q false) || decide (ST.getD t 0 < ST.getD q 0)
def aloB (IN : List Bool) (t j : Nat) : Bool := (List.range j).all fun q => !(decide (q ≠ t) && IN.getD q false)
section
variable {IN IN2 : List Bool} {ST ST2 : List Nat} {M : TM} {n t j : Nat} {s : Int} {R : List (List UInt8)} {x : List UInt8}
theorem all_range {p : Nat → Bool} : (List.range (j + 1)).all p = ((List.range j).all p && p j) := by rw [List.range_succ, List.all_append]; simp
theorem eldB_step : eldB IN ST t (j + 1) = (eldB IN ST t j && (!(decide (j ≠ t) && IN.getD j false) || decide (ST.getD t 0 < ST.getD j 0))) := all_range
theorem aloB_step : aloB IN t (j + 1) = (aloB IN t j && !(decide (j ≠ t) && IN.getD j false)) := all_range
def RInv (IN : List Bool) (ST : List Nat) (M : TM) (n : Nat) : Prop := IN.length = 8 ∧ ST.length = 8 ∧ MIn M n ∧ (∀ q : Nat, q < 8 → (mget M (q : Int)).isSome = IN.getD q false) ∧ ∀ a ∈ M, ∃ q : Nat, q < 8 ∧ a.1 = (q : Int) ∧ a.2.label = [] ∧ a.2.stamp = ((ST.getD q 0 : Nat) : Int)
theorem RInv.start : RInv (List.replicate 8 false) (List.replicate 8 0) [] 0 := ⟨rfl, rfl, MIn.start, fun q hq => by
  have : (List.replicate 8 false).getD q false = false := (by decide : ∀ q, q < 8 → (List.replicate 8 false).getD q false = false) q hq
  rw [this]; rfl, fun _ h => by cases h⟩
theorem RInv.mono {m : Nat} (h : RInv IN ST M n) (hm : n ≤ m) : RInv IN ST M m := ⟨h.1, h.2.1, h.2.2.1.mono hm, h.2.2.2⟩
theorem RInv.enter (h : RInv IN ST M n) (ht : t < 8) (hI : IN.getD t false = false) (hS : ST2.length = 8 ∧ ∀ q, q ≠ t → ST2.getD q 0 = ST.getD q 0) (hs : s = ((ST2.getD t 0 : Nat) : Int)) : enterE M (t : Int) = 0 ∧ RInv (IN.set t true) ST2 (enterM M (t : Int) [] s) (n + 1) := by
  obtain ⟨h1, h2, h3, h4, h5⟩ := h
  have hg : mget M (t : Int) = none := by
    have := h4 t ht; rw [hI] at this
    cases hq : mget M (t : Int) with
    | none => rfl
    | some v => rw [hq] at this; cases this
  have e : enterM M (t : Int) [] s = mput M (t : Int) (newT [] s) := by unfold enterM; rw [hg]; rfl
  refine ⟨by unfold enterE; rw [hg]; rfl, by simp [h1], hS.1, h3.enter (wf_i64 (by omega) (by omega)) (by decide), fun q hq => ?_, fun a ha => ?_⟩
  · rw [e, mget_mput h3.2.1, getD_set (by omega)]
    by_cases hqt : q = t
    · subst hqt; rw [if_pos rfl, if_pos rfl]; rfl
    · rw [if_neg (by omega), if_neg hqt]; exact h4 q hq
  · rw [e] at ha
    rcases (mem_mput (a := a.1) (u := a.2) h3.2.1).1 ha with ⟨e1, e2⟩ | ⟨hne, ha⟩
    · exact ⟨t, ht, e1, by rw [e2]; rfl, by rw [e2]; exact hs⟩
    · obtain ⟨q, hq, q1, q2, q3⟩ := h5 _ ha
      have q1' : a.1 = (q : Int) := q1
      exact ⟨q, hq, q1, q2, by rw [hS.2 q (fun e => hne (by rw [q1', e]))]; exact q3⟩
theorem RInv.get (h : RInv IN ST M n) (ht : t < 8) (hI : IN.getD t false = true) : ∃ T, mget M (t : Int) = some T ∧ T.label = [] ∧ T.stamp = ((ST.getD t 0 : Nat) : Int) := by
  have := h.2.2.2.1 t ht
  rw [hI] at this
  obtain ⟨T, hT⟩ := Option.isSome_iff_exists.1 this
  obtain ⟨q, hq, q1, q2, q3⟩ := h.2.2.2.2 _ (mget_mem hT)
  have q1' : (t : Int) = (q : Int) := q1
  obtain rfl : q = t := by omega
  exact ⟨T, hT, q2, q3⟩
theorem othB_in (h : RInv IN ST M n) {a : Int × TX} {T : TX} (ha : a ∈ M) (ho : othB M (t : Int) (sameQ T) a.1 = true) : ∃ q : Nat, q < 8 ∧ a.1 = (q : Int) ∧ q ≠ t ∧ IN.getD q false = true ∧ (txAt M a.1).stamp = ((ST.getD q 0 : Nat) : Int) := by
  obtain ⟨q, hq, q1, q2, q3⟩ := h.2.2.2.2 a ha
  unfold othB at ho
  simp only [Bool.and_eq_true, decide_eq_true_eq] at ho
  refine ⟨q, hq, q1, fun e => ho.1 (by rw [q1, e]), ?_, by rw [h.2.2.1.at ha]; exact q3⟩
  have := h.2.2.2.1 q hq
  rw [← q1, mget_of_mem h.2.2.1.2.1 (show (a.1, a.2) ∈ M from ha)] at this
  exact this.symm
theorem RInv.ask (h : RInv IN ST M n) (ht : t < 8) (hI : IN.getD t false = true) (hR : R.length ≤ 8) : askE M (t : Int) = 0 ∧ RInv IN ST (askM M (t : Int) R x) (n + 1) ∧ (eldB IN ST t 8 = true → askV M (t : Int) R x ≠ 3) ∧ (aloB IN t 8 = true → askV M (t : Int) R x = 1) := by
  obtain ⟨T, hT, hl, hs⟩ := h.get ht hI
  obtain ⟨h1, h2, h3, h4, h5⟩ := id h
  have e : askM M (t : Int) R x = mput M (t : Int) (askT T R x (ansO M (t : Int) T R x)) := by unfold askM; rw [hT]
  have hask : ∀ o, (askT T R x o).label = T.label ∧ (askT T R x o).stamp = T.stamp := fun o => by unfold askT; split <;> exact ⟨rfl, rfl⟩
  refine ⟨by unfold askE; rw [hT]; rfl, ⟨h1, h2, h3.ask hR, fun q hq => ?_, fun a ha => ?_⟩, fun he => ?_, fun ha => ?_⟩
  · rw [e, mget_mput h3.2.1]
    by_cases hqt : (q : Int) = (t : Int)
    · obtain rfl : q = t := by omega
      rw [if_pos rfl, hI]; rfl
    · rw [if_neg hqt]; exact h4 q hq
  · rw [e] at ha
    rcases (mem_mput (a := a.1) (u := a.2) h3.2.1).1 ha with ⟨e1, e2⟩ | ⟨hne, ha⟩
    · exact ⟨t, ht, e1, by rw [e2, (hask _).1]; exact hl, by rw [e2, (hask _).2]; exact hs⟩
    · exact h5 _ ha
  · rw [askV_of hT]
    unfold ansO
    have : (M.any fun a => othB M (t : Int) (sameQ T) a.1 && dieB M T R x a.1) = false := List.any_eq_false.2 fun a ha => by
      intro hh
      rw [Bool.and_eq_true] at hh
      obtain ⟨q, hq, q1, q2, q3, q4⟩ := othB_in h ha hh.1
      have hd := hh.2
      unfold dieB at hd
      simp only [Bool.and_eq_true, decide_eq_true_eq] at hd
      have hle := hd.2
      rw [q4, hs] at hle
      unfold eldB at he
      have := List.all_eq_true.1 he q (List.mem_range.2 hq)
      rw [q3, decide_eq_true q2, Bool.true_and, Bool.not_true, Bool.false_or, decide_eq_true_eq] at this
      omega
    rw [this]
    simp only [Bool.false_eq_true, if_false]
    split <;> decide
  · rw [askV_of hT]
    refine ans_one fun a hm => .inl ?_
    cases ho : othB M (t : Int) (sameQ T) a.1 with
    | false => rfl
    | true =>
      obtain ⟨q, hq, q1, q2, q3, q4⟩ := othB_in h hm ho
      unfold aloB at ha
      have := List.all_eq_true.1 ha q (List.mem_range.2 hq)
      rw [q3, decide_eq_true q2] at this
      simp at this
theorem RInv.leave (h : RInv IN ST M n) (ht : t < 8) (hI : IN.getD t false = true) : leaveE M (t : Int) = 0 ∧ RInv (IN.set t false) ST (mdel M (t : Int)) (n + 1) := by
  obtain ⟨T, hT, hl, hs⟩ := h.get ht hI
  obtain ⟨h1, h2, h3, h4, h5⟩ := h
  refine ⟨by unfold leaveE; rw [hT]; rfl, by simp [h1], h2, h3.del, fun q hq => ?_, fun a ha => ?_⟩
  · rw [mget_mdel h3.2.1, getD_set (by omega)]
    by_cases hqt : q = t
    · subst hqt; rw [if_pos rfl, if_pos rfl]; rfl
    · rw [if_neg (by omega), if_neg hqt]; exact h4 q hq
  · exact h5 _ (mdel_keys_sub.subset ha)
end
end Go.Proofs.Ytmhdbphpmgjpcaa

/- Walks, written by a program: what each function of the translation hands back. -/
namespace Go.Proofs.Ytmhdbphpmgjpcaa
open Go.Gx Go.RowKit
attribute [local irreducible] wpList wpStill Code.wp Calls

end Go.Proofs.Ytmhdbphpmgjpcaa

/- Small laws for walks, the thirty-first part: arrays of one-cell elements, indexed by a variable. -/
namespace Go.Gx
open Go.RowKit
section
variable {P : Program} {Q : Exit → Act → World → Prop} {a : Act} {w : World} {l : List (Nat × Value)} {ops : Array Oper} {rest : List Oper}
variable {d ty xt t : Nat} {p : String} {af : Array Edge} {x y : Operand} {k : IntKind} {b c : Nat}
theorem op_index_arr1 {i : Int} {j : Nat} (hT : arrT P xt = some (c, 1)) (hx : (putsL a l).eval x = ptr b 0) (hy : (putsL a l).eval y = .int k i) (hj : i = (j : Int)) (h1 : j < c) (h : wpList P ops Q rest (putsL a ((d, ptr b j) :: l)) w) :
    wpList P ops Q (⟨some d, .indexAddr xt x y, ty, p, af, none⟩ :: rest) (putsL a l) w :=
  op_index_arr hT hx hy hj h1 (by rw [Nat.zero_add, Nat.mul_one]; exact h)
theorem row_at {α : Type} {f : α → Value} {A : List α} {d : α} {j : Nat} (h : j < A.length) : (A.map f)[j]? = some (f (A.getD j d)) := by
  simp [List.getD_eq_getElem?_getD, h]
theorem row_set {α : Type} {f : α → Value} {A : List α} {j : Nat} {x : α} (h : Bx w b t ((A.map f).set j (f x))) : Bx w b t ((A.set j x).map f) := by
  rw [List.map_set]; exact h
end
end Go.Gx

/- Small laws for walks, the thirty-second part: a region of open order in which what only copies slots may come at any time, and all else comes one by one. -/
namespace Go.Gx
open Go.RowKit
section
variable {P : Program} {ol : List Oper} {Q Q1 : Exit → Act → World → Prop}
end
end Go.Gx

/- Plain facts on lists that are merged by picks. -/
namespace Go.Gx
abbrev LU := List UInt16
abbrev LbU := Value × LU
def DU : LbU := (.slice none 0 0, [])
/-- a list told by where one is in each -/
def AtIs (X : List LU) (A : List Nat) (S : List LU) : Prop := A.length = X.length ∧ S.length = X.length ∧ ∀ k, S.getD k [] = (X.getD k []).drop (A.getD k 0)
theorem AtIs.start (X : List LU) : AtIs X (List.replicate X.length 0) X := ⟨by simp, rfl, fun k => by
  have : (List.replicate X.length 0).getD k 0 = 0 := by simp only [List.getD_eq_getElem?_getD, List.getElem?_replicate]; split <;> rfl
  rw [this]; rfl⟩
theorem getD_set_ne {α : Type} {l : List α} {i j : Nat} {x d : α} (h : i ≠ j) : (l.set i x).getD j d = l.getD j d := by simp [List.getD_eq_getElem?_getD, List.getElem?_set_ne h]
theorem getD_set_eq {α : Type} {l : List α} {i : Nat} {x d : α} (h : i < l.length) : (l.set i x).getD i d = x := by simp [List.getD_eq_getElem?_getD, h]
/-! sums of lengths -/
/-- one is nowhere behind an end -/
def AtLe (M : List LbU) (A : List Nat) : Prop := ∀ k, A.getD k 0 ≤ (M.getD k DU).2.length
theorem AtLe.start (M : List LbU) (n : Nat) : AtLe M (List.replicate n 0) := fun k => by
  have : (List.replicate n 0).getD k 0 = 0 := by simp only [List.getD_eq_getElem?_getD, List.getElem?_replicate]; split <;> rfl
  rw [this]; exact Nat.zero_le _
theorem AtLe.step {M : List LbU} {A : List Nat} (h : AtLe M A) {k : Nat} (hn : A.getD k 0 < (M.getD k DU).2.length) : AtLe M (A.set k (A.getD k 0 + 1)) := fun j => by
  by_cases hj : k = j
  · subst hj
    by_cases hk : k < A.length
    · rw [getD_set_eq hk]; omega
    · have := h k
      rw [List.set_eq_of_length_le (by omega)]; exact this
  · rw [getD_set_ne hj]; exact h j
/-! lists of numbers -/
def nv (n : Nat) : Value := .int .i64 (n : Int)
theorem flat_one {α : Type} (l : List α) (f : α → Value) : l.flatMap (fun x => [f x]) = l.map f := by induction l with | nil => rfl | cons a l ih => simp [ih]
end Go.Gx
