/- Walks, written by a program: what each function of the translation hands back. -/
import Derived.Test.YtcpfdfejojghbaaProg
import Derived.KernelRfl
import Derived.Test.YtcpfdfejojghbaaB6
set_option linter.unusedVariables false
set_option linter.unusedSimpArgs false

namespace Go.Proofs.Ytcpfdfejojghbaa
open Go.Gx Go.RowKit
attribute [local irreducible] wpList wpStill Code.wp Calls
open Go.Bt
theorem CompareText_ret (s t : List UInt8) (w : World) (hs : s.length ≤ 4000000000000000000) (ht : t.length ≤ 4000000000000000000) : Ret Try.prog 53 #[(Value.string (bs s)), (Value.string (bs t))] w (fun v' w' => Below w.heap.size w w' ∧ v' = .int .i64 (cmpT s t)) := by
 have hb := Below.refl w.heap.size w
 refine enter (N := 42) Try.func53 rfl rfl (by simp) fun a0 hN hd hA => ?_
 have s0 : a0.tmps.getD 0 undef = (Value.string (bs s)) := hA 0 (by simp)
 have s1 : a0.tmps.getD 1 undef = (Value.string (bs t)) := hA 1 (by simp)
 clear hA
 refine seq_any fun K2 hK2 => one_reg (op_assign rfl (reg_nil (hK2 _ _ ?_)))
 refine seq_any fun K3 hK3 => seq_any fun K4 hK4 => one_reg (op_assign rfl (reg_nil (hK4 _ _ (wp_block ?_))))
 refine loop_m (fun mz_ az_ w' => ∃ (i : Nat), mz_ = s.length - i ∧ (az_.tmps.getD 0 undef = (Value.string (bs s))) ∧ (az_.tmps.getD 1 undef = (Value.string (bs t))) ∧ (az_.tmps.getD 5 undef = (Value.int .i64 ((i : Nat) : Int))) ∧ (i ≤ s.length ∧ i ≤ t.length) ∧ (cmpT s t = cmpT (s.drop i) (t.drop i)) ∧ (Below w.heap.size w w') ∧ (w.heap.size ≤ w'.heap.size)) _ hN hd ⟨0, rfl, (sl_base hN rfl s0), (sl_base hN rfl s1), (sl_hit hN rfl), ⟨Nat.zero_le _, Nat.zero_le _⟩, rfl, hb, (Nat.le_refl _)⟩ ?_
 rintro _ a6 w6 hN6 hd6 ⟨i, rfl, s6_0, s6_1, s6_5, hi, he, hb, zl_w6⟩
 have z_w6 := hb.size
 refine seq_any fun K7 hK7 => seq_any fun K10 hK10 => one_reg (op_move (ev_base hN6 rfl s6_5) (op_move (ev_base hN6 rfl s6_0) (op_len_str Try.underlying9 (ev_hit hN6 rfl) ?_)))
 refine op_lss (ev_hit hN6 rfl) (ev_hit hN6 rfl) (fun c9 => ?_) (fun c9 => ?_)
 ·
  refine op_move (ev_hit hN6 rfl) (g_true (j := 4) (dj := 10) (b := true) rfl rfl rfl (ev_hit hN6 rfl) (op_move (ev_base hN6 rfl s6_5) (g_true (j := 4) (dj := 10) (b := true) rfl rfl rfl (ev_hit hN6 rfl) (op_move (ev_base hN6 rfl s6_1) (g_true (j := 4) (dj := 10) (b := true) rfl rfl rfl (ev_hit hN6 rfl) (op_len_str Try.underlying9 (ev_hit hN6 rfl) ?_))))))
  refine g_true (j := 4) (dj := 10) (b := true) rfl rfl rfl (ev_hit hN6 rfl) (op_lss (ev_hit hN6 rfl) (ev_hit hN6 rfl) (fun c14 => ?_) (fun c14 => ?_))
  ·
   refine op_pick_t (ev_hit hN6 rfl) (ev_hit hN6 rfl) ?_
   refine reg_nil (hK10 _ _ (wp_cond_true (ev_hit hN6 rfl) (wp_skip (hK7 _ _ (seq_any fun K11 hK11 => wp_block ?_)))))
   refine seq_any fun K12 hK12 => seq_any fun K13 hK13 => reg_still mixed (by kernel_rfl) ?_
   intro w16 E15
   have z_w16 := E15.size
   have hb := below_step0 hb E15 hb.size
   refine st_step rfl (fun _ h9 => op_move (ev_base hN6 rfl s6_0) h9) ?_
   refine st_step rfl (fun _ h9 => op_move (ev_base hN6 rfl s6_5) h9) ?_
   refine st_step rfl (fun _ h9 => op_index_str (b := (s.getD i 0)) Try.underlying9 (ev_hit hN6 rfl) (ev_hit hN6 rfl) (by omega) (el_str (i := i) (by omega) (by omega)) h9) ?_
   refine st_step rfl (fun _ h9 => op_move (ev_base hN6 rfl s6_1) h9) ?_
   refine st_step rfl (fun _ h9 => op_move (ev_base hN6 rfl s6_5) h9) ?_
   refine st_step rfl (fun _ h9 => op_index_str (b := (t.getD i 0)) Try.underlying9 (ev_hit hN6 rfl) (ev_hit hN6 rfl) (by omega) (el_str (i := i) (by omega) (by omega)) h9) ?_
   refine st_step rfl (fun _ h9 => op_cmp (b := (decide (((s.getD i 0).toNat : Int) < ((t.getD i 0).toNat : Int)))) (ev_hit hN6 rfl) (ev_hit hN6 rfl) (b_lss rfl) h9) ?_
   refine st_nil ?_
   refine hK13 _ _ (wp_cond_split (ev_hit hN6 rfl) (fun c24 => ?_) (fun c24 => ?_))
   ·
    have c24 := of_decide_eq_true c24
    refine seq_any fun K17 hK17 => one_reg (op_assign rfl (reg_nil (hK17 _ _ (wp_ret (then_ret (blk_ret (then_ret (then_ret (blk_ret (then_ret ( ?_)))))))))))
    refine ret1 rfl hd6 (ev_hit hN6 rfl) ⟨_, rfl, ?_⟩
    exact ⟨hb, congrArg (Value.int .i64) (by rw [he, cmpT_step (by omega) (by omega), if_pos (by omega)])⟩
   ·
    have c24 := of_decide_eq_false c24
    refine wp_skip (hK12 _ _ (seq_any fun K18 hK18 => reg_still mixed (by kernel_rfl) ?_))
    intro w20 E19
    have z_w20 := E19.size
    have hb := below_step0 hb E19 hb.size
    refine st_step rfl (fun _ h9 => op_move (ev_base hN6 rfl s6_0) h9) ?_
    refine st_step rfl (fun _ h9 => op_move (ev_base hN6 rfl s6_5) h9) ?_
    refine st_step rfl (fun _ h9 => op_index_str (b := (s.getD i 0)) Try.underlying9 (ev_hit hN6 rfl) (ev_hit hN6 rfl) (by omega) (el_str (i := i) (by omega) (by omega)) h9) ?_
    refine st_step rfl (fun _ h9 => op_move (ev_base hN6 rfl s6_1) h9) ?_
    refine st_step rfl (fun _ h9 => op_move (ev_base hN6 rfl s6_5) h9) ?_
    refine st_step rfl (fun _ h9 => op_index_str (b := (t.getD i 0)) Try.underlying9 (ev_hit hN6 rfl) (ev_hit hN6 rfl) (by omega) (el_str (i := i) (by omega) (by omega)) h9) ?_
    refine st_step rfl (fun _ h9 => op_cmp (b := (decide (((t.getD i 0).toNat : Int) < ((s.getD i 0).toNat : Int)))) (ev_hit hN6 rfl) (ev_hit hN6 rfl) (b_gtr rfl) h9) ?_
    refine st_nil ?_
    refine hK18 _ _ (wp_cond_split (ev_hit hN6 rfl) (fun c31 => ?_) (fun c31 => ?_))
    ·
     have c31 := of_decide_eq_true c31
     refine seq_any fun K21 hK21 => one_reg (op_assign rfl (reg_nil (hK21 _ _ (wp_ret (blk_ret (then_ret (then_ret (blk_ret (then_ret ( ?_))))))))))
     refine ret1 rfl hd6 (ev_hit hN6 rfl) ⟨_, rfl, ?_⟩
     exact ⟨hb, congrArg (Value.int .i64) (by rw [he, cmpT_step (by omega) (by omega), if_neg (by omega), if_pos (by omega)])⟩
    ·
     have c31 := of_decide_eq_false c31
     refine wp_skip (hK11 _ _ (one_reg (op_move (ev_base hN6 rfl s6_5) (op_add (ev_hit hN6 rfl) rfl (add64 (by omega)) ?_))))
     refine op_assign (ev_hit hN6 rfl) (reg_nil ?_)
     -- round 9T 14T 24F 31F
     exact loop_next _ hN6 hd6 ⟨i + 1, rfl, (sl_base hN6 rfl s6_0), (sl_base hN6 rfl s6_1), (sl_hit hN6 rfl).trans (congrArg (Value.int .i64) (by omega)), (by omega), (he.trans ((cmpT_step (by omega) (by omega)).trans (by rw [if_neg (by omega), if_neg (by omega)]))), hb, (by omega)⟩ (by omega)
  ·
   refine op_pick_t (ev_hit hN6 rfl) (ev_hit hN6 rfl) ?_
   refine reg_nil (hK10 _ _ (wp_cond_false (ev_hit hN6 rfl) (wp_exit (then_exit (then_exit (blk_hit ?_))))))
   refine hK3 _ _ (seq_any fun K22 hK22 => seq_any fun K23 hK23 => one_reg (op_move (ev_base hN6 rfl s6_0) (op_len_str Try.underlying9 (ev_hit hN6 rfl) ?_)))
   refine op_move (ev_base hN6 rfl s6_1) (op_len_str Try.underlying9 (ev_hit hN6 rfl) ?_)
   refine op_lss (ev_hit hN6 rfl) (ev_hit hN6 rfl) (fun c36 => ?_) (fun c36 => ?_)
   ·
    refine reg_nil (hK23 _ _ ?_)
    refine wp_cond_true (ev_hit hN6 rfl) (seq_any fun K25 hK25 => one_reg (op_assign rfl (reg_nil (hK25 _ _ (wp_ret (then_ret ( ?_)))))))
    refine ret1 rfl hd6 (ev_hit hN6 rfl) ⟨_, rfl, ?_⟩
    exact ⟨hb, congrArg (Value.int .i64) (by rw [he]; rw [cmpT_end hi (by omega)]; first | (exfalso; omega) | rw [if_pos (by omega)] | rw [if_neg (by omega), if_pos (by omega)] | rw [if_neg (by omega), if_neg (by omega)])⟩
   ·
    refine reg_nil (hK23 _ _ (wp_cond_false (ev_hit hN6 rfl) ?_))
    refine wp_skip (hK22 _ _ (seq_any fun K26 hK26 => seq_any fun K27 hK27 => one_reg (op_move (ev_base hN6 rfl s6_0) (op_len_str Try.underlying9 (ev_hit hN6 rfl) ?_))))
    refine op_move (ev_base hN6 rfl s6_1) (op_len_str Try.underlying9 (ev_hit hN6 rfl) ?_)
    refine op_gtr (ev_hit hN6 rfl) (ev_hit hN6 rfl) (fun c41 => ?_) (fun c41 => ?_)
    ·
     refine reg_nil (hK27 _ _ ?_)
     refine wp_cond_true (ev_hit hN6 rfl) (seq_any fun K28 hK28 => one_reg (op_assign rfl (reg_nil (hK28 _ _ (wp_ret (then_ret ( ?_)))))))
     refine ret1 rfl hd6 (ev_hit hN6 rfl) ⟨_, rfl, ?_⟩
     exact ⟨hb, congrArg (Value.int .i64) (by rw [he]; rw [cmpT_end hi (by omega)]; first | (exfalso; omega) | rw [if_pos (by omega)] | rw [if_neg (by omega), if_pos (by omega)] | rw [if_neg (by omega), if_neg (by omega)])⟩
    ·
     refine reg_nil (hK27 _ _ (wp_cond_false (ev_hit hN6 rfl) (wp_skip ?_)))
     refine hK26 _ _ (seq_any fun K29 hK29 => one_reg (op_assign rfl (reg_nil (hK29 _ _ (wp_ret ?_)))))
     refine ret1 rfl hd6 (ev_hit hN6 rfl) ⟨_, rfl, ?_⟩
     exact ⟨hb, congrArg (Value.int .i64) (by rw [he]; rw [cmpT_end hi (by omega)]; first | (exfalso; omega) | rw [if_pos (by omega)] | rw [if_neg (by omega), if_pos (by omega)] | rw [if_neg (by omega), if_neg (by omega)])⟩
 ·
  refine op_move (ev_hit hN6 rfl) (g_false (j := 4) (dj := 10) (b := true) rfl rfl rfl (ev_hit hN6 rfl) rfl rfl (g_false (j := 4) (dj := 10) (b := true) rfl rfl rfl (ev_hit hN6 rfl) rfl rfl (g_false (j := 4) (dj := 10) (b := true) rfl rfl rfl (ev_hit hN6 rfl) rfl rfl (g_false (j := 4) (dj := 10) (b := true) rfl rfl rfl (ev_hit hN6 rfl) rfl rfl (op_pick_f (ev_hit hN6 rfl) rfl ?_)))))
  refine reg_nil (hK10 _ _ (wp_cond_false (ev_hit hN6 rfl) (wp_exit (then_exit (then_exit (blk_hit ?_))))))
  refine hK3 _ _ (seq_any fun K30 hK30 => seq_any fun K32 hK32 => one_reg (op_move (ev_base hN6 rfl s6_0) (op_len_str Try.underlying9 (ev_hit hN6 rfl) ?_)))
  refine op_move (ev_base hN6 rfl s6_1) (op_len_str Try.underlying9 (ev_hit hN6 rfl) ?_)
  refine op_lss (ev_hit hN6 rfl) (ev_hit hN6 rfl) (fun c36 => ?_) (fun c36 => ?_)
  ·
   refine reg_nil (hK32 _ _ ?_)
   refine wp_cond_true (ev_hit hN6 rfl) (seq_any fun K33 hK33 => one_reg (op_assign rfl (reg_nil (hK33 _ _ (wp_ret (then_ret ( ?_)))))))
   refine ret1 rfl hd6 (ev_hit hN6 rfl) ⟨_, rfl, ?_⟩
   exact ⟨hb, congrArg (Value.int .i64) (by rw [he]; rw [cmpT_end hi (by omega)]; first | (exfalso; omega) | rw [if_pos (by omega)] | rw [if_neg (by omega), if_pos (by omega)] | rw [if_neg (by omega), if_neg (by omega)])⟩
  ·
   refine reg_nil (hK32 _ _ (wp_cond_false (ev_hit hN6 rfl) ?_))
   refine wp_skip (hK30 _ _ (seq_any fun K34 hK34 => seq_any fun K35 hK35 => one_reg (op_move (ev_base hN6 rfl s6_0) (op_len_str Try.underlying9 (ev_hit hN6 rfl) ?_))))
   refine op_move (ev_base hN6 rfl s6_1) (op_len_str Try.underlying9 (ev_hit hN6 rfl) ?_)
   refine op_gtr (ev_hit hN6 rfl) (ev_hit hN6 rfl) (fun c41 => ?_) (fun c41 => ?_)
   ·
    refine reg_nil (hK35 _ _ ?_)
    refine wp_cond_true (ev_hit hN6 rfl) (seq_any fun K37 hK37 => one_reg (op_assign rfl (reg_nil (hK37 _ _ (wp_ret (then_ret ( ?_)))))))
    refine ret1 rfl hd6 (ev_hit hN6 rfl) ⟨_, rfl, ?_⟩
    exact ⟨hb, congrArg (Value.int .i64) (by rw [he]; rw [cmpT_end hi (by omega)]; first | (exfalso; omega) | rw [if_pos (by omega)] | rw [if_neg (by omega), if_pos (by omega)] | rw [if_neg (by omega), if_neg (by omega)])⟩
   ·
    refine reg_nil (hK35 _ _ (wp_cond_false (ev_hit hN6 rfl) (wp_skip ?_)))
    refine hK34 _ _ (seq_any fun K38 hK38 => one_reg (op_assign rfl (reg_nil (hK38 _ _ (wp_ret ?_)))))
    refine ret1 rfl hd6 (ev_hit hN6 rfl) ⟨_, rfl, ?_⟩
    exact ⟨hb, congrArg (Value.int .i64) (by rw [he]; rw [cmpT_end hi (by omega)]; first | (exfalso; omega) | rw [if_pos (by omega)] | rw [if_neg (by omega), if_pos (by omega)] | rw [if_neg (by omega), if_neg (by omega)])⟩

theorem pairsAt {ks : List Ky} {vs : List Int} {kv vv : Value} {p B0 : Nat} {k : List UInt8} {w : World} (hp : Bx w p 58 [kv, vv]) (ok : Own w B0 9 1 kv ks.length (ks.map sv)) (ov : Own w B0 3 1 vv vs.length (vs.map (Value.int .i64))) (hs : Sorted ks) (hn : ks.length ≤ 10000) (hlen : vs.length = ks.length) (hkl : ∀ x ∈ ks, x.length ≤ 1000000000) (hkk : k.length ≤ 1000000000) : Ret Try.prog 31 #[(ptr p 0), (Value.string (bs k))] w (fun v' w' => Below w.heap.size w w' ∧ v' = .tuple #[.int .i64 ((pos ks k : Nat) : Int), .bool (ks.contains k)]) := by
 have hpl := pos_le ks k
 have hb := Below.refl w.heap.size w
 refine enter (N := 47) Try.func31 rfl rfl (by simp) fun a0 hN hd hA => ?_
 have s0 : a0.tmps.getD 0 undef = (ptr p 0) := hA 0 (by simp)
 have s1 : a0.tmps.getD 1 undef = (Value.string (bs k)) := hA 1 (by simp)
 clear hA
 refine seq_any fun K3 hK3 => one_reg (op_assign rfl (op_assign rfl (reg_nil (hK3 _ _ ?_))))
 refine seq_any fun K7 hK7 => one_reg (op_assign rfl (reg_nil (hK7 _ _ (seq_any fun K10 hK10 => wp_block ?_))))
 refine loop_m (fun mz_ az_ w' => ∃ (i : Nat), mz_ = ks.length - i ∧ (az_.tmps.getD 0 undef = (ptr p 0)) ∧ (az_.tmps.getD 1 undef = (Value.string (bs k))) ∧ (az_.tmps.getD 4 undef = (Value.int .i64 0)) ∧ (az_.tmps.getD 5 undef = (Value.bool false)) ∧ (az_.tmps.getD 6 undef = (Value.int .i64 ((i : Nat) : Int))) ∧ (i ≤ pos ks k) ∧ (Below w.heap.size w w') ∧ (w.heap.size ≤ w'.heap.size) ∧ (Bx w' p 58 [kv, vv]) ∧ (Own w' B0 9 1 kv ks.length (ks.map sv)) ∧ (Own w' B0 3 1 vv vs.length (vs.map (Value.int .i64)))) _ hN hd ⟨0, rfl, (sl_base hN rfl s0), (sl_base hN rfl s1), (sl_hit hN rfl), (sl_hit hN rfl), (sl_hit hN rfl), (Nat.zero_le _), hb, (Nat.le_refl _), hp, ok, ov⟩ ?_
 rintro _ a11 w11 hN11 hd11 ⟨i, rfl, s11_0, s11_1, s11_4, s11_5, s11_6, hi, hb, zl_w11, hp, ok, ov⟩
 have z_w11 := hb.size
 refine seq_any fun K12 hK12 => seq_any fun K14 hK14 => ?_
 refine one_reg (op_move (ev_base hN11 rfl s11_6) (op_move (ev_base hN11 rfl s11_0) (op_nil (ev_hit hN11 rfl) (op_field fld58_0 (ev_hit hN11 rfl) (op_load1 (v := kv) one56 (ev_hit hN11 rfl) (hp.cell rfl) (op_len_rd Try.underlying56 (ev_hit hN11 rfl) ok.rdw ?_))))))
 refine op_lss (ev_hit hN11 rfl) (ev_hit hN11 rfl) (fun c13 => ?_) (fun c13 => ?_)
 ·
  refine op_move (ev_hit hN11 rfl) (g_true (j := 7) (dj := 14) (b := true) rfl rfl rfl (ev_hit hN11 rfl) (op_move (ev_base hN11 rfl s11_0) (g_true (j := 7) (dj := 14) (b := true) rfl rfl rfl (ev_hit hN11 rfl) (op_nil (ev_hit hN11 rfl) (g_true (j := 7) (dj := 14) (b := true) rfl rfl rfl (ev_hit hN11 rfl) ?_)))))
  refine op_field fld58_0 (ev_hit hN11 rfl) (g_true (j := 7) (dj := 14) (b := true) rfl rfl rfl (ev_hit hN11 rfl) (op_load1 (v := kv) one56 (ev_hit hN11 rfl) (hp.cell rfl) (g_true (j := 7) (dj := 14) (b := true) rfl rfl rfl (ev_hit hN11 rfl) (op_move (ev_base hN11 rfl s11_6) (g_true (j := 7) (dj := 14) (b := true) rfl rfl rfl (ev_hit hN11 rfl) (op_index_rd slt56 (ev_hit hN11 rfl) ok.rdw (ev_hit hN11 rfl) (by omega) (by omega) ?_))))))
  intro b15 o16 h0b15 h1b15 hc17
  refine g_true (j := 7) (dj := 14) (b := true) rfl rfl rfl (ev_hit hN11 rfl) (op_load1 (v := (Value.string (bs (ks.getD i [])))) one9 (ev_hit hN11 rfl) (by have := hc17 0 (Value.string (bs (ks.getD i []))) (by decide) (el_sv (i := i) (by omega) (by omega)); simpa using this) (g_true (j := 7) (dj := 14) (b := true) rfl rfl rfl (ev_hit hN11 rfl) (op_move (ev_base hN11 rfl s11_1) (g_true (j := 7) (dj := 14) (b := true) rfl rfl rfl (ev_hit hN11 rfl) (op_fn (vs := [(Value.string (bs (ks.getD i []))), (Value.string (bs k))]) ok53 ⟨(ev_hit hN11 rfl), ⟨(ev_hit hN11 rfl), trivial⟩⟩ (CompareText_ret (ks.getD i []) k _ (by have := hkl _ (getD_mem9 (d := []) (show i < ks.length by omega)); omega) (by omega)) ?_)))))
  rintro _ w18 ⟨E19, rfl⟩
  have E19 := grown_of_below E19
  have z_w18 := E19.size
  have hp := hp.keep0 E19
  have ok := ok.keep0 E19
  have ov := ov.keep0 E19
  have hb := below_step0 hb E19 hb.size
  refine g_true (j := 7) (dj := 14) (b := true) rfl rfl rfl (ev_hit hN11 rfl) (op_lss (ev_hit hN11 rfl) rfl (fun c24 => ?_) (fun c24 => ?_))
  ·
   refine op_pick_t (ev_hit hN11 rfl) (ev_hit hN11 rfl) ?_
   refine reg_nil (hK14 _ _ (wp_cond_true (ev_hit hN11 rfl) (wp_skip (hK12 _ _ (wp_block ?_)))))
   refine one_reg (op_move (ev_base hN11 rfl s11_6) (op_add (ev_hit hN11 rfl) rfl (add64 (by omega)) ?_))
   refine op_assign (ev_hit hN11 rfl) (reg_nil (blk_normal ?_))
   -- round 13T 24T
   exact loop_next _ hN11 hd11 ⟨(i + 1), rfl, (sl_base hN11 rfl s11_0), (sl_base hN11 rfl s11_1), (sl_base hN11 rfl s11_4), (sl_base hN11 rfl s11_5), (sl_hit hN11 rfl).trans (congrArg (Value.int .i64) (by omega)), (by have := (pos_step hs (m := i) (by omega)).1 c24; omega), hb, (by omega), hp, ok, ov⟩ (by omega)
  ·
   refine op_pick_t (ev_hit hN11 rfl) (ev_hit hN11 rfl) ?_
   refine reg_nil (hK14 _ _ (wp_cond_false (ev_hit hN11 rfl) (wp_exit (then_exit (then_exit (blk_hit ?_))))))
   refine hK10 _ _ (seq_any fun K20 hK20 => ?_)
   have hip : i = pos ks k := at_new hs hi (fun h => c24)
   refine reg_still mixed (by kernel_rfl) ?_
   intro w22 E21
   have z_w22 := E21.size
   have hp := hp.keep0 E21
   have ok := ok.keep0 E21
   have hb := below_step0 hb E21 hb.size
   refine st_step rfl (fun _ h9 => op_move (ev_base hN11 rfl s11_6) h9) ?_
   refine st_step rfl (fun _ h9 => op_move (ev_base hN11 rfl s11_6) h9) ?_
   refine st_step rfl (fun _ h9 => op_move (ev_base hN11 rfl s11_0) h9) ?_
   refine st_step rfl (fun _ h9 => op_nil (ev_hit hN11 rfl) h9) ?_
   refine st_step rfl (fun _ h9 => op_field fld58_0 (ev_hit hN11 rfl) h9) ?_
   refine st_step rfl (fun _ h9 => op_load1 (v := kv) one56 (ev_hit hN11 rfl) (hp.cell rfl) h9) ?_
   refine st_step rfl (fun _ h9 => op_len_rd Try.underlying56 (ev_hit hN11 rfl) ok.rdw h9) ?_
   by_cases g35 : ((i : Nat) : Int) < ((ks.length : Nat) : Int)
   ·
    refine st_step rfl (fun _ h9 => op_cmp (b := true) (ev_hit hN11 rfl) (ev_hit hN11 rfl) (b_lss (decide_eq_true g35)) h9) ?_
    refine st_step rfl (fun _ h9 => op_move (ev_hit hN11 rfl) h9) ?_
    refine st_g_true (j := 8) (dj := 36) (b := true) rfl rfl rfl (ev_hit hN11 rfl) ?_
    refine st_step rfl (fun _ h9 => op_move (ev_base hN11 rfl s11_0) h9) ?_
    refine st_g_true (j := 8) (dj := 36) (b := true) rfl rfl rfl (ev_hit hN11 rfl) ?_
    refine st_step rfl (fun _ h9 => op_nil (ev_hit hN11 rfl) h9) ?_
    refine st_g_true (j := 8) (dj := 36) (b := true) rfl rfl rfl (ev_hit hN11 rfl) ?_
    refine st_step rfl (fun _ h9 => op_field fld58_0 (ev_hit hN11 rfl) h9) ?_
    refine st_g_true (j := 8) (dj := 36) (b := true) rfl rfl rfl (ev_hit hN11 rfl) ?_
    refine st_step rfl (fun _ h9 => op_load1 (v := kv) one56 (ev_hit hN11 rfl) (hp.cell rfl) h9) ?_
    refine st_g_true (j := 8) (dj := 36) (b := true) rfl rfl rfl (ev_hit hN11 rfl) ?_
    refine st_step rfl (fun _ h9 => op_move (ev_base hN11 rfl s11_6) h9) ?_
    refine st_g_true (j := 8) (dj := 36) (b := true) rfl rfl rfl (ev_hit hN11 rfl) ?_
    refine st_index_rd slt56 (ev_hit hN11 rfl) ok.rdw (ev_hit hN11 rfl) (by omega) (by omega) ?_
    intro b23 o25 h0b23 h1b23 hc26
    refine st_g_true (j := 8) (dj := 36) (b := true) rfl rfl rfl (ev_hit hN11 rfl) ?_
    refine st_step rfl (fun _ h9 => op_load1 (v := (Value.string (bs (ks.getD i [])))) one9 (ev_hit hN11 rfl) (by have := hc26 0 (Value.string (bs (ks.getD i []))) (by decide) (el_sv (i := i) (by omega) (by omega)); simpa using this) h9) ?_
    refine st_g_true (j := 8) (dj := 36) (b := true) rfl rfl rfl (ev_hit hN11 rfl) ?_
    refine st_step rfl (fun _ h9 => op_move (ev_base hN11 rfl s11_1) h9) ?_
    refine st_g_true (j := 8) (dj := 36) (b := true) rfl rfl rfl (ev_hit hN11 rfl) ?_
    refine st_step rfl (fun _ h9 => op_seqlb (b := (decide ((ks.getD i []) = k))) (ev_hit hN11 rfl) (ev_hit hN11 rfl) rfl h9) ?_
    refine st_step rfl (fun _ h9 => op_pick_t (ev_hit hN11 rfl) (ev_hit hN11 rfl) h9) ?_
    refine st_step rfl (fun _ h9 => op_assign (ev_hit hN11 rfl) h9) ?_
    refine st_step rfl (fun _ h9 => op_assign (ev_hit hN11 rfl) h9) ?_
    refine st_nil ?_
    refine hK20 _ _ (wp_ret ?_)
    refine ret2 rfl hd11 (ev_hit hN11 rfl) (ev_hit hN11 rfl) ⟨_, rfl, ?_⟩
    rw [at_is hs hip (by omega), hip]
    exact ⟨hb, rfl⟩
   ·
    refine st_step rfl (fun _ h9 => op_cmp (b := false) (ev_hit hN11 rfl) (ev_hit hN11 rfl) (b_lss (decide_eq_false g35)) h9) ?_
    refine st_step rfl (fun _ h9 => op_move (ev_hit hN11 rfl) h9) ?_
    refine st_g_false (j := 8) (dj := 36) (b := true) rfl rfl rfl (ev_hit hN11 rfl) rfl rfl ?_
    refine st_g_false (j := 8) (dj := 36) (b := true) rfl rfl rfl (ev_hit hN11 rfl) rfl rfl ?_
    refine st_g_false (j := 8) (dj := 36) (b := true) rfl rfl rfl (ev_hit hN11 rfl) rfl rfl ?_
    refine st_g_false (j := 8) (dj := 36) (b := true) rfl rfl rfl (ev_hit hN11 rfl) rfl rfl ?_
    refine st_g_false (j := 8) (dj := 36) (b := true) rfl rfl rfl (ev_hit hN11 rfl) rfl rfl ?_
    refine st_g_false (j := 8) (dj := 36) (b := true) rfl rfl rfl (ev_hit hN11 rfl) rfl rfl ?_
    refine st_g_false (j := 8) (dj := 36) (b := true) rfl rfl rfl (ev_hit hN11 rfl) rfl rfl ?_
    refine st_g_false (j := 8) (dj := 36) (b := true) rfl rfl rfl (ev_hit hN11 rfl) rfl rfl ?_
    refine st_g_false (j := 8) (dj := 36) (b := true) rfl rfl rfl (ev_hit hN11 rfl) rfl rfl ?_
    refine st_step rfl (fun _ h9 => op_pick_f (ev_hit hN11 rfl) rfl h9) ?_
    refine st_step rfl (fun _ h9 => op_assign (ev_hit hN11 rfl) h9) ?_
    refine st_step rfl (fun _ h9 => op_assign (ev_hit hN11 rfl) h9) ?_
    refine st_nil ?_
    refine hK20 _ _ (wp_ret ?_)
    refine ret2 rfl hd11 (ev_hit hN11 rfl) (ev_hit hN11 rfl) ⟨_, rfl, ?_⟩
    rw [pos_miss hs hip (by omega), hip]
    exact ⟨hb, rfl⟩
 ·
  refine op_move (ev_hit hN11 rfl) (g_false (j := 7) (dj := 14) (b := true) rfl rfl rfl (ev_hit hN11 rfl) rfl rfl (g_false (j := 7) (dj := 14) (b := true) rfl rfl rfl (ev_hit hN11 rfl) rfl rfl (g_false (j := 7) (dj := 14) (b := true) rfl rfl rfl (ev_hit hN11 rfl) rfl rfl (g_false (j := 7) (dj := 14) (b := true) rfl rfl rfl (ev_hit hN11 rfl) rfl rfl ?_))))
  refine g_false (j := 7) (dj := 14) (b := true) rfl rfl rfl (ev_hit hN11 rfl) rfl rfl (g_false (j := 7) (dj := 14) (b := true) rfl rfl rfl (ev_hit hN11 rfl) rfl rfl (g_false (j := 7) (dj := 14) (b := true) rfl rfl rfl (ev_hit hN11 rfl) rfl rfl (g_false (j := 7) (dj := 14) (b := true) rfl rfl rfl (ev_hit hN11 rfl) rfl rfl (g_false (j := 7) (dj := 14) (b := true) rfl rfl rfl (ev_hit hN11 rfl) rfl rfl (g_false (j := 7) (dj := 14) (b := true) rfl rfl rfl (ev_hit hN11 rfl) rfl rfl (op_pick_f (ev_hit hN11 rfl) rfl ?_))))))
  refine reg_nil (hK14 _ _ (wp_cond_false (ev_hit hN11 rfl) (wp_exit (then_exit (then_exit (blk_hit ?_))))))
  refine hK10 _ _ (seq_any fun K27 hK27 => ?_)
  have hip : i = pos ks k := at_new hs hi (fun h => by omega)
  refine reg_still mixed (by kernel_rfl) ?_
  intro w29 E28
  have z_w29 := E28.size
  have hp := hp.keep0 E28
  have ok := ok.keep0 E28
  have hb := below_step0 hb E28 hb.size
  refine st_step rfl (fun _ h9 => op_move (ev_base hN11 rfl s11_6) h9) ?_
  refine st_step rfl (fun _ h9 => op_move (ev_base hN11 rfl s11_6) h9) ?_
  refine st_step rfl (fun _ h9 => op_move (ev_base hN11 rfl s11_0) h9) ?_
  refine st_step rfl (fun _ h9 => op_nil (ev_hit hN11 rfl) h9) ?_
  refine st_step rfl (fun _ h9 => op_field fld58_0 (ev_hit hN11 rfl) h9) ?_
  refine st_step rfl (fun _ h9 => op_load1 (v := kv) one56 (ev_hit hN11 rfl) (hp.cell rfl) h9) ?_
  refine st_step rfl (fun _ h9 => op_len_rd Try.underlying56 (ev_hit hN11 rfl) ok.rdw h9) ?_
  by_cases g35 : ((i : Nat) : Int) < ((ks.length : Nat) : Int)
  ·
   refine st_step rfl (fun _ h9 => op_cmp (b := true) (ev_hit hN11 rfl) (ev_hit hN11 rfl) (b_lss (decide_eq_true g35)) h9) ?_
   refine st_step rfl (fun _ h9 => op_move (ev_hit hN11 rfl) h9) ?_
   refine st_g_true (j := 8) (dj := 36) (b := true) rfl rfl rfl (ev_hit hN11 rfl) ?_
   refine st_step rfl (fun _ h9 => op_move (ev_base hN11 rfl s11_0) h9) ?_
   refine st_g_true (j := 8) (dj := 36) (b := true) rfl rfl rfl (ev_hit hN11 rfl) ?_
   refine st_step rfl (fun _ h9 => op_nil (ev_hit hN11 rfl) h9) ?_
   refine st_g_true (j := 8) (dj := 36) (b := true) rfl rfl rfl (ev_hit hN11 rfl) ?_
   refine st_step rfl (fun _ h9 => op_field fld58_0 (ev_hit hN11 rfl) h9) ?_
   refine st_g_true (j := 8) (dj := 36) (b := true) rfl rfl rfl (ev_hit hN11 rfl) ?_
   refine st_step rfl (fun _ h9 => op_load1 (v := kv) one56 (ev_hit hN11 rfl) (hp.cell rfl) h9) ?_
   refine st_g_true (j := 8) (dj := 36) (b := true) rfl rfl rfl (ev_hit hN11 rfl) ?_
   refine st_step rfl (fun _ h9 => op_move (ev_base hN11 rfl s11_6) h9) ?_
   refine st_g_true (j := 8) (dj := 36) (b := true) rfl rfl rfl (ev_hit hN11 rfl) ?_
   refine st_index_rd slt56 (ev_hit hN11 rfl) ok.rdw (ev_hit hN11 rfl) (by omega) (by omega) ?_
   intro b30 o31 h0b30 h1b30 hc32
   refine st_g_true (j := 8) (dj := 36) (b := true) rfl rfl rfl (ev_hit hN11 rfl) ?_
   refine st_step rfl (fun _ h9 => op_load1 (v := (Value.string (bs (ks.getD i [])))) one9 (ev_hit hN11 rfl) (by have := hc32 0 (Value.string (bs (ks.getD i []))) (by decide) (el_sv (i := i) (by omega) (by omega)); simpa using this) h9) ?_
   refine st_g_true (j := 8) (dj := 36) (b := true) rfl rfl rfl (ev_hit hN11 rfl) ?_
   refine st_step rfl (fun _ h9 => op_move (ev_base hN11 rfl s11_1) h9) ?_
   refine st_g_true (j := 8) (dj := 36) (b := true) rfl rfl rfl (ev_hit hN11 rfl) ?_
   refine st_step rfl (fun _ h9 => op_seqlb (b := (decide ((ks.getD i []) = k))) (ev_hit hN11 rfl) (ev_hit hN11 rfl) rfl h9) ?_
   refine st_step rfl (fun _ h9 => op_pick_t (ev_hit hN11 rfl) (ev_hit hN11 rfl) h9) ?_
   refine st_step rfl (fun _ h9 => op_assign (ev_hit hN11 rfl) h9) ?_
   refine st_step rfl (fun _ h9 => op_assign (ev_hit hN11 rfl) h9) ?_
   refine st_nil ?_
   refine hK27 _ _ (wp_ret ?_)
   refine ret2 rfl hd11 (ev_hit hN11 rfl) (ev_hit hN11 rfl) ⟨_, rfl, ?_⟩
   rw [at_is hs hip (by omega), hip]
   exact ⟨hb, rfl⟩
  ·
   refine st_step rfl (fun _ h9 => op_cmp (b := false) (ev_hit hN11 rfl) (ev_hit hN11 rfl) (b_lss (decide_eq_false g35)) h9) ?_
   refine st_step rfl (fun _ h9 => op_move (ev_hit hN11 rfl) h9) ?_
   refine st_g_false (j := 8) (dj := 36) (b := true) rfl rfl rfl (ev_hit hN11 rfl) rfl rfl ?_
   refine st_g_false (j := 8) (dj := 36) (b := true) rfl rfl rfl (ev_hit hN11 rfl) rfl rfl ?_
   refine st_g_false (j := 8) (dj := 36) (b := true) rfl rfl rfl (ev_hit hN11 rfl) rfl rfl ?_
   refine st_g_false (j := 8) (dj := 36) (b := true) rfl rfl rfl (ev_hit hN11 rfl) rfl rfl ?_
   refine st_g_false (j := 8) (dj := 36) (b := true) rfl rfl rfl (ev_hit hN11 rfl) rfl rfl ?_
   refine st_g_false (j := 8) (dj := 36) (b := true) rfl rfl rfl (ev_hit hN11 rfl) rfl rfl ?_
   refine st_g_false (j := 8) (dj := 36) (b := true) rfl rfl rfl (ev_hit hN11 rfl) rfl rfl ?_
   refine st_g_false (j := 8) (dj := 36) (b := true) rfl rfl rfl (ev_hit hN11 rfl) rfl rfl ?_
   refine st_g_false (j := 8) (dj := 36) (b := true) rfl rfl rfl (ev_hit hN11 rfl) rfl rfl ?_
   refine st_step rfl (fun _ h9 => op_pick_f (ev_hit hN11 rfl) rfl h9) ?_
   refine st_step rfl (fun _ h9 => op_assign (ev_hit hN11 rfl) h9) ?_
   refine st_step rfl (fun _ h9 => op_assign (ev_hit hN11 rfl) h9) ?_
   refine st_nil ?_
   refine hK27 _ _ (wp_ret ?_)
   refine ret2 rfl hd11 (ev_hit hN11 rfl) (ev_hit hN11 rfl) ⟨_, rfl, ?_⟩
   rw [pos_miss hs hip (by omega), hip]
   exact ⟨hb, rfl⟩
set_option maxHeartbeats 1000000 in
theorem pairsPut0 {x : Int} {ks : List Ky} {vs : List Int} {kv vv : Value} {p B0 : Nat} {k : List UInt8} {w : World} (hp : Bx w p 58 [kv, vv]) (ok : Own w B0 9 1 kv ks.length (ks.map sv)) (ov : Own w B0 3 1 vv vs.length (vs.map (Value.int .i64))) (hs : Sorted ks) (hn : ks.length ≤ 10000) (hlen : vs.length = ks.length) (hkl : ∀ x ∈ ks, x.length ≤ 1000000000) (hkk : k.length ≤ 1000000000) (hB0 : B0 ≤ w.heap.size) : Ret Try.prog 27 #[(ptr p 0), (Value.string (bs k)), (Value.int .i64 x)] w (fun v' w' => Gr w w' (fun y => y = p ∨ Bl kv y ∨ Bl vv y) ∧ v' = .bool (ks.contains k) ∧ ∃ kv' vv', Bx w' p 58 [kv', vv'] ∧ (ks.contains k = true → kv' = kv ∧ vv' = vv ∧ Own w' B0 9 1 kv' ks.length (ks.map sv) ∧ Own w' B0 3 1 vv' (vs.set (pos ks k) x).length ((vs.set (pos ks k) x).map (Value.int .i64))) ∧ (ks.contains k = false → Own w' w.heap.size 9 1 kv' (ks.take (pos ks k) ++ [k] ++ ks.drop (pos ks k)).length ((ks.take (pos ks k) ++ [k] ++ ks.drop (pos ks k)).map sv) ∧ Own w' w.heap.size 3 1 vv' (vs.take (pos ks k) ++ [x] ++ vs.drop (pos ks k)).length ((vs.take (pos ks k) ++ [x] ++ vs.drop (pos ks k)).map (Value.int .i64)))) := by
 have hpl := pos_le ks k
 have hl_1 : (ks.take (pos ks k)).length = (pos ks k) := by rw [List.length_take]; omega
 have hl_2 : (ks.drop (pos ks k)).length = ks.length - (pos ks k) := List.length_drop
 have hl_3 : (vs.take (pos ks k)).length = (pos ks k) := by rw [List.length_take]; omega
 have hl_4 : (vs.drop (pos ks k)).length = vs.length - (pos ks k) := List.length_drop
 have hi_p := hp.lt
 obtain ⟨c1, hc11, hc12, hc13⟩ := ok.cap
 obtain ⟨c2, hc21, hc22, hc23⟩ := ov.cap
 have hb := Gr.refl w (fun y => y = p ∨ Bl kv y ∨ Bl vv y)
 refine enter (N := 65) Try.func27 rfl rfl (by simp) fun a0 hN hd hA => ?_
 have s0 : a0.tmps.getD 0 undef = (ptr p 0) := hA 0 (by simp)
 have s1 : a0.tmps.getD 1 undef = (Value.string (bs k)) := hA 1 (by simp)
 have s2 : a0.tmps.getD 2 undef = (Value.int .i64 x) := hA 2 (by simp)
 clear hA
 refine seq_any fun K1 hK1 => one_reg (op_assign rfl ?_)
 refine reg_nil (hK1 _ _ (seq_any fun K2 hK2 => one_reg (op_move (ev_base hN rfl s0) (op_move (ev_base hN rfl s1) (op_fn (vs := [(ptr p 0), (Value.string (bs k))]) ok31 ⟨(ev_hit hN rfl), ⟨(ev_hit hN rfl), trivial⟩⟩ (pairsAt hp ok ov hs hn hlen hkl hkk) ?_)))))
 rintro _ w3 ⟨E4, rfl⟩
 have E4 := grown_of_below E4
 have z_w3 := E4.size
 have hp := hp.keep0 E4
 have ok := ok.keep0 E4
 have ov := ov.keep0 E4
 have hb := hb.step0 E4
 refine op_move (ev_hit hN rfl) (op_extract (ev_hit hN rfl) rfl ?_)
 refine op_extract (ev_hit hN rfl) rfl ?_
 refine op_assign (ev_hit hN rfl) ?_
 rcases Bool.eq_false_or_eq_true ((ks.contains k)) with c8 | c8
 ·
  rw [c8]
  refine op_assign (ev_hit hN rfl) (reg_nil (hK2 _ _ (seq_any fun K5 hK5 => seq_any fun K6 hK6 => ?_)))
  refine one_reg (op_move (ev_hit hN rfl) (reg_nil (hK6 _ _ (wp_cond_true (ev_hit hN rfl) (seq_any fun K7 hK7 => one_reg ?_)))))
  have hpl2 := pos_lt9 hs c8
  refine op_move (ev_base hN rfl s0) (op_nil (ev_hit hN rfl) (op_field fld58_1 (ev_hit hN rfl) (op_load1 (v := vv) one30 (ev_hit hN rfl) (hp.cell rfl) (op_move (ev_hit hN rfl) (op_move (ev_base hN rfl s2) (op_index_own (i := ((pos ks k))) slt30 (ev_hit hN rfl) ov (ev_hit hN rfl) (by omega) (by omega) ?_))))))
  intro b8 o9 lo_b8 hA10
  have hA10 : AtV vv (((pos ks k))) b8 o9 := by simpa using hA10
  have hP13 := ov
  refine op_store_own (vs := [(Value.int .i64 x)]) size3 (ev_hit hN rfl) (ev_hit hN rfl) rfl rfl rfl hP13 hA10 (by rw [hP13.1]; simp only [List.length_cons, List.length_nil]; omega) ?_
  intro w11 hO14 E12
  have z_w11 := E12.size
  have hp := hp.keepO hP13 E12 (by decide)
  have ok := ok.keepT hP13 E12 (by decide)
  have hb := hb.stepL E12 (fun _ _ h => .inr (.inr h))
  have hO14 : Own w11 B0 3 1 vv vs.length (((vs.set (pos ks k) x)).map (Value.int .i64)) := by exact hO14.cast rfl (set_ints9 (by omega))
  refine reg_nil ?_
  refine hK7 _ _ (seq_any fun K15 hK15 => one_reg (op_assign rfl (reg_nil (hK15 _ _ (wp_ret (then_ret ( ?_)))))))
  refine ret1 rfl hd (ev_hit hN rfl) ⟨_, rfl, ?_⟩
  exact ⟨hb, congrArg Value.bool c8.symm, kv, vv, hp, fun _ => ⟨rfl, rfl, ok, hO14.cast (by simp) rfl⟩, fun h => by rw [c8] at h; cases h⟩
 ·
  rw [c8]
  refine op_assign (ev_hit hN rfl) (reg_nil (hK2 _ _ (seq_any fun K16 hK16 => seq_any fun K17 hK17 => ?_)))
  refine one_reg (op_move (ev_hit hN rfl) (reg_nil (hK17 _ _ (wp_cond_false (ev_hit hN rfl) (wp_skip (hK16 _ _ ?_))))))
  refine seq_join1 (N := 65) (fun az_ w' => ∃ (vk : Value), (az_.tmps.getD 0 undef = (ptr p 0)) ∧ (az_.tmps.getD 2 undef = (Value.int .i64 x)) ∧ (az_.tmps.getD 6 undef = (Value.bool false)) ∧ (az_.tmps.getD 7 undef = (Value.int .i64 (((pos ks k) : Nat) : Int))) ∧ (Gr w w' (fun y => y = p ∨ Bl kv y ∨ Bl vv y)) ∧ (w3.heap.size ≤ w'.heap.size) ∧ (Own w' B0 3 1 vv vs.length (vs.map (Value.int .i64))) ∧ (Own w' w.heap.size 9 1 vk (ks.take (pos ks k) ++ [k] ++ ks.drop (pos ks k)).length ((ks.take (pos ks k) ++ [k] ++ ks.drop (pos ks k)).map sv)) ∧ (Bx w' p 58 [vk, vv])) (fun hJ19 => ?_) ?_
  ·
   refine seq_any fun K21 hK21 => reg_split (hd := [_, _, _, _, _, _, _, _, _, _, _, _, _, _, _, _, _, _, _]) (tl := _) 19 mixed (by kernel_rfl) rfl rfl ?_
   refine any_tree (φ := phiV [(fun uz => uz = (ptr p 0)), (fun _ => True), (fun uz => uz = (ptr p 0)), (fun uz => uz = (ptr p 0)), (fun uz => uz = (ptr p 0)), (fun uz => uz = kv), (fun uz => uz = (Value.int .i64 (((pos ks k) : Nat) : Int))), (fun uz => uz = (hiV kv (pos ks k))), (fun _ => True), (fun uz => uz = (Value.string (bs k))), (fun _ => True), (fun _ => True), (fun uz => uz = (ptr p 0)), (fun uz => uz = (ptr p 0)), (fun uz => uz = (ptr p 0)), (fun uz => uz = kv), (fun uz => uz = (Value.int .i64 (((pos ks k) : Nat) : Int))), (fun uz => uz = (cutS 1 kv (pos ks k))), (fun _ => True)]) (G := fun w' => Bx w' p 58 [kv, vv]) [1, 8, 10, 11, 18] (by kernel_rfl) (by kernel_rfl) (by kernel_rfl) (by kernel_rfl) (by kernel_rfl) hN (fun w1 w2 E h => h.keep0 E) hp (ObRs9.cons ?_ (ObRs9.pass rfl (ObRs9.cons ?_ (ObRs9.cons ?_ (ObRs9.cons ?_ (ObRs9.cons ?_ (ObRs9.cons ?_ (ObRs9.cons ?_ (ObRs9.pass rfl (ObRs9.cons ?_ (ObRs9.pass rfl (ObRs9.pass rfl (ObRs9.cons ?_ (ObRs9.cons ?_ (ObRs9.cons ?_ (ObRs9.cons ?_ (ObRs9.cons ?_ (ObRs9.cons ?_ (ObRs9.pass rfl (ObRs9.nil)))))))))))))))))))) (by simp only [putsL_defers]) ?_
   ·
    intro eA aA wA hNA hGA hbsA hdpA
    have qA_0 := (hbsA 0 rfl).trans (sl_base hN rfl s0)
    refine op_move (ev_base hNA rfl qA_0) ?_
    exact obT_end rfl rfl
   ·
    intro eA aA wA hNA hGA hbsA hdpA
    have qA_0 := (hbsA 0 rfl).trans (sl_base hN rfl s0)
    refine op_move (ev_base hNA rfl qA_0) ?_
    exact obT_end rfl rfl
   ·
    intro eA aA wA hNA hGA hbsA hdpA
    have qA_25 : Sl aA 25 (ptr p 0) := (hdpA 2 _ 25 (by kernel_rfl) rfl rfl).2 rfl
    refine op_nil (ev_base hNA rfl qA_25) ?_
    exact obT_end rfl rfl
   ·
    intro eA aA wA hNA hGA hbsA hdpA
    have qA_26 : Sl aA 26 (ptr p 0) := (hdpA 3 _ 26 (by kernel_rfl) rfl rfl).2 rfl
    refine op_field fld58_0 (ev_base hNA rfl qA_26) ?_
    exact obT_end rfl rfl
   ·
    intro eA aA wA hNA hGA hbsA hdpA
    have qA_27 : Sl aA 27 (ptr p 0) := (hdpA 4 _ 27 (by kernel_rfl) rfl rfl).2 rfl
    refine op_load1 (v := kv) one56 (ev_base hNA rfl qA_27) (hGA.cell rfl) ?_
    exact obT_end rfl rfl
   ·
    intro eA aA wA hNA hGA hbsA hdpA
    have qA_7 := (hbsA 7 rfl).trans (sl_hit hN rfl)
    refine op_move (ev_base hNA rfl qA_7) ?_
    exact obT_end rfl rfl
   ·
    intro eA aA wA hNA hGA hbsA hdpA
    have qA_28 : Sl aA 28 kv := (hdpA 5 _ 28 (by kernel_rfl) rfl rfl).2 rfl
    have qA_29 : Sl aA 29 (Value.int .i64 (((pos ks k) : Nat) : Int)) := (hdpA 6 _ 29 (by kernel_rfl) rfl rfl).2 rfl
    refine op_slice_hiC (m := (pos ks k)) slt56 (ev_base hNA rfl qA_28) hc13 (ev_base hNA rfl qA_29) (by omega) (by omega) ?_
    exact obT_end rfl rfl
   ·
    intro eA aA wA hNA hGA hbsA hdpA
    have qA_1 := (hbsA 1 rfl).trans (sl_base hN rfl s1)
    refine op_move (ev_base hNA rfl qA_1) ?_
    exact obT_end rfl rfl
   ·
    intro eA aA wA hNA hGA hbsA hdpA
    have qA_0 := (hbsA 0 rfl).trans (sl_base hN rfl s0)
    refine op_move (ev_base hNA rfl qA_0) ?_
    exact obT_end rfl rfl
   ·
    intro eA aA wA hNA hGA hbsA hdpA
    have qA_35 : Sl aA 35 (ptr p 0) := (hdpA 12 _ 35 (by kernel_rfl) rfl rfl).2 rfl
    refine op_nil (ev_base hNA rfl qA_35) ?_
    exact obT_end rfl rfl
   ·
    intro eA aA wA hNA hGA hbsA hdpA
    have qA_36 : Sl aA 36 (ptr p 0) := (hdpA 13 _ 36 (by kernel_rfl) rfl rfl).2 rfl
    refine op_field fld58_0 (ev_base hNA rfl qA_36) ?_
    exact obT_end rfl rfl
   ·
    intro eA aA wA hNA hGA hbsA hdpA
    have qA_37 : Sl aA 37 (ptr p 0) := (hdpA 14 _ 37 (by kernel_rfl) rfl rfl).2 rfl
    refine op_load1 (v := kv) one56 (ev_base hNA rfl qA_37) (hGA.cell rfl) ?_
    exact obT_end rfl rfl
   ·
    intro eA aA wA hNA hGA hbsA hdpA
    have qA_7 := (hbsA 7 rfl).trans (sl_hit hN rfl)
    refine op_move (ev_base hNA rfl qA_7) ?_
    exact obT_end rfl rfl
   ·
    intro eA aA wA hNA hGA hbsA hdpA
    have qA_38 : Sl aA 38 kv := (hdpA 15 _ 38 (by kernel_rfl) rfl rfl).2 rfl
    have qA_39 : Sl aA 39 (Value.int .i64 (((pos ks k) : Nat) : Int)) := (hdpA 16 _ 39 (by kernel_rfl) rfl rfl).2 rfl
    refine op_slice_cutS (k := (pos ks k)) slt56 (ev_base hNA rfl qA_38) ok (ev_base hNA rfl qA_39) (by omega) (by omega) ?_
    exact obT_end rfl rfl
   ·
    refine kt_step (rs := [1, 10]) (by kernel_rfl) ?_
    refine more_mem ?_ ?_
    ·
     intro w23 E23 _ a23 hN23 hbs23 hdp23 o_ ho_; obtain rfl := Option.some.inj ho_
     have z_w23 := E23.size
     have hp := hp.keep0 E23
     have ok := ok.keep0 E23
     have ov := ov.keep0 E23
     have hb := hb.step0 E23
     refine op_bslice (e := 9) (pv := []) (cs := []) trivial (by kernel_rfl) ?_
     intro w24 b25 lo_b25 hi_b25 hB27 E26
     have ne_b25_kv : kv.ownBlock ≠ some b25 := fun hh => by have := (ok.lt _ hh).2; omega
     have z_w24 := E26.size
     have hp := hp.keep0 E26
     have ok := ok.keep0 E26
     have ov := ov.keep0 E26
     have hb := hb.step0 E26
     refine kt_end rfl hp ?_
     refine kt_step (rs := [8, 10]) (by kernel_rfl) ?_
     refine more_mem ?_ ?_
     ·
      intro w29 E29 _ a29 hN29 hbs29 hdp29 o_ ho_; obtain rfl := Option.some.inj ho_
      have z_w29 := E29.size
      have hp := hp.keep0 E29
      have ok := ok.keep0 E29
      have ov := ov.keep0 E29
      have hB27 := hB27.keep0 E29
      have hb := hb.step0 E29
      have q29_24 : Sl a29 24 (Value.slice (some ⟨b25, 0, none⟩) 0 0) := (Option.some.inj ((hdp29 1 _ 24 (by kernel_rfl) rfl rfl).1 rfl)).symm
      have q29_30 : Sl a29 30 (hiV kv (pos ks k)) := (hdp29 7 _ 30 (by kernel_rfl) rfl rfl).2 rfl
      have hP35 := (Own.ofBx (base := w.heap.size) (sz := 1) (n := 0) hB27 rfl (by decide) (by omega))
      refine op_append slt56 (ev_base hN29 rfl q29_24) hP35 (ev_base hN29 rfl q29_30) (Src.ofRd Try.underlying56 (by decide) ((ok.hiCut (k := (pos ks k)) (by omega)).cast (n' := (ks.take (pos ks k)).length) (cs' := (ks.take (pos ks k)).map sv) (by rw [List.length_take]; omega) (by rw [Nat.mul_one, List.map_take])).rdw (one_sv _)) (by unfold maxLen; omega) (by omega) hb.size ?_
      intro v30 w31 hO33 E32 hm34
      have dj36 : DJ kv (Value.slice (some ⟨b25, 0, none⟩) 0 0) := fun k hk hg => by simp [Value.ownBlock] at hg; subst hg; exact ne_b25_kv hk
      have dj37 : DJ kv v30 := DJ.step hm34 (fun k hk => (ok.lt k hk).2) dj36
      have z_w31 := E32.size
      have hp := hp.keep E32 (by simp [Value.ownBlock]; try omega)
      have ok := ok.keepD E32 dj36
      have ov := ov.keepT hP35 E32 (by decide)
      have hb := hb.stepO hP35 E32 (by omega)
      have hO33 : Own w31 w.heap.size 9 1 v30 (0 + (ks.take (pos ks k)).length) (((ks.take (pos ks k))).map sv) := by simpa [u8v, sv] using hO33
      refine kt_end rfl hp ?_
      refine kt_step (rs := [10]) (by kernel_rfl) ?_
      refine one_mem ?_
      intro w39 E39 _ a39 hN39 hbs39 hdp39 o_ ho_; obtain rfl := Option.some.inj ho_
      have z_w39 := E39.size
      have hp := hp.keep0 E39
      have ok := ok.keep0 E39
      have ov := ov.keep0 E39
      have hO33 := hO33.keep0 E39
      have hb := hb.step0 E39
      have q39_32 : Sl a39 32 (Value.string (bs k)) := (hdp39 9 _ 32 (by kernel_rfl) rfl rfl).2 rfl
      refine op_bslice (e := 9) (pv := [(0, (Value.string (bs k)))]) (cs := [(Value.string (bs k))]) ⟨rfl, (ev_base hN39 rfl q39_32), trivial⟩ (by kernel_rfl) ?_
      intro w40 b41 lo_b41 hi_b41 hB43 E42
      have z_w40 := E42.size
      have hp := hp.keep0 E42
      have ok := ok.keep0 E42
      have ov := ov.keep0 E42
      have hO33 := hO33.keep0 E42
      have hb := hb.step0 E42
      refine kt_end rfl hp ?_
      refine kt_step (rs := [11]) (by kernel_rfl) ?_
      refine one_mem ?_
      intro w45 E45 _ a45 hN45 hbs45 hdp45 o_ ho_; obtain rfl := Option.some.inj ho_
      have z_w45 := E45.size
      have hp := hp.keep0 E45
      have ok := ok.keep0 E45
      have ov := ov.keep0 E45
      have hO33 := hO33.keep0 E45
      have hB43 := hB43.keep0 E45
      have hb := hb.step0 E45
      have q45_31 : Sl a45 31 v30 := (Option.some.inj ((hdp45 8 _ 31 (by kernel_rfl) rfl rfl).1 rfl)).symm
      have q45_33 : Sl a45 33 (Value.slice (some ⟨b41, 0, none⟩) 1 1) := (Option.some.inj ((hdp45 10 _ 33 (by kernel_rfl) rfl rfl).1 rfl)).symm
      have hP51 := hO33
      refine op_append slt56 (ev_base hN45 rfl q45_31) hP51 (ev_base hN45 rfl q45_33) (Src.ofRd Try.underlying56 (by decide) (RdC.ofBx (sz := 1) (n := 1) hB43 rfl (by decide)) (by simp [Value.oneCell', u8v])) (by unfold maxLen; omega) (by omega) hb.size ?_
      intro v46 w47 hO49 E48 hm50
      have z_w47 := E48.size
      have hp := hp.keepO hP51 E48 (by decide)
      have ok := ok.keepD E48 dj37
      have ov := ov.keepT hP51 E48 (by decide)
      have hb := hb.stepO hP51 E48 (by omega)
      have hO49 : Own w47 w.heap.size 9 1 v46 ((0 + (ks.take (pos ks k)).length) + 1) ((((ks.take (pos ks k)) ++ [k])).map sv) := by simpa [u8v, sv] using hO49
      refine kt_end rfl hp ?_
      refine kt_step (rs := [18]) (by kernel_rfl) ?_
      refine one_mem ?_
      intro w54 E54 _ a54 hN54 hbs54 hdp54 o_ ho_; obtain rfl := Option.some.inj ho_
      have z_w54 := E54.size
      have hp := hp.keep0 E54
      have ok := ok.keep0 E54
      have ov := ov.keep0 E54
      have hO49 := hO49.keep0 E54
      have hb := hb.step0 E54
      have q54_34 : Sl a54 34 v46 := (Option.some.inj ((hdp54 11 _ 34 (by kernel_rfl) rfl rfl).1 rfl)).symm
      have q54_40 : Sl a54 40 (cutS 1 kv (pos ks k)) := (hdp54 17 _ 40 (by kernel_rfl) rfl rfl).2 rfl
      have hP60 := hO49
      refine op_append slt56 (ev_base hN54 rfl q54_34) hP60 (ev_base hN54 rfl q54_40) (Src.ofRd Try.underlying56 (by decide) ((ok.cutO (k := (pos ks k)) (by omega)).cast (n' := (ks.drop (pos ks k)).length) (cs' := (ks.drop (pos ks k)).map sv) (by simp) (by rw [Nat.mul_one, List.map_drop])).rdw (one_sv _)) (by unfold maxLen; omega) (by omega) hb.size ?_
      intro v55 w56 hO58 E57 hm59
      have z_w56 := E57.size
      have hp := hp.keepO hP60 E57 (by decide)
      have ov := ov.keepT hP60 E57 (by decide)
      have hb := hb.stepO hP60 E57 (by omega)
      have hO58 : Own w56 w.heap.size 9 1 v55 (((0 + (ks.take (pos ks k)).length) + 1) + (ks.drop (pos ks k)).length) (((((ks.take (pos ks k)) ++ [k]) ++ (ks.drop (pos ks k)))).map sv) := by simpa [u8v, sv] using hO58
      refine kt_end rfl hp ?_
      intro w62 E62 a62 hN62 hd62 hbs62 hph62
      have hd62 := hd62.trans ((by simp only [putsL_defers] : _ = _).trans hd)
      have z_w62 := E62.size
      have hp := hp.keep0 E62
      have ov := ov.keep0 E62
      have hO58 := hO58.keep0 E62
      have hb := hb.step0 E62
      have s62_0 := (hbs62 0 rfl).trans (sl_base hN rfl s0)
      have s62_2 := (hbs62 2 rfl).trans (sl_base hN rfl s2)
      have s62_6 := (hbs62 6 rfl).trans (sl_hit hN rfl)
      have s62_7 := (hbs62 7 rfl).trans (sl_hit hN rfl)
      have s62_23 : Sl a62 23 (ptr p 0) := (hph62 0 _ 23 rfl rfl).2 rfl
      have s62_41 : Sl a62 41 v55 := (Option.some.inj ((hph62 18 _ 41 rfl rfl).1 rfl)).symm
      refine split_end ?_
      refine from_seq (tl := [_, _, _]) (by decide) (by kernel_rfl) rfl ?_
      refine op_nil (ev_base hN62 rfl s62_23) (op_field fld58_0 (ev_hit hN62 rfl) ?_)
      have hp_old := hp
      refine op_store (vs := [v55]) (cs' := [v55, vv]) size56 (ev_hit hN62 rfl) (ev_base hN62 rfl s62_41) hO58.cl rfl (by simp only [List.all_cons, List.all_nil, Bool.true_and, Bool.and_true, hO58.one]; try rfl) hp (Nat.le_of_ble_eq_true rfl) rfl ?_
      intro w65 hp E66
      have z_w65 := E66.size
      have ov := ov.keepX hp_old E66 (by decide)
      have hO58 := hO58.keepX hp_old E66 (by decide)
      have hb := hb.stepB E66 (.inl rfl)
      refine reg_nil (hK21 _ _ ?_)
      exact hJ19 _ _ _ hN62 hd62 ⟨v55, (sl_base hN62 rfl s62_0), (sl_base hN62 rfl s62_2), (sl_base hN62 rfl s62_6), (sl_base hN62 rfl s62_7), hb, (by omega), ov, (hO58.cast (n' := (ks.take (pos ks k) ++ [k] ++ ks.drop (pos ks k)).length) (cs' := (ks.take (pos ks k) ++ [k] ++ ks.drop (pos ks k)).map sv) (by first | rfl | (simp; done) | (simp only [List.length_append, List.length_cons, List.length_nil]; omega)) (by first | rfl | simp [cK, cN, cI])), hp⟩
     refine one_mem ?_
     intro w67 E67 _ a67 hN67 hbs67 hdp67 o_ ho_; obtain rfl := Option.some.inj ho_
     have z_w67 := E67.size
     have hp := hp.keep0 E67
     have ok := ok.keep0 E67
     have ov := ov.keep0 E67
     have hB27 := hB27.keep0 E67
     have hb := hb.step0 E67
     have q67_32 : Sl a67 32 (Value.string (bs k)) := (hdp67 9 _ 32 (by kernel_rfl) rfl rfl).2 rfl
     refine op_bslice (e := 9) (pv := [(0, (Value.string (bs k)))]) (cs := [(Value.string (bs k))]) ⟨rfl, (ev_base hN67 rfl q67_32), trivial⟩ (by kernel_rfl) ?_
     intro w68 b69 lo_b69 hi_b69 hB71 E70
     have z_w68 := E70.size
     have hp := hp.keep0 E70
     have ok := ok.keep0 E70
     have ov := ov.keep0 E70
     have hB27 := hB27.keep0 E70
     have hb := hb.step0 E70
     refine kt_end rfl hp ?_
     refine kt_step (rs := [8]) (by kernel_rfl) ?_
     refine one_mem ?_
     intro w73 E73 _ a73 hN73 hbs73 hdp73 o_ ho_; obtain rfl := Option.some.inj ho_
     have z_w73 := E73.size
     have hp := hp.keep0 E73
     have ok := ok.keep0 E73
     have ov := ov.keep0 E73
     have hB27 := hB27.keep0 E73
     have hB71 := hB71.keep0 E73
     have hb := hb.step0 E73
     have q73_24 : Sl a73 24 (Value.slice (some ⟨b25, 0, none⟩) 0 0) := (Option.some.inj ((hdp73 1 _ 24 (by kernel_rfl) rfl rfl).1 rfl)).symm
     have q73_30 : Sl a73 30 (hiV kv (pos ks k)) := (hdp73 7 _ 30 (by kernel_rfl) rfl rfl).2 rfl
     have hP79 := (Own.ofBx (base := w.heap.size) (sz := 1) (n := 0) hB27 rfl (by decide) (by omega))
     refine op_append slt56 (ev_base hN73 rfl q73_24) hP79 (ev_base hN73 rfl q73_30) (Src.ofRd Try.underlying56 (by decide) ((ok.hiCut (k := (pos ks k)) (by omega)).cast (n' := (ks.take (pos ks k)).length) (cs' := (ks.take (pos ks k)).map sv) (by rw [List.length_take]; omega) (by rw [Nat.mul_one, List.map_take])).rdw (one_sv _)) (by unfold maxLen; omega) (by omega) hb.size ?_
     intro v74 w75 hO77 E76 hm78
     have dj80 : DJ kv (Value.slice (some ⟨b25, 0, none⟩) 0 0) := fun k hk hg => by simp [Value.ownBlock] at hg; subst hg; exact ne_b25_kv hk
     have dj81 : DJ kv v74 := DJ.step hm78 (fun k hk => (ok.lt k hk).2) dj80
     have z_w75 := E76.size
     have hp := hp.keep E76 (by simp [Value.ownBlock]; try omega)
     have ok := ok.keepD E76 dj80
     have ov := ov.keepT hP79 E76 (by decide)
     have hB71 := hB71.keep E76 (by simp [Value.ownBlock]; try omega)
     have hb := hb.stepO hP79 E76 (by omega)
     have hO77 : Own w75 w.heap.size 9 1 v74 (0 + (ks.take (pos ks k)).length) (((ks.take (pos ks k))).map sv) := by simpa [u8v, sv] using hO77
     refine kt_end rfl hp ?_
     refine kt_step (rs := [11]) (by kernel_rfl) ?_
     refine one_mem ?_
     intro w83 E83 _ a83 hN83 hbs83 hdp83 o_ ho_; obtain rfl := Option.some.inj ho_
     have z_w83 := E83.size
     have hp := hp.keep0 E83
     have ok := ok.keep0 E83
     have ov := ov.keep0 E83
     have hB71 := hB71.keep0 E83
     have hO77 := hO77.keep0 E83
     have hb := hb.step0 E83
     have q83_31 : Sl a83 31 v74 := (Option.some.inj ((hdp83 8 _ 31 (by kernel_rfl) rfl rfl).1 rfl)).symm
     have q83_33 : Sl a83 33 (Value.slice (some ⟨b69, 0, none⟩) 1 1) := (Option.some.inj ((hdp83 10 _ 33 (by kernel_rfl) rfl rfl).1 rfl)).symm
     have hP89 := hO77
     refine op_append slt56 (ev_base hN83 rfl q83_31) hP89 (ev_base hN83 rfl q83_33) (Src.ofRd Try.underlying56 (by decide) (RdC.ofBx (sz := 1) (n := 1) hB71 rfl (by decide)) (by simp [Value.oneCell', u8v])) (by unfold maxLen; omega) (by omega) hb.size ?_
     intro v84 w85 hO87 E86 hm88
     have z_w85 := E86.size
     have hp := hp.keepO hP89 E86 (by decide)
     have ok := ok.keepD E86 dj81
     have ov := ov.keepT hP89 E86 (by decide)
     have hb := hb.stepO hP89 E86 (by omega)
     have hO87 : Own w85 w.heap.size 9 1 v84 ((0 + (ks.take (pos ks k)).length) + 1) ((((ks.take (pos ks k)) ++ [k])).map sv) := by simpa [u8v, sv] using hO87
     refine kt_end rfl hp ?_
     refine kt_step (rs := [18]) (by kernel_rfl) ?_
     refine one_mem ?_
     intro w92 E92 _ a92 hN92 hbs92 hdp92 o_ ho_; obtain rfl := Option.some.inj ho_
     have z_w92 := E92.size
     have hp := hp.keep0 E92
     have ok := ok.keep0 E92
     have ov := ov.keep0 E92
     have hO87 := hO87.keep0 E92
     have hb := hb.step0 E92
     have q92_34 : Sl a92 34 v84 := (Option.some.inj ((hdp92 11 _ 34 (by kernel_rfl) rfl rfl).1 rfl)).symm
     have q92_40 : Sl a92 40 (cutS 1 kv (pos ks k)) := (hdp92 17 _ 40 (by kernel_rfl) rfl rfl).2 rfl
     have hP98 := hO87
     refine op_append slt56 (ev_base hN92 rfl q92_34) hP98 (ev_base hN92 rfl q92_40) (Src.ofRd Try.underlying56 (by decide) ((ok.cutO (k := (pos ks k)) (by omega)).cast (n' := (ks.drop (pos ks k)).length) (cs' := (ks.drop (pos ks k)).map sv) (by simp) (by rw [Nat.mul_one, List.map_drop])).rdw (one_sv _)) (by unfold maxLen; omega) (by omega) hb.size ?_
     intro v93 w94 hO96 E95 hm97
     have z_w94 := E95.size
     have hp := hp.keepO hP98 E95 (by decide)
     have ov := ov.keepT hP98 E95 (by decide)
     have hb := hb.stepO hP98 E95 (by omega)
     have hO96 : Own w94 w.heap.size 9 1 v93 (((0 + (ks.take (pos ks k)).length) + 1) + (ks.drop (pos ks k)).length) (((((ks.take (pos ks k)) ++ [k]) ++ (ks.drop (pos ks k)))).map sv) := by simpa [u8v, sv] using hO96
     refine kt_end rfl hp ?_
     intro w100 E100 a100 hN100 hd100 hbs100 hph100
     have hd100 := hd100.trans ((by simp only [putsL_defers] : _ = _).trans hd)
     have z_w100 := E100.size
     have hp := hp.keep0 E100
     have ov := ov.keep0 E100
     have hO96 := hO96.keep0 E100
     have hb := hb.step0 E100
     have s100_0 := (hbs100 0 rfl).trans (sl_base hN rfl s0)
     have s100_2 := (hbs100 2 rfl).trans (sl_base hN rfl s2)
     have s100_6 := (hbs100 6 rfl).trans (sl_hit hN rfl)
     have s100_7 := (hbs100 7 rfl).trans (sl_hit hN rfl)
     have s100_23 : Sl a100 23 (ptr p 0) := (hph100 0 _ 23 rfl rfl).2 rfl
     have s100_41 : Sl a100 41 v93 := (Option.some.inj ((hph100 18 _ 41 rfl rfl).1 rfl)).symm
     refine split_end ?_
     refine from_seq (tl := [_, _, _]) (by decide) (by kernel_rfl) rfl ?_
     refine op_nil (ev_base hN100 rfl s100_23) (op_field fld58_0 (ev_hit hN100 rfl) ?_)
     have hp_old := hp
     refine op_store (vs := [v93]) (cs' := [v93, vv]) size56 (ev_hit hN100 rfl) (ev_base hN100 rfl s100_41) hO96.cl rfl (by simp only [List.all_cons, List.all_nil, Bool.true_and, Bool.and_true, hO96.one]; try rfl) hp (Nat.le_of_ble_eq_true rfl) rfl ?_
     intro w103 hp E104
     have z_w103 := E104.size
     have ov := ov.keepX hp_old E104 (by decide)
     have hO96 := hO96.keepX hp_old E104 (by decide)
     have hb := hb.stepB E104 (.inl rfl)
     refine reg_nil (hK21 _ _ ?_)
     exact hJ19 _ _ _ hN100 hd100 ⟨v93, (sl_base hN100 rfl s100_0), (sl_base hN100 rfl s100_2), (sl_base hN100 rfl s100_6), (sl_base hN100 rfl s100_7), hb, (by omega), ov, (hO96.cast (n' := (ks.take (pos ks k) ++ [k] ++ ks.drop (pos ks k)).length) (cs' := (ks.take (pos ks k) ++ [k] ++ ks.drop (pos ks k)).map sv) (by first | rfl | (simp; done) | (simp only [List.length_append, List.length_cons, List.length_nil]; omega)) (by first | rfl | simp [cK, cN, cI])), hp⟩
    refine one_mem ?_
    intro w105 E105 _ a105 hN105 hbs105 hdp105 o_ ho_; obtain rfl := Option.some.inj ho_
    have z_w105 := E105.size
    have hp := hp.keep0 E105
    have ok := ok.keep0 E105
    have ov := ov.keep0 E105
    have hb := hb.step0 E105
    have q105_32 : Sl a105 32 (Value.string (bs k)) := (hdp105 9 _ 32 (by kernel_rfl) rfl rfl).2 rfl
    refine op_bslice (e := 9) (pv := [(0, (Value.string (bs k)))]) (cs := [(Value.string (bs k))]) ⟨rfl, (ev_base hN105 rfl q105_32), trivial⟩ (by kernel_rfl) ?_
    intro w106 b107 lo_b107 hi_b107 hB109 E108
    have z_w106 := E108.size
    have hp := hp.keep0 E108
    have ok := ok.keep0 E108
    have ov := ov.keep0 E108
    have hb := hb.step0 E108
    refine kt_end rfl hp ?_
    refine kt_step (rs := [1]) (by kernel_rfl) ?_
    refine one_mem ?_
    intro w111 E111 _ a111 hN111 hbs111 hdp111 o_ ho_; obtain rfl := Option.some.inj ho_
    have z_w111 := E111.size
    have hp := hp.keep0 E111
    have ok := ok.keep0 E111
    have ov := ov.keep0 E111
    have hB109 := hB109.keep0 E111
    have hb := hb.step0 E111
    refine op_bslice (e := 9) (pv := []) (cs := []) trivial (by kernel_rfl) ?_
    intro w112 b113 lo_b113 hi_b113 hB115 E114
    have ne_b113_kv : kv.ownBlock ≠ some b113 := fun hh => by have := (ok.lt _ hh).2; omega
    have z_w112 := E114.size
    have hp := hp.keep0 E114
    have ok := ok.keep0 E114
    have ov := ov.keep0 E114
    have hB109 := hB109.keep0 E114
    have hb := hb.step0 E114
    refine kt_end rfl hp ?_
    refine kt_step (rs := [8]) (by kernel_rfl) ?_
    refine one_mem ?_
    intro w117 E117 _ a117 hN117 hbs117 hdp117 o_ ho_; obtain rfl := Option.some.inj ho_
    have z_w117 := E117.size
    have hp := hp.keep0 E117
    have ok := ok.keep0 E117
    have ov := ov.keep0 E117
    have hB109 := hB109.keep0 E117
    have hB115 := hB115.keep0 E117
    have hb := hb.step0 E117
    have q117_24 : Sl a117 24 (Value.slice (some ⟨b113, 0, none⟩) 0 0) := (Option.some.inj ((hdp117 1 _ 24 (by kernel_rfl) rfl rfl).1 rfl)).symm
    have q117_30 : Sl a117 30 (hiV kv (pos ks k)) := (hdp117 7 _ 30 (by kernel_rfl) rfl rfl).2 rfl
    have hP123 := (Own.ofBx (base := w.heap.size) (sz := 1) (n := 0) hB115 rfl (by decide) (by omega))
    refine op_append slt56 (ev_base hN117 rfl q117_24) hP123 (ev_base hN117 rfl q117_30) (Src.ofRd Try.underlying56 (by decide) ((ok.hiCut (k := (pos ks k)) (by omega)).cast (n' := (ks.take (pos ks k)).length) (cs' := (ks.take (pos ks k)).map sv) (by rw [List.length_take]; omega) (by rw [Nat.mul_one, List.map_take])).rdw (one_sv _)) (by unfold maxLen; omega) (by omega) hb.size ?_
    intro v118 w119 hO121 E120 hm122
    have dj124 : DJ kv (Value.slice (some ⟨b113, 0, none⟩) 0 0) := fun k hk hg => by simp [Value.ownBlock] at hg; subst hg; exact ne_b113_kv hk
    have dj125 : DJ kv v118 := DJ.step hm122 (fun k hk => (ok.lt k hk).2) dj124
    have z_w119 := E120.size
    have hp := hp.keep E120 (by simp [Value.ownBlock]; try omega)
    have ok := ok.keepD E120 dj124
    have ov := ov.keepT hP123 E120 (by decide)
    have hB109 := hB109.keep E120 (by simp [Value.ownBlock]; try omega)
    have hb := hb.stepO hP123 E120 (by omega)
    have hO121 : Own w119 w.heap.size 9 1 v118 (0 + (ks.take (pos ks k)).length) (((ks.take (pos ks k))).map sv) := by simpa [u8v, sv] using hO121
    refine kt_end rfl hp ?_
    refine kt_step (rs := [11]) (by kernel_rfl) ?_
    refine one_mem ?_
    intro w127 E127 _ a127 hN127 hbs127 hdp127 o_ ho_; obtain rfl := Option.some.inj ho_
    have z_w127 := E127.size
    have hp := hp.keep0 E127
    have ok := ok.keep0 E127
    have ov := ov.keep0 E127
    have hB109 := hB109.keep0 E127
    have hO121 := hO121.keep0 E127
    have hb := hb.step0 E127
    have q127_31 : Sl a127 31 v118 := (Option.some.inj ((hdp127 8 _ 31 (by kernel_rfl) rfl rfl).1 rfl)).symm
    have q127_33 : Sl a127 33 (Value.slice (some ⟨b107, 0, none⟩) 1 1) := (Option.some.inj ((hdp127 10 _ 33 (by kernel_rfl) rfl rfl).1 rfl)).symm
    have hP133 := hO121
    refine op_append slt56 (ev_base hN127 rfl q127_31) hP133 (ev_base hN127 rfl q127_33) (Src.ofRd Try.underlying56 (by decide) (RdC.ofBx (sz := 1) (n := 1) hB109 rfl (by decide)) (by simp [Value.oneCell', u8v])) (by unfold maxLen; omega) (by omega) hb.size ?_
    intro v128 w129 hO131 E130 hm132
    have z_w129 := E130.size
    have hp := hp.keepO hP133 E130 (by decide)
    have ok := ok.keepD E130 dj125
    have ov := ov.keepT hP133 E130 (by decide)
    have hb := hb.stepO hP133 E130 (by omega)
    have hO131 : Own w129 w.heap.size 9 1 v128 ((0 + (ks.take (pos ks k)).length) + 1) ((((ks.take (pos ks k)) ++ [k])).map sv) := by simpa [u8v, sv] using hO131
    refine kt_end rfl hp ?_
    refine kt_step (rs := [18]) (by kernel_rfl) ?_
    refine one_mem ?_
    intro w136 E136 _ a136 hN136 hbs136 hdp136 o_ ho_; obtain rfl := Option.some.inj ho_
    have z_w136 := E136.size
    have hp := hp.keep0 E136
    have ok := ok.keep0 E136
    have ov := ov.keep0 E136
    have hO131 := hO131.keep0 E136
    have hb := hb.step0 E136
    have q136_34 : Sl a136 34 v128 := (Option.some.inj ((hdp136 11 _ 34 (by kernel_rfl) rfl rfl).1 rfl)).symm
    have q136_40 : Sl a136 40 (cutS 1 kv (pos ks k)) := (hdp136 17 _ 40 (by kernel_rfl) rfl rfl).2 rfl
    have hP142 := hO131
    refine op_append slt56 (ev_base hN136 rfl q136_34) hP142 (ev_base hN136 rfl q136_40) (Src.ofRd Try.underlying56 (by decide) ((ok.cutO (k := (pos ks k)) (by omega)).cast (n' := (ks.drop (pos ks k)).length) (cs' := (ks.drop (pos ks k)).map sv) (by simp) (by rw [Nat.mul_one, List.map_drop])).rdw (one_sv _)) (by unfold maxLen; omega) (by omega) hb.size ?_
    intro v137 w138 hO140 E139 hm141
    have z_w138 := E139.size
    have hp := hp.keepO hP142 E139 (by decide)
    have ov := ov.keepT hP142 E139 (by decide)
    have hb := hb.stepO hP142 E139 (by omega)
    have hO140 : Own w138 w.heap.size 9 1 v137 (((0 + (ks.take (pos ks k)).length) + 1) + (ks.drop (pos ks k)).length) (((((ks.take (pos ks k)) ++ [k]) ++ (ks.drop (pos ks k)))).map sv) := by simpa [u8v, sv] using hO140
    refine kt_end rfl hp ?_
    intro w144 E144 a144 hN144 hd144 hbs144 hph144
    have hd144 := hd144.trans ((by simp only [putsL_defers] : _ = _).trans hd)
    have z_w144 := E144.size
    have hp := hp.keep0 E144
    have ov := ov.keep0 E144
    have hO140 := hO140.keep0 E144
    have hb := hb.step0 E144
    have s144_0 := (hbs144 0 rfl).trans (sl_base hN rfl s0)
    have s144_2 := (hbs144 2 rfl).trans (sl_base hN rfl s2)
    have s144_6 := (hbs144 6 rfl).trans (sl_hit hN rfl)
    have s144_7 := (hbs144 7 rfl).trans (sl_hit hN rfl)
    have s144_23 : Sl a144 23 (ptr p 0) := (hph144 0 _ 23 rfl rfl).2 rfl
    have s144_41 : Sl a144 41 v137 := (Option.some.inj ((hph144 18 _ 41 rfl rfl).1 rfl)).symm
    refine split_end ?_
    refine from_seq (tl := [_, _, _]) (by decide) (by kernel_rfl) rfl ?_
    refine op_nil (ev_base hN144 rfl s144_23) (op_field fld58_0 (ev_hit hN144 rfl) ?_)
    have hp_old := hp
    refine op_store (vs := [v137]) (cs' := [v137, vv]) size56 (ev_hit hN144 rfl) (ev_base hN144 rfl s144_41) hO140.cl rfl (by simp only [List.all_cons, List.all_nil, Bool.true_and, Bool.and_true, hO140.one]; try rfl) hp (Nat.le_of_ble_eq_true rfl) rfl ?_
    intro w147 hp E148
    have z_w147 := E148.size
    have ov := ov.keepX hp_old E148 (by decide)
    have hO140 := hO140.keepX hp_old E148 (by decide)
    have hb := hb.stepB E148 (.inl rfl)
    refine reg_nil (hK21 _ _ ?_)
    exact hJ19 _ _ _ hN144 hd144 ⟨v137, (sl_base hN144 rfl s144_0), (sl_base hN144 rfl s144_2), (sl_base hN144 rfl s144_6), (sl_base hN144 rfl s144_7), hb, (by omega), ov, (hO140.cast (n' := (ks.take (pos ks k) ++ [k] ++ ks.drop (pos ks k)).length) (cs' := (ks.take (pos ks k) ++ [k] ++ ks.drop (pos ks k)).map sv) (by first | rfl | (simp; done) | (simp only [List.length_append, List.length_cons, List.length_nil]; omega)) (by first | rfl | simp [cK, cN, cI])), hp⟩
  ·
   rintro a19 w19 hN19 hd19 ⟨vk, s19_0, s19_2, s19_6, s19_7, hb, zl_w19, ov, hO20, hbj18⟩
   have z_w19 := hb.size
   refine seq_any fun K149 hK149 => reg_split (hd := [_, _, _, _, _, _, _, _, _, _, _, _, _, _, _, _, _, _, _]) (tl := _) 19 mixed (by kernel_rfl) rfl rfl ?_
   refine any_tree (φ := phiV [(fun uz => uz = (ptr p 0)), (fun _ => True), (fun uz => uz = (ptr p 0)), (fun uz => uz = (ptr p 0)), (fun uz => uz = (ptr p 1)), (fun uz => uz = vv), (fun uz => uz = (Value.int .i64 (((pos ks k) : Nat) : Int))), (fun uz => uz = (hiV vv (pos ks k))), (fun _ => True), (fun uz => uz = (Value.int .i64 x)), (fun _ => True), (fun _ => True), (fun uz => uz = (ptr p 0)), (fun uz => uz = (ptr p 0)), (fun uz => uz = (ptr p 1)), (fun uz => uz = vv), (fun uz => uz = (Value.int .i64 (((pos ks k) : Nat) : Int))), (fun uz => uz = (cutS 1 vv (pos ks k))), (fun _ => True)]) (G := fun w' => Bx w' p 58 [vk, vv]) [1, 8, 10, 11, 18] (by kernel_rfl) (by kernel_rfl) (by kernel_rfl) (by kernel_rfl) (by kernel_rfl) hN19 (fun w1 w2 E h => h.keep0 E) hbj18 (ObRs9.cons ?_ (ObRs9.pass rfl (ObRs9.cons ?_ (ObRs9.cons ?_ (ObRs9.cons ?_ (ObRs9.cons ?_ (ObRs9.cons ?_ (ObRs9.cons ?_ (ObRs9.pass rfl (ObRs9.cons ?_ (ObRs9.pass rfl (ObRs9.pass rfl (ObRs9.cons ?_ (ObRs9.cons ?_ (ObRs9.cons ?_ (ObRs9.cons ?_ (ObRs9.cons ?_ (ObRs9.cons ?_ (ObRs9.pass rfl (ObRs9.nil)))))))))))))))))))) (by simp only [putsL_defers]) ?_
   ·
    intro eA aA wA hNA hGA hbsA hdpA
    have qA_0 := (hbsA 0 rfl).trans (sl_base hN19 rfl s19_0)
    refine op_move (ev_base hNA rfl qA_0) ?_
    exact obT_end rfl rfl
   ·
    intro eA aA wA hNA hGA hbsA hdpA
    have qA_0 := (hbsA 0 rfl).trans (sl_base hN19 rfl s19_0)
    refine op_move (ev_base hNA rfl qA_0) ?_
    exact obT_end rfl rfl
   ·
    intro eA aA wA hNA hGA hbsA hdpA
    have qA_46 : Sl aA 46 (ptr p 0) := (hdpA 2 _ 46 (by kernel_rfl) rfl rfl).2 rfl
    refine op_nil (ev_base hNA rfl qA_46) ?_
    exact obT_end rfl rfl
   ·
    intro eA aA wA hNA hGA hbsA hdpA
    have qA_47 : Sl aA 47 (ptr p 0) := (hdpA 3 _ 47 (by kernel_rfl) rfl rfl).2 rfl
    refine op_field fld58_1 (ev_base hNA rfl qA_47) ?_
    exact obT_end rfl rfl
   ·
    intro eA aA wA hNA hGA hbsA hdpA
    have qA_48 : Sl aA 48 (ptr p 1) := (hdpA 4 _ 48 (by kernel_rfl) rfl rfl).2 rfl
    refine op_load1 (v := vv) one30 (ev_base hNA rfl qA_48) (hGA.cell rfl) ?_
    exact obT_end rfl rfl
   ·
    intro eA aA wA hNA hGA hbsA hdpA
    have qA_7 := (hbsA 7 rfl).trans (sl_base hN19 rfl s19_7)
    refine op_move (ev_base hNA rfl qA_7) ?_
    exact obT_end rfl rfl
   ·
    intro eA aA wA hNA hGA hbsA hdpA
    have qA_49 : Sl aA 49 vv := (hdpA 5 _ 49 (by kernel_rfl) rfl rfl).2 rfl
    have qA_50 : Sl aA 50 (Value.int .i64 (((pos ks k) : Nat) : Int)) := (hdpA 6 _ 50 (by kernel_rfl) rfl rfl).2 rfl
    refine op_slice_hiC (m := (pos ks k)) slt30 (ev_base hNA rfl qA_49) hc23 (ev_base hNA rfl qA_50) (by omega) (by omega) ?_
    exact obT_end rfl rfl
   ·
    intro eA aA wA hNA hGA hbsA hdpA
    have qA_2 := (hbsA 2 rfl).trans (sl_base hN19 rfl s19_2)
    refine op_move (ev_base hNA rfl qA_2) ?_
    exact obT_end rfl rfl
   ·
    intro eA aA wA hNA hGA hbsA hdpA
    have qA_0 := (hbsA 0 rfl).trans (sl_base hN19 rfl s19_0)
    refine op_move (ev_base hNA rfl qA_0) ?_
    exact obT_end rfl rfl
   ·
    intro eA aA wA hNA hGA hbsA hdpA
    have qA_56 : Sl aA 56 (ptr p 0) := (hdpA 12 _ 56 (by kernel_rfl) rfl rfl).2 rfl
    refine op_nil (ev_base hNA rfl qA_56) ?_
    exact obT_end rfl rfl
   ·
    intro eA aA wA hNA hGA hbsA hdpA
    have qA_57 : Sl aA 57 (ptr p 0) := (hdpA 13 _ 57 (by kernel_rfl) rfl rfl).2 rfl
    refine op_field fld58_1 (ev_base hNA rfl qA_57) ?_
    exact obT_end rfl rfl
   ·
    intro eA aA wA hNA hGA hbsA hdpA
    have qA_58 : Sl aA 58 (ptr p 1) := (hdpA 14 _ 58 (by kernel_rfl) rfl rfl).2 rfl
    refine op_load1 (v := vv) one30 (ev_base hNA rfl qA_58) (hGA.cell rfl) ?_
    exact obT_end rfl rfl
   ·
    intro eA aA wA hNA hGA hbsA hdpA
    have qA_7 := (hbsA 7 rfl).trans (sl_base hN19 rfl s19_7)
    refine op_move (ev_base hNA rfl qA_7) ?_
    exact obT_end rfl rfl
   ·
    intro eA aA wA hNA hGA hbsA hdpA
    have qA_59 : Sl aA 59 vv := (hdpA 15 _ 59 (by kernel_rfl) rfl rfl).2 rfl
    have qA_60 : Sl aA 60 (Value.int .i64 (((pos ks k) : Nat) : Int)) := (hdpA 16 _ 60 (by kernel_rfl) rfl rfl).2 rfl
    refine op_slice_cutS (k := (pos ks k)) slt30 (ev_base hNA rfl qA_59) ov (ev_base hNA rfl qA_60) (by omega) (by omega) ?_
    exact obT_end rfl rfl
   ·
    refine kt_step (rs := [1, 10]) (by kernel_rfl) ?_
    refine more_mem ?_ ?_
    ·
     intro w151 E151 _ a151 hN151 hbs151 hdp151 o_ ho_; obtain rfl := Option.some.inj ho_
     have z_w151 := E151.size
     have ov := ov.keep0 E151
     have hO20 := hO20.keep0 E151
     have hbj18 := hbj18.keep0 E151
     have hb := hb.step0 E151
     refine op_bslice (e := 3) (pv := []) (cs := []) trivial (by kernel_rfl) ?_
     intro w152 b153 lo_b153 hi_b153 hB155 E154
     have ne_b153_vv : vv.ownBlock ≠ some b153 := fun hh => by have := (ov.lt _ hh).2; omega
     have z_w152 := E154.size
     have ov := ov.keep0 E154
     have hO20 := hO20.keep0 E154
     have hbj18 := hbj18.keep0 E154
     have hb := hb.step0 E154
     refine kt_end rfl hbj18 ?_
     refine kt_step (rs := [8, 10]) (by kernel_rfl) ?_
     refine more_mem ?_ ?_
     ·
      intro w157 E157 _ a157 hN157 hbs157 hdp157 o_ ho_; obtain rfl := Option.some.inj ho_
      have z_w157 := E157.size
      have ov := ov.keep0 E157
      have hO20 := hO20.keep0 E157
      have hbj18 := hbj18.keep0 E157
      have hB155 := hB155.keep0 E157
      have hb := hb.step0 E157
      have q157_45 : Sl a157 45 (Value.slice (some ⟨b153, 0, none⟩) 0 0) := (Option.some.inj ((hdp157 1 _ 45 (by kernel_rfl) rfl rfl).1 rfl)).symm
      have q157_51 : Sl a157 51 (hiV vv (pos ks k)) := (hdp157 7 _ 51 (by kernel_rfl) rfl rfl).2 rfl
      have hP163 := (Own.ofBx (base := w.heap.size) (sz := 1) (n := 0) hB155 rfl (by decide) (by omega))
      refine op_append slt30 (ev_base hN157 rfl q157_45) hP163 (ev_base hN157 rfl q157_51) (Src.ofRd Try.underlying30 (by decide) ((ov.hiCut (k := (pos ks k)) (by omega)).cast (n' := (vs.take (pos ks k)).length) (cs' := (vs.take (pos ks k)).map (Value.int .i64)) (by rw [List.length_take]; omega) (by rw [Nat.mul_one, List.map_take])).rdw (one_i64 _)) (by unfold maxLen; omega) (by omega) hb.size ?_
      intro v158 w159 hO161 E160 hm162
      have dj164 : DJ vv (Value.slice (some ⟨b153, 0, none⟩) 0 0) := fun k hk hg => by simp [Value.ownBlock] at hg; subst hg; exact ne_b153_vv hk
      have dj165 : DJ vv v158 := DJ.step hm162 (fun k hk => (ov.lt k hk).2) dj164
      have z_w159 := E160.size
      have ov := ov.keepD E160 dj164
      have hO20 := hO20.keepT hP163 E160 (by decide)
      have hbj18 := hbj18.keep E160 (by simp [Value.ownBlock]; try omega)
      have hb := hb.stepO hP163 E160 (by omega)
      have hO161 : Own w159 w.heap.size 3 1 v158 (0 + (vs.take (pos ks k)).length) (((vs.take (pos ks k))).map (Value.int .i64)) := by simpa [u8v, sv] using hO161
      refine kt_end rfl hbj18 ?_
      refine kt_step (rs := [10]) (by kernel_rfl) ?_
      refine one_mem ?_
      intro w167 E167 _ a167 hN167 hbs167 hdp167 o_ ho_; obtain rfl := Option.some.inj ho_
      have z_w167 := E167.size
      have ov := ov.keep0 E167
      have hO20 := hO20.keep0 E167
      have hbj18 := hbj18.keep0 E167
      have hO161 := hO161.keep0 E167
      have hb := hb.step0 E167
      have q167_53 : Sl a167 53 (Value.int .i64 x) := (hdp167 9 _ 53 (by kernel_rfl) rfl rfl).2 rfl
      refine op_bslice (e := 3) (pv := [(0, (Value.int .i64 x))]) (cs := [(Value.int .i64 x)]) ⟨rfl, (ev_base hN167 rfl q167_53), trivial⟩ (by kernel_rfl) ?_
      intro w168 b169 lo_b169 hi_b169 hB171 E170
      have z_w168 := E170.size
      have ov := ov.keep0 E170
      have hO20 := hO20.keep0 E170
      have hbj18 := hbj18.keep0 E170
      have hO161 := hO161.keep0 E170
      have hb := hb.step0 E170
      refine kt_end rfl hbj18 ?_
      refine kt_step (rs := [11]) (by kernel_rfl) ?_
      refine one_mem ?_
      intro w173 E173 _ a173 hN173 hbs173 hdp173 o_ ho_; obtain rfl := Option.some.inj ho_
      have z_w173 := E173.size
      have ov := ov.keep0 E173
      have hO20 := hO20.keep0 E173
      have hbj18 := hbj18.keep0 E173
      have hO161 := hO161.keep0 E173
      have hB171 := hB171.keep0 E173
      have hb := hb.step0 E173
      have q173_52 : Sl a173 52 v158 := (Option.some.inj ((hdp173 8 _ 52 (by kernel_rfl) rfl rfl).1 rfl)).symm
      have q173_54 : Sl a173 54 (Value.slice (some ⟨b169, 0, none⟩) 1 1) := (Option.some.inj ((hdp173 10 _ 54 (by kernel_rfl) rfl rfl).1 rfl)).symm
      have hP179 := hO161
      refine op_append slt30 (ev_base hN173 rfl q173_52) hP179 (ev_base hN173 rfl q173_54) (Src.ofRd Try.underlying30 (by decide) (RdC.ofBx (sz := 1) (n := 1) hB171 rfl (by decide)) (by simp [Value.oneCell', u8v])) (by unfold maxLen; omega) (by omega) hb.size ?_
      intro v174 w175 hO177 E176 hm178
      have z_w175 := E176.size
      have ov := ov.keepD E176 dj165
      have hO20 := hO20.keepT hP179 E176 (by decide)
      have hbj18 := hbj18.keepO hP179 E176 (by decide)
      have hb := hb.stepO hP179 E176 (by omega)
      have hO177 : Own w175 w.heap.size 3 1 v174 ((0 + (vs.take (pos ks k)).length) + 1) ((((vs.take (pos ks k)) ++ [x])).map (Value.int .i64)) := by simpa [u8v, sv] using hO177
      refine kt_end rfl hbj18 ?_
      refine kt_step (rs := [18]) (by kernel_rfl) ?_
      refine one_mem ?_
      intro w182 E182 _ a182 hN182 hbs182 hdp182 o_ ho_; obtain rfl := Option.some.inj ho_
      have z_w182 := E182.size
      have ov := ov.keep0 E182
      have hO20 := hO20.keep0 E182
      have hbj18 := hbj18.keep0 E182
      have hO177 := hO177.keep0 E182
      have hb := hb.step0 E182
      have q182_55 : Sl a182 55 v174 := (Option.some.inj ((hdp182 11 _ 55 (by kernel_rfl) rfl rfl).1 rfl)).symm
      have q182_61 : Sl a182 61 (cutS 1 vv (pos ks k)) := (hdp182 17 _ 61 (by kernel_rfl) rfl rfl).2 rfl
      have hP188 := hO177
      refine op_append slt30 (ev_base hN182 rfl q182_55) hP188 (ev_base hN182 rfl q182_61) (Src.ofRd Try.underlying30 (by decide) ((ov.cutO (k := (pos ks k)) (by omega)).cast (n' := (vs.drop (pos ks k)).length) (cs' := (vs.drop (pos ks k)).map (Value.int .i64)) (by simp) (by rw [Nat.mul_one, List.map_drop])).rdw (one_i64 _)) (by unfold maxLen; omega) (by omega) hb.size ?_
      intro v183 w184 hO186 E185 hm187
      have z_w184 := E185.size
      have hO20 := hO20.keepT hP188 E185 (by decide)
      have hbj18 := hbj18.keepO hP188 E185 (by decide)
      have hb := hb.stepO hP188 E185 (by omega)
      have hO186 : Own w184 w.heap.size 3 1 v183 (((0 + (vs.take (pos ks k)).length) + 1) + (vs.drop (pos ks k)).length) (((((vs.take (pos ks k)) ++ [x]) ++ (vs.drop (pos ks k)))).map (Value.int .i64)) := by simpa [u8v, sv] using hO186
      refine kt_end rfl hbj18 ?_
      intro w190 E190 a190 hN190 hd190 hbs190 hph190
      have hd190 := hd190.trans ((by simp only [putsL_defers] : _ = _).trans hd19)
      have z_w190 := E190.size
      have hO20 := hO20.keep0 E190
      have hbj18 := hbj18.keep0 E190
      have hO186 := hO186.keep0 E190
      have hb := hb.step0 E190
      have s190_44 : Sl a190 44 (ptr p 0) := (hph190 0 _ 44 rfl rfl).2 rfl
      have s190_62 : Sl a190 62 v183 := (Option.some.inj ((hph190 18 _ 62 rfl rfl).1 rfl)).symm
      refine split_end ?_
      refine from_seq (tl := [_, _, _]) (by decide) (by kernel_rfl) rfl ?_
      refine op_nil (ev_base hN190 rfl s190_44) (op_field fld58_1 (ev_hit hN190 rfl) ?_)
      have hbj18_old := hbj18
      refine op_store (vs := [v183]) (cs' := [vk, v183]) size30 (ev_hit hN190 rfl) (ev_base hN190 rfl s190_62) hO186.cl rfl (by simp only [List.all_cons, List.all_nil, Bool.true_and, Bool.and_true, hO186.one]; try rfl) hbj18 (Nat.le_of_ble_eq_true rfl) rfl ?_
      intro w193 hbj18 E194
      have z_w193 := E194.size
      have hO20 := hO20.keepX hbj18_old E194 (by decide)
      have hO186 := hO186.keepX hbj18_old E194 (by decide)
      have hb := hb.stepB E194 (.inl rfl)
      refine reg_nil ?_
      refine hK149 _ _ (seq_any fun K195 hK195 => one_reg (op_assign rfl (reg_nil (hK195 _ _ (wp_ret ?_)))))
      refine ret1 rfl hd190 (ev_hit hN190 rfl) ⟨_, rfl, ?_⟩
      exact ⟨hb, congrArg Value.bool c8.symm, _, _, hbj18, fun h => by rw [c8] at h; (cases h), fun _ => ⟨hO20, hO186.cast (by simp only [List.length_append, List.length_cons, List.length_nil]; omega) rfl⟩⟩
     refine one_mem ?_
     intro w196 E196 _ a196 hN196 hbs196 hdp196 o_ ho_; obtain rfl := Option.some.inj ho_
     have z_w196 := E196.size
     have ov := ov.keep0 E196
     have hO20 := hO20.keep0 E196
     have hbj18 := hbj18.keep0 E196
     have hB155 := hB155.keep0 E196
     have hb := hb.step0 E196
     have q196_53 : Sl a196 53 (Value.int .i64 x) := (hdp196 9 _ 53 (by kernel_rfl) rfl rfl).2 rfl
     refine op_bslice (e := 3) (pv := [(0, (Value.int .i64 x))]) (cs := [(Value.int .i64 x)]) ⟨rfl, (ev_base hN196 rfl q196_53), trivial⟩ (by kernel_rfl) ?_
     intro w197 b198 lo_b198 hi_b198 hB200 E199
     have z_w197 := E199.size
     have ov := ov.keep0 E199
     have hO20 := hO20.keep0 E199
     have hbj18 := hbj18.keep0 E199
     have hB155 := hB155.keep0 E199
     have hb := hb.step0 E199
     refine kt_end rfl hbj18 ?_
     refine kt_step (rs := [8]) (by kernel_rfl) ?_
     refine one_mem ?_
     intro w202 E202 _ a202 hN202 hbs202 hdp202 o_ ho_; obtain rfl := Option.some.inj ho_
     have z_w202 := E202.size
     have ov := ov.keep0 E202
     have hO20 := hO20.keep0 E202
     have hbj18 := hbj18.keep0 E202
     have hB155 := hB155.keep0 E202
     have hB200 := hB200.keep0 E202
     have hb := hb.step0 E202
     have q202_45 : Sl a202 45 (Value.slice (some ⟨b153, 0, none⟩) 0 0) := (Option.some.inj ((hdp202 1 _ 45 (by kernel_rfl) rfl rfl).1 rfl)).symm
     have q202_51 : Sl a202 51 (hiV vv (pos ks k)) := (hdp202 7 _ 51 (by kernel_rfl) rfl rfl).2 rfl
     have hP208 := (Own.ofBx (base := w.heap.size) (sz := 1) (n := 0) hB155 rfl (by decide) (by omega))
     refine op_append slt30 (ev_base hN202 rfl q202_45) hP208 (ev_base hN202 rfl q202_51) (Src.ofRd Try.underlying30 (by decide) ((ov.hiCut (k := (pos ks k)) (by omega)).cast (n' := (vs.take (pos ks k)).length) (cs' := (vs.take (pos ks k)).map (Value.int .i64)) (by rw [List.length_take]; omega) (by rw [Nat.mul_one, List.map_take])).rdw (one_i64 _)) (by unfold maxLen; omega) (by omega) hb.size ?_
     intro v203 w204 hO206 E205 hm207
     have dj209 : DJ vv (Value.slice (some ⟨b153, 0, none⟩) 0 0) := fun k hk hg => by simp [Value.ownBlock] at hg; subst hg; exact ne_b153_vv hk
     have dj210 : DJ vv v203 := DJ.step hm207 (fun k hk => (ov.lt k hk).2) dj209
     have z_w204 := E205.size
     have ov := ov.keepD E205 dj209
     have hO20 := hO20.keepT hP208 E205 (by decide)
     have hbj18 := hbj18.keep E205 (by simp [Value.ownBlock]; try omega)
     have hB200 := hB200.keep E205 (by simp [Value.ownBlock]; try omega)
     have hb := hb.stepO hP208 E205 (by omega)
     have hO206 : Own w204 w.heap.size 3 1 v203 (0 + (vs.take (pos ks k)).length) (((vs.take (pos ks k))).map (Value.int .i64)) := by simpa [u8v, sv] using hO206
     refine kt_end rfl hbj18 ?_
     refine kt_step (rs := [11]) (by kernel_rfl) ?_
     refine one_mem ?_
     intro w212 E212 _ a212 hN212 hbs212 hdp212 o_ ho_; obtain rfl := Option.some.inj ho_
     have z_w212 := E212.size
     have ov := ov.keep0 E212
     have hO20 := hO20.keep0 E212
     have hbj18 := hbj18.keep0 E212
     have hB200 := hB200.keep0 E212
     have hO206 := hO206.keep0 E212
     have hb := hb.step0 E212
     have q212_52 : Sl a212 52 v203 := (Option.some.inj ((hdp212 8 _ 52 (by kernel_rfl) rfl rfl).1 rfl)).symm
     have q212_54 : Sl a212 54 (Value.slice (some ⟨b198, 0, none⟩) 1 1) := (Option.some.inj ((hdp212 10 _ 54 (by kernel_rfl) rfl rfl).1 rfl)).symm
     have hP218 := hO206
     refine op_append slt30 (ev_base hN212 rfl q212_52) hP218 (ev_base hN212 rfl q212_54) (Src.ofRd Try.underlying30 (by decide) (RdC.ofBx (sz := 1) (n := 1) hB200 rfl (by decide)) (by simp [Value.oneCell', u8v])) (by unfold maxLen; omega) (by omega) hb.size ?_
     intro v213 w214 hO216 E215 hm217
     have z_w214 := E215.size
     have ov := ov.keepD E215 dj210
     have hO20 := hO20.keepT hP218 E215 (by decide)
     have hbj18 := hbj18.keepO hP218 E215 (by decide)
     have hb := hb.stepO hP218 E215 (by omega)
     have hO216 : Own w214 w.heap.size 3 1 v213 ((0 + (vs.take (pos ks k)).length) + 1) ((((vs.take (pos ks k)) ++ [x])).map (Value.int .i64)) := by simpa [u8v, sv] using hO216
     refine kt_end rfl hbj18 ?_
     refine kt_step (rs := [18]) (by kernel_rfl) ?_
     refine one_mem ?_
     intro w221 E221 _ a221 hN221 hbs221 hdp221 o_ ho_; obtain rfl := Option.some.inj ho_
     have z_w221 := E221.size
     have ov := ov.keep0 E221
     have hO20 := hO20.keep0 E221
     have hbj18 := hbj18.keep0 E221
     have hO216 := hO216.keep0 E221
     have hb := hb.step0 E221
     have q221_55 : Sl a221 55 v213 := (Option.some.inj ((hdp221 11 _ 55 (by kernel_rfl) rfl rfl).1 rfl)).symm
     have q221_61 : Sl a221 61 (cutS 1 vv (pos ks k)) := (hdp221 17 _ 61 (by kernel_rfl) rfl rfl).2 rfl
     have hP227 := hO216
     refine op_append slt30 (ev_base hN221 rfl q221_55) hP227 (ev_base hN221 rfl q221_61) (Src.ofRd Try.underlying30 (by decide) ((ov.cutO (k := (pos ks k)) (by omega)).cast (n' := (vs.drop (pos ks k)).length) (cs' := (vs.drop (pos ks k)).map (Value.int .i64)) (by simp) (by rw [Nat.mul_one, List.map_drop])).rdw (one_i64 _)) (by unfold maxLen; omega) (by omega) hb.size ?_
     intro v222 w223 hO225 E224 hm226
     have z_w223 := E224.size
     have hO20 := hO20.keepT hP227 E224 (by decide)
     have hbj18 := hbj18.keepO hP227 E224 (by decide)
     have hb := hb.stepO hP227 E224 (by omega)
     have hO225 : Own w223 w.heap.size 3 1 v222 (((0 + (vs.take (pos ks k)).length) + 1) + (vs.drop (pos ks k)).length) (((((vs.take (pos ks k)) ++ [x]) ++ (vs.drop (pos ks k)))).map (Value.int .i64)) := by simpa [u8v, sv] using hO225
     refine kt_end rfl hbj18 ?_
     intro w229 E229 a229 hN229 hd229 hbs229 hph229
     have hd229 := hd229.trans ((by simp only [putsL_defers] : _ = _).trans hd19)
     have z_w229 := E229.size
     have hO20 := hO20.keep0 E229
     have hbj18 := hbj18.keep0 E229
     have hO225 := hO225.keep0 E229
     have hb := hb.step0 E229
     have s229_44 : Sl a229 44 (ptr p 0) := (hph229 0 _ 44 rfl rfl).2 rfl
     have s229_62 : Sl a229 62 v222 := (Option.some.inj ((hph229 18 _ 62 rfl rfl).1 rfl)).symm
     refine split_end ?_
     refine from_seq (tl := [_, _, _]) (by decide) (by kernel_rfl) rfl ?_
     refine op_nil (ev_base hN229 rfl s229_44) (op_field fld58_1 (ev_hit hN229 rfl) ?_)
     have hbj18_old := hbj18
     refine op_store (vs := [v222]) (cs' := [vk, v222]) size30 (ev_hit hN229 rfl) (ev_base hN229 rfl s229_62) hO225.cl rfl (by simp only [List.all_cons, List.all_nil, Bool.true_and, Bool.and_true, hO225.one]; try rfl) hbj18 (Nat.le_of_ble_eq_true rfl) rfl ?_
     intro w232 hbj18 E233
     have z_w232 := E233.size
     have hO20 := hO20.keepX hbj18_old E233 (by decide)
     have hO225 := hO225.keepX hbj18_old E233 (by decide)
     have hb := hb.stepB E233 (.inl rfl)
     refine reg_nil ?_
     refine hK149 _ _ (seq_any fun K234 hK234 => one_reg (op_assign rfl (reg_nil (hK234 _ _ (wp_ret ?_)))))
     refine ret1 rfl hd229 (ev_hit hN229 rfl) ⟨_, rfl, ?_⟩
     exact ⟨hb, congrArg Value.bool c8.symm, _, _, hbj18, fun h => by rw [c8] at h; (cases h), fun _ => ⟨hO20, hO225.cast (by simp only [List.length_append, List.length_cons, List.length_nil]; omega) rfl⟩⟩
    refine one_mem ?_
    intro w235 E235 _ a235 hN235 hbs235 hdp235 o_ ho_; obtain rfl := Option.some.inj ho_
    have z_w235 := E235.size
    have ov := ov.keep0 E235
    have hO20 := hO20.keep0 E235
    have hbj18 := hbj18.keep0 E235
    have hb := hb.step0 E235
    have q235_53 : Sl a235 53 (Value.int .i64 x) := (hdp235 9 _ 53 (by kernel_rfl) rfl rfl).2 rfl
    refine op_bslice (e := 3) (pv := [(0, (Value.int .i64 x))]) (cs := [(Value.int .i64 x)]) ⟨rfl, (ev_base hN235 rfl q235_53), trivial⟩ (by kernel_rfl) ?_
    intro w236 b237 lo_b237 hi_b237 hB239 E238
    have z_w236 := E238.size
    have ov := ov.keep0 E238
    have hO20 := hO20.keep0 E238
    have hbj18 := hbj18.keep0 E238
    have hb := hb.step0 E238
    refine kt_end rfl hbj18 ?_
    refine kt_step (rs := [1]) (by kernel_rfl) ?_
    refine one_mem ?_
    intro w241 E241 _ a241 hN241 hbs241 hdp241 o_ ho_; obtain rfl := Option.some.inj ho_
    have z_w241 := E241.size
    have ov := ov.keep0 E241
    have hO20 := hO20.keep0 E241
    have hbj18 := hbj18.keep0 E241
    have hB239 := hB239.keep0 E241
    have hb := hb.step0 E241
    refine op_bslice (e := 3) (pv := []) (cs := []) trivial (by kernel_rfl) ?_
    intro w242 b243 lo_b243 hi_b243 hB245 E244
    have ne_b243_vv : vv.ownBlock ≠ some b243 := fun hh => by have := (ov.lt _ hh).2; omega
    have z_w242 := E244.size
    have ov := ov.keep0 E244
    have hO20 := hO20.keep0 E244
    have hbj18 := hbj18.keep0 E244
    have hB239 := hB239.keep0 E244
    have hb := hb.step0 E244
    refine kt_end rfl hbj18 ?_
    refine kt_step (rs := [8]) (by kernel_rfl) ?_
    refine one_mem ?_
    intro w247 E247 _ a247 hN247 hbs247 hdp247 o_ ho_; obtain rfl := Option.some.inj ho_
    have z_w247 := E247.size
    have ov := ov.keep0 E247
    have hO20 := hO20.keep0 E247
    have hbj18 := hbj18.keep0 E247
    have hB239 := hB239.keep0 E247
    have hB245 := hB245.keep0 E247
    have hb := hb.step0 E247
    have q247_45 : Sl a247 45 (Value.slice (some ⟨b243, 0, none⟩) 0 0) := (Option.some.inj ((hdp247 1 _ 45 (by kernel_rfl) rfl rfl).1 rfl)).symm
    have q247_51 : Sl a247 51 (hiV vv (pos ks k)) := (hdp247 7 _ 51 (by kernel_rfl) rfl rfl).2 rfl
    have hP253 := (Own.ofBx (base := w.heap.size) (sz := 1) (n := 0) hB245 rfl (by decide) (by omega))
    refine op_append slt30 (ev_base hN247 rfl q247_45) hP253 (ev_base hN247 rfl q247_51) (Src.ofRd Try.underlying30 (by decide) ((ov.hiCut (k := (pos ks k)) (by omega)).cast (n' := (vs.take (pos ks k)).length) (cs' := (vs.take (pos ks k)).map (Value.int .i64)) (by rw [List.length_take]; omega) (by rw [Nat.mul_one, List.map_take])).rdw (one_i64 _)) (by unfold maxLen; omega) (by omega) hb.size ?_
    intro v248 w249 hO251 E250 hm252
    have dj254 : DJ vv (Value.slice (some ⟨b243, 0, none⟩) 0 0) := fun k hk hg => by simp [Value.ownBlock] at hg; subst hg; exact ne_b243_vv hk
    have dj255 : DJ vv v248 := DJ.step hm252 (fun k hk => (ov.lt k hk).2) dj254
    have z_w249 := E250.size
    have ov := ov.keepD E250 dj254
    have hO20 := hO20.keepT hP253 E250 (by decide)
    have hbj18 := hbj18.keep E250 (by simp [Value.ownBlock]; try omega)
    have hB239 := hB239.keep E250 (by simp [Value.ownBlock]; try omega)
    have hb := hb.stepO hP253 E250 (by omega)
    have hO251 : Own w249 w.heap.size 3 1 v248 (0 + (vs.take (pos ks k)).length) (((vs.take (pos ks k))).map (Value.int .i64)) := by simpa [u8v, sv] using hO251
    refine kt_end rfl hbj18 ?_
    refine kt_step (rs := [11]) (by kernel_rfl) ?_
    refine one_mem ?_
    intro w257 E257 _ a257 hN257 hbs257 hdp257 o_ ho_; obtain rfl := Option.some.inj ho_
    have z_w257 := E257.size
    have ov := ov.keep0 E257
    have hO20 := hO20.keep0 E257
    have hbj18 := hbj18.keep0 E257
    have hB239 := hB239.keep0 E257
    have hO251 := hO251.keep0 E257
    have hb := hb.step0 E257
    have q257_52 : Sl a257 52 v248 := (Option.some.inj ((hdp257 8 _ 52 (by kernel_rfl) rfl rfl).1 rfl)).symm
    have q257_54 : Sl a257 54 (Value.slice (some ⟨b237, 0, none⟩) 1 1) := (Option.some.inj ((hdp257 10 _ 54 (by kernel_rfl) rfl rfl).1 rfl)).symm
    have hP263 := hO251
    refine op_append slt30 (ev_base hN257 rfl q257_52) hP263 (ev_base hN257 rfl q257_54) (Src.ofRd Try.underlying30 (by decide) (RdC.ofBx (sz := 1) (n := 1) hB239 rfl (by decide)) (by simp [Value.oneCell', u8v])) (by unfold maxLen; omega) (by omega) hb.size ?_
    intro v258 w259 hO261 E260 hm262
    have z_w259 := E260.size
    have ov := ov.keepD E260 dj255
    have hO20 := hO20.keepT hP263 E260 (by decide)
    have hbj18 := hbj18.keepO hP263 E260 (by decide)
    have hb := hb.stepO hP263 E260 (by omega)
    have hO261 : Own w259 w.heap.size 3 1 v258 ((0 + (vs.take (pos ks k)).length) + 1) ((((vs.take (pos ks k)) ++ [x])).map (Value.int .i64)) := by simpa [u8v, sv] using hO261
    refine kt_end rfl hbj18 ?_
    refine kt_step (rs := [18]) (by kernel_rfl) ?_
    refine one_mem ?_
    intro w266 E266 _ a266 hN266 hbs266 hdp266 o_ ho_; obtain rfl := Option.some.inj ho_
    have z_w266 := E266.size
    have ov := ov.keep0 E266
    have hO20 := hO20.keep0 E266
    have hbj18 := hbj18.keep0 E266
    have hO261 := hO261.keep0 E266
    have hb := hb.step0 E266
    have q266_55 : Sl a266 55 v258 := (Option.some.inj ((hdp266 11 _ 55 (by kernel_rfl) rfl rfl).1 rfl)).symm
    have q266_61 : Sl a266 61 (cutS 1 vv (pos ks k)) := (hdp266 17 _ 61 (by kernel_rfl) rfl rfl).2 rfl
    have hP272 := hO261
    refine op_append slt30 (ev_base hN266 rfl q266_55) hP272 (ev_base hN266 rfl q266_61) (Src.ofRd Try.underlying30 (by decide) ((ov.cutO (k := (pos ks k)) (by omega)).cast (n' := (vs.drop (pos ks k)).length) (cs' := (vs.drop (pos ks k)).map (Value.int .i64)) (by simp) (by rw [Nat.mul_one, List.map_drop])).rdw (one_i64 _)) (by unfold maxLen; omega) (by omega) hb.size ?_
    intro v267 w268 hO270 E269 hm271
    have z_w268 := E269.size
    have hO20 := hO20.keepT hP272 E269 (by decide)
    have hbj18 := hbj18.keepO hP272 E269 (by decide)
    have hb := hb.stepO hP272 E269 (by omega)
    have hO270 : Own w268 w.heap.size 3 1 v267 (((0 + (vs.take (pos ks k)).length) + 1) + (vs.drop (pos ks k)).length) (((((vs.take (pos ks k)) ++ [x]) ++ (vs.drop (pos ks k)))).map (Value.int .i64)) := by simpa [u8v, sv] using hO270
    refine kt_end rfl hbj18 ?_
    intro w274 E274 a274 hN274 hd274 hbs274 hph274
    have hd274 := hd274.trans ((by simp only [putsL_defers] : _ = _).trans hd19)
    have z_w274 := E274.size
    have hO20 := hO20.keep0 E274
    have hbj18 := hbj18.keep0 E274
    have hO270 := hO270.keep0 E274
    have hb := hb.step0 E274
    have s274_44 : Sl a274 44 (ptr p 0) := (hph274 0 _ 44 rfl rfl).2 rfl
    have s274_62 : Sl a274 62 v267 := (Option.some.inj ((hph274 18 _ 62 rfl rfl).1 rfl)).symm
    refine split_end ?_
    refine from_seq (tl := [_, _, _]) (by decide) (by kernel_rfl) rfl ?_
    refine op_nil (ev_base hN274 rfl s274_44) (op_field fld58_1 (ev_hit hN274 rfl) ?_)
    have hbj18_old := hbj18
    refine op_store (vs := [v267]) (cs' := [vk, v267]) size30 (ev_hit hN274 rfl) (ev_base hN274 rfl s274_62) hO270.cl rfl (by simp only [List.all_cons, List.all_nil, Bool.true_and, Bool.and_true, hO270.one]; try rfl) hbj18 (Nat.le_of_ble_eq_true rfl) rfl ?_
    intro w277 hbj18 E278
    have z_w277 := E278.size
    have hO20 := hO20.keepX hbj18_old E278 (by decide)
    have hO270 := hO270.keepX hbj18_old E278 (by decide)
    have hb := hb.stepB E278 (.inl rfl)
    refine reg_nil ?_
    refine hK149 _ _ (seq_any fun K279 hK279 => one_reg (op_assign rfl (reg_nil (hK279 _ _ (wp_ret ?_)))))
    refine ret1 rfl hd274 (ev_hit hN274 rfl) ⟨_, rfl, ?_⟩
    exact ⟨hb, congrArg Value.bool c8.symm, _, _, hbj18, fun h => by rw [c8] at h; (cases h), fun _ => ⟨hO20, hO270.cast (by simp only [List.length_append, List.length_cons, List.length_nil]; omega) rfl⟩⟩
theorem pairsPut {M : List (Ky × Int)} {k : List UInt8} {x : Int} {F : Nat → Prop} {p base : Nat} {w : World} (T : PairsR base w p M F) (hb : base ≤ w.heap.size) (hs : SortedL M) (hn : M.length ≤ 10000) (hkl : ∀ q ∈ M, q.1.length ≤ 1000000000) (hkk : k.length ≤ 1000000000) :
    Ret Try.prog 27 #[ptr p 0, .string (bs k), .int .i64 x] w (fun v' w' => Gr w w' F ∧ v' = .bool ((ks1 M).contains k) ∧ ∃ F', PairsR base w' p (putL k x M) F' ∧ NewF w.heap.size F F') := by
  obtain ⟨kv, vv, hB, h1, h2, hp, hF⟩ := T
  refine (pairsPut0 (x := x) (k := k) hB h1 h2 (show Sorted (ks1 M) from hs) (by simpa using hn) (by simp) (fun q hq => by obtain ⟨r, hr, rfl⟩ := List.mem_map.1 hq; exact hkl r hr) hkk hb).mono fun v' w' h => ?_
  obtain ⟨E, e, kv', vv', hB', hT, hFn⟩ := h
  refine ⟨E.mono fun j _ hj => (hF j).2 hj, e, fun j => j = p ∨ Bl kv' j ∨ Bl vv' j, ?_, ?_⟩
  · rcases Bool.eq_false_or_eq_true ((ks1 M).contains k) with c | c
    · obtain ⟨rfl, rfl, o1, o2⟩ := hT c
      obtain ⟨e1, e2⟩ := putL_old (v := x) hs c
      exact ⟨_, _, hB', by rw [e1]; exact o1, by rw [e2]; exact o2, hp, fun _ => Iff.rfl⟩
    · obtain ⟨o1, o2⟩ := hFn c
      obtain ⟨e1, e2⟩ := putL_new (v := x) hs c
      exact ⟨_, _, hB', by rw [e1]; exact o1.mono hb, by rw [e2]; exact o2.mono hb, hp, fun _ => Iff.rfl⟩
  · intro j hj
    rcases Bool.eq_false_or_eq_true ((ks1 M).contains k) with c | c
    · obtain ⟨rfl, rfl, _, _⟩ := hT c
      exact .inl ((hF j).2 hj)
    · obtain ⟨o1, o2⟩ := hFn c
      rcases hj with hj | hj | hj
      · exact .inl ((hF j).2 (.inl hj))
      · exact .inr (o1.lt j hj).1
      · exact .inr (o2.lt j hj).1
theorem shapeLs {M : List (Ky × Int)} {F : Nat → Prop} {p base : Nat} {w : World} (hT : TopL kI 71 base w p M F) (hDM : M.length ≤ 100000) : Ret Try.prog 26 #[(ptr p 0)] w (fun v' w' => Below w.heap.size w w' ∧ v' = .bool true) := by
 have hb := Below.refl w.heap.size w
 refine enter (N := 91) Try.func26 rfl rfl (by simp) fun a0 hN hd hA => ?_
 have s0 : a0.tmps.getD 0 undef = (ptr p 0) := hA 0 (by simp)
 clear hA
 refine seq_any fun K7 hK7 => one_reg ?_
 refine op_assign rfl (reg_nil (hK7 _ _ (seq_any fun K11 hK11 => one_reg (op_move (ev_base hN rfl s0) (op_fn (vs := [(ptr p 0)]) ok33 ⟨(ev_hit hN rfl), trivial⟩ (levLsI hT hDM) ?_)))))
 rintro v12 w13 ⟨E14, LL12, LV12, hO12, hA12, hlev12, hLK12⟩
 have E14 := grown_of_below E14
 have z_w13 := E14.size
 have hT := hT.kz E14
 have hb := below_step0 hb E14 hb.size
 have hLn12 := lev_len hlev12
 have hz12 := hLK12.zero
 have hle12 := hLK12.le
 have hO12 := hO12.mono (base' := w.heap.size) (by omega)
 have hA12 : ∀ x9 ∈ LL12, Own w13 w.heap.size 3 1 x9.1 x9.2.length (x9.2.map (Value.int .i64)) := fun x9 h9 => (hA12 x9 h9).mono (by omega)
 refine op_assign (ev_hit hN rfl) ?_
 refine reg_nil (hK11 _ _ (seq_any fun K16 hK16 => seq_any fun K17 hK17 => one_reg (op_move (ev_base hN rfl s0) (op_fn (vs := [(ptr p 0)]) ok25 ⟨(ev_hit hN rfl), trivial⟩ (lenLsI hT hDM) ?_))))
 rintro _ w19 ⟨E20, rfl⟩
 have E20 := grown_of_below E20
 have z_w19 := E20.size
 have hT := hT.kz E20
 have hO12 := hO12.keep0 E20
 have hA12 := all9 hA12 fun _ h => h.keep0 E20
 have hb := below_step0 hb E20 hb.size
 refine op_eql (ev_hit hN rfl) rfl (fun c15 => ?_) (fun c15 => ?_)
 ·
  refine reg_nil (hK17 _ _ (wp_cond_true (ev_hit hN rfl) (seq_any fun K21 hK21 => one_reg (op_move (ev_hit hN rfl) (op_len_rd Try.underlying28 (ev_hit hN rfl) hO12.rdw ?_)))))
  refine op_eql (ev_hit hN rfl) rfl (fun c18 => ?_) (fun c18 => ?_)
  ·
   refine op_assign (ev_hit hN rfl) (reg_nil (hK21 _ _ (wp_ret (then_ret ( ?_)))))
   refine ret1 rfl hd (ev_hit hN rfl) ⟨_, rfl, ?_⟩
   exact ⟨hb, rfl⟩
  ·
   exfalso; omega
 ·
  refine reg_nil (hK17 _ _ (wp_cond_false (ev_hit hN rfl) ?_))
  refine wp_skip (hK16 _ _ (seq_any fun K23 hK23 => one_reg (op_assign rfl (reg_nil (hK23 _ _ ?_)))))
  refine seq_any fun K24 hK24 => seq_any fun K26 hK26 => one_reg (op_assign rfl (reg_nil (hK26 _ _ (wp_block ?_))))
  refine loop_m (fun mz_ az_ w' => ∃ (i : Nat), mz_ = LL12.length - i ∧ (az_.tmps.getD 0 undef = (ptr p 0)) ∧ (az_.tmps.getD 3 undef = v12) ∧ (az_.tmps.getD 5 undef = (Value.int .i64 ((i : Nat) : Int))) ∧ (az_.tmps.getD 4 undef = (Value.int .i64 (((wantL LV12 i) : Nat) : Int))) ∧ (i ≤ LL12.length) ∧ (Below w.heap.size w w') ∧ (w19.heap.size ≤ w'.heap.size) ∧ (TopL kI 71 base w' p M F) ∧ (Own w' w.heap.size 30 1 v12 LL12.length (LL12.flatMap (fun x9 => [x9.1]))) ∧ (∀ x9 ∈ LL12, Own w' w.heap.size 3 1 x9.1 x9.2.length (x9.2.map (Value.int .i64)))) _ hN hd ⟨0, rfl, (sl_base hN rfl s0), (sl_hit hN rfl), (sl_hit hN rfl), (sl_hit hN rfl), (Nat.zero_le _), hb, (Nat.le_refl _), hT, hO12, hA12⟩ ?_
  rintro _ a27 w27 hN27 hd27 ⟨i, rfl, s27_0, s27_3, s27_5, s27_4, hi, hb, zl_w27, hT, hO12, hA12⟩
  have z_w27 := hb.size
  refine seq_any fun K29 hK29 => seq_any fun K32 hK32 => one_reg (op_move (ev_base hN27 rfl s27_5) (op_move (ev_base hN27 rfl s27_3) (op_len_rd Try.underlying28 (ev_hit hN27 rfl) hO12.rdw ?_)))
  refine op_lss (ev_hit hN27 rfl) (ev_hit hN27 rfl) (fun c22 => ?_) (fun c22 => ?_)
  ·
   refine reg_nil (hK32 _ _ (wp_cond_true (ev_hit hN27 rfl) (wp_skip (hK29 _ _ (seq_any fun K34 hK34 => wp_block ?_)))))
   refine seq_any fun K35 hK35 => seq_any fun K36 hK36 => one_reg ?_
   have hat := lev_at hlev12 i
   have hw := (hLK12.at_ i (by omega)).1
   have hlen9 : (LL12.getD i default).2.length = (LV12.getD i []).length := by rw [hat, List.length_map]
   have hall := (hLK12.at_ i (by omega)).2
   have hwle : (LV12.getD i []).length ≤ 700000 := row_len hLK12 (by omega) (by omega)
   refine op_move (ev_base hN27 rfl s27_3) (op_move (ev_base hN27 rfl s27_5) (op_index_rd slt28 (ev_hit hN27 rfl) hO12.rdw (ev_hit hN27 rfl) (by omega) (by omega) ?_))
   intro b37 o39 h0b37 h1b37 hc40
   have hs41 : Own w27 w.heap.size 3 1 (LL12.getD i default).1 (LL12.getD i default).2.length ((LL12.getD i default).2.map (Value.int .i64)) := hA12 _ (getD_mem (by omega))
   refine op_load1 (v := (LL12.getD i default).1) one30 (ev_hit hN27 rfl) (by have := hc40 0 (LL12.getD i default).1 (by decide) (el_ll (i := i) (d := default) (by omega) (by omega)); simpa using this) (op_len_rd Try.underlying30 (ev_hit hN27 rfl) hs41.rdw ?_)
   refine op_move (ev_base hN27 rfl s27_4) (op_neq (ev_hit hN27 rfl) (ev_hit hN27 rfl) (fun c31 => ?_) (fun c31 => ?_))
   ·
    exfalso; omega
   ·
    refine reg_nil (hK36 _ _ ?_)
    refine wp_cond_false (ev_hit hN27 rfl) (wp_skip (hK35 _ _ (seq_any fun K42 hK42 => one_reg (op_assign rfl (reg_nil ?_)))))
    refine hK42 _ _ (seq_any fun K43 hK43 => one_reg (op_assign rfl (reg_nil (hK43 _ _ (wp_block ?_)))))
    refine loop_m (fun mz_ az_ w' => ∃ (k : Nat), mz_ = (LV12.getD i []).length - k ∧ (az_.tmps.getD 0 undef = (ptr p 0)) ∧ (az_.tmps.getD 3 undef = v12) ∧ (az_.tmps.getD 5 undef = (Value.int .i64 ((i : Nat) : Int))) ∧ (az_.tmps.getD 6 undef = (Value.int .i64 ((k : Nat) : Int))) ∧ (az_.tmps.getD 4 undef = (Value.int .i64 (((sumk (LV12.getD i []) k) : Nat) : Int))) ∧ (k ≤ (LV12.getD i []).length) ∧ (Below w.heap.size w w') ∧ (w27.heap.size ≤ w'.heap.size) ∧ (TopL kI 71 base w' p M F) ∧ (Own w' w.heap.size 30 1 v12 LL12.length (LL12.flatMap (fun x9 => [x9.1]))) ∧ (∀ x9 ∈ LL12, Own w' w.heap.size 3 1 x9.1 x9.2.length (x9.2.map (Value.int .i64)))) _ hN27 hd27 ⟨0, rfl, (sl_base hN27 rfl s27_0), (sl_base hN27 rfl s27_3), (sl_base hN27 rfl s27_5), (sl_hit hN27 rfl), (sl_hit hN27 rfl), (Nat.zero_le _), hb, (Nat.le_refl _), hT, hO12, hA12⟩ ?_
    rintro _ a44 w44 hN44 hd44 ⟨k, rfl, s44_0, s44_3, s44_5, s44_6, s44_4, hk, hb, zl_w44, hT, hO12, hA12⟩
    have z_w44 := hb.size
    refine seq_any fun K45 hK45 => seq_any fun K46 hK46 => one_reg (op_move (ev_base hN44 rfl s44_6) (op_move (ev_base hN44 rfl s44_3) (op_move (ev_base hN44 rfl s44_5) (op_index_rd slt28 (ev_hit hN44 rfl) hO12.rdw (ev_hit hN44 rfl) (by omega) (by omega) ?_))))
    intro b47 o48 h0b47 h1b47 hc50
    have hs51 : Own w44 w.heap.size 3 1 (LL12.getD i default).1 (LL12.getD i default).2.length ((LL12.getD i default).2.map (Value.int .i64)) := hA12 _ (getD_mem (by omega))
    refine op_load1 (v := (LL12.getD i default).1) one30 (ev_hit hN44 rfl) (by have := hc50 0 (LL12.getD i default).1 (by decide) (el_ll (i := i) (d := default) (by omega) (by omega)); simpa using this) (op_len_rd Try.underlying30 (ev_hit hN44 rfl) hs51.rdw ?_)
    refine op_lss (ev_hit hN44 rfl) (ev_hit hN44 rfl) (fun c38 => ?_) (fun c38 => ?_)
    ·
     refine reg_nil (hK46 _ _ (wp_cond_true (ev_hit hN44 rfl) (wp_skip (hK45 _ _ (seq_any fun K53 hK53 => wp_block ?_)))))
     refine seq_any fun K54 hK54 => one_reg ?_
     have hnk : (LL12.getD i default).2.getD k 0 = (((LV12.getD i []).getD k 0 : Nat) : Int) := by rw [hat]; exact ints_at
     have hm := hall _ (getD_mem9 (d := 0) (show k < (LV12.getD i []).length by omega))
     have hX := sumk_le (k := k) fun m h => (hall m h).2.1
     refine op_move (ev_base hN44 rfl s44_3) (op_move (ev_base hN44 rfl s44_5) (op_index_rd slt28 (ev_hit hN44 rfl) hO12.rdw (ev_hit hN44 rfl) (by omega) (by omega) ?_))
     intro b55 o57 h0b55 h1b55 hc58
     refine op_load1 (v := (LL12.getD i default).1) one30 (ev_hit hN44 rfl) (by have := hc58 0 (LL12.getD i default).1 (by decide) (el_ll (i := i) (d := default) (by omega) (by omega)); simpa using this) (op_move (ev_base hN44 rfl s44_6) (op_index_rd slt30 (ev_hit hN44 rfl) hs51.rdw (ev_hit hN44 rfl) (by omega) (by omega) ?_))
     intro b60 o61 h0b60 h1b60 hc62
     refine op_load1 (v := (Value.int .i64 ((LL12.getD i default).2.getD k 0))) one3 (ev_hit hN44 rfl) (by have := hc62 0 (Value.int .i64 ((LL12.getD i default).2.getD k 0)) (by decide) (el_i64 (i := k) (by omega) (by omega)); simpa using this) (op_assign (ev_hit hN44 rfl) (reg_nil (hK54 _ _ (seq_any fun K63 hK63 => seq_any fun K65 hK65 => ?_))))
     refine one_reg (op_move (ev_hit hN44 rfl) (op_gtr (ev_hit hN44 rfl) rfl (fun c49 => ?_) (fun c49 => ?_)))
     ·
      exfalso; omega
     ·
      refine op_move (ev_hit hN44 rfl) (g_true (j := 2) (dj := 50) (b := false) rfl rfl rfl (ev_hit hN44 rfl) (op_move (ev_hit hN44 rfl) (g_true (j := 2) (dj := 50) (b := false) rfl rfl rfl (ev_hit hN44 rfl) (op_lss (ev_hit hN44 rfl) rfl (fun c52 => ?_) (fun c52 => ?_)))))
      ·
       exfalso; omega
      ·
       refine op_pick_f (ev_hit hN44 rfl) (ev_hit hN44 rfl) ?_
       refine op_move (ev_hit hN44 rfl) (g_true (j := 6) (dj := 54) (b := false) rfl rfl rfl (ev_hit hN44 rfl) (op_move (ev_base hN44 rfl s44_5) (g_true (j := 6) (dj := 54) (b := false) rfl rfl rfl (ev_hit hN44 rfl) (op_gtr (ev_hit hN44 rfl) rfl (fun c56 => ?_) (fun c56 => ?_)))))
       ·
        refine g_true (j := 6) (dj := 54) (b := false) rfl rfl rfl (ev_hit hN44 rfl) (op_move (ev_hit hN44 rfl) (g_true (j := 9) (dj := 57) (b := true) rfl rfl rfl (ev_hit hN44 rfl) (op_move (ev_hit hN44 rfl) (g_true (j := 9) (dj := 57) (b := true) rfl rfl rfl (ev_hit hN44 rfl) (op_lss (ev_hit hN44 rfl) rfl (fun c59 => ?_) (fun c59 => ?_))))))
        ·
         exfalso; have := hm.2.2 (by omega); omega
        ·
         refine g_true (j := 6) (dj := 54) (b := false) rfl rfl rfl (ev_hit hN44 rfl) (op_pick_t (ev_hit hN44 rfl) (ev_hit hN44 rfl) ?_)
         refine op_pick_f (ev_hit hN44 rfl) (ev_hit hN44 rfl) ?_
         refine reg_nil (hK65 _ _ ?_)
         refine wp_cond_false (ev_hit hN44 rfl) (wp_skip (hK63 _ _ (one_reg (op_move (ev_base hN44 rfl s44_4) (op_move (ev_hit hN44 rfl) (op_add (r := (((sumk (LV12.getD i []) k) + (LV12.getD i []).getD k 0 : Nat) : Int)) (ev_hit hN44 rfl) (ev_hit hN44 rfl) (by rw [hnk]; exact (add64 (by omega)).trans (by omega)) ?_))))))
         refine op_add (r := (((sumk (LV12.getD i []) k) + (LV12.getD i []).getD k 0 + 1 : Nat) : Int)) (ev_hit hN44 rfl) rfl ((add64 (by omega)).trans (by omega)) ?_
         refine op_assign (ev_hit hN44 rfl) (reg_nil (hK53 _ _ (one_reg (op_move (ev_base hN44 rfl s44_6) (op_add (ev_hit hN44 rfl) rfl (add64 (by omega)) ?_)))))
         refine op_assign (ev_hit hN44 rfl) (reg_nil ?_)
         -- round 15F 22T 31F 38T 49F 52F 56T 59F
         exact loop_next _ hN44 hd44 ⟨(k + 1), rfl, (sl_base hN44 rfl s44_0), (sl_base hN44 rfl s44_3), (sl_base hN44 rfl s44_5), (sl_hit hN44 rfl).trans (congrArg (Value.int .i64) (by omega)), (sl_hit hN44 rfl).trans (congrArg (Value.int .i64) (by rw [sumk_suc (by omega)]; omega)), (by omega), hb, (by omega), hT, hO12, hA12⟩ (by omega)
       ·
        refine g_true (j := 6) (dj := 54) (b := false) rfl rfl rfl (ev_hit hN44 rfl) (op_move (ev_hit hN44 rfl) (g_false (j := 9) (dj := 57) (b := true) rfl rfl rfl (ev_hit hN44 rfl) rfl rfl (g_false (j := 9) (dj := 57) (b := true) rfl rfl rfl (ev_hit hN44 rfl) rfl rfl (g_true (j := 6) (dj := 54) (b := false) rfl rfl rfl (ev_hit hN44 rfl) (op_pick_f (ev_hit hN44 rfl) rfl ?_)))))
        refine op_pick_f (ev_hit hN44 rfl) (ev_hit hN44 rfl) ?_
        refine reg_nil (hK65 _ _ ?_)
        refine wp_cond_false (ev_hit hN44 rfl) (wp_skip (hK63 _ _ (one_reg (op_move (ev_base hN44 rfl s44_4) (op_move (ev_hit hN44 rfl) (op_add (r := (((sumk (LV12.getD i []) k) + (LV12.getD i []).getD k 0 : Nat) : Int)) (ev_hit hN44 rfl) (ev_hit hN44 rfl) (by rw [hnk]; exact (add64 (by omega)).trans (by omega)) ?_))))))
        refine op_add (r := (((sumk (LV12.getD i []) k) + (LV12.getD i []).getD k 0 + 1 : Nat) : Int)) (ev_hit hN44 rfl) rfl ((add64 (by omega)).trans (by omega)) ?_
        refine op_assign (ev_hit hN44 rfl) (reg_nil (hK53 _ _ (one_reg (op_move (ev_base hN44 rfl s44_6) (op_add (ev_hit hN44 rfl) rfl (add64 (by omega)) ?_)))))
        refine op_assign (ev_hit hN44 rfl) (reg_nil ?_)
        -- round 15F 22T 31F 38T 49F 52F 56F
        exact loop_next _ hN44 hd44 ⟨(k + 1), rfl, (sl_base hN44 rfl s44_0), (sl_base hN44 rfl s44_3), (sl_base hN44 rfl s44_5), (sl_hit hN44 rfl).trans (congrArg (Value.int .i64) (by omega)), (sl_hit hN44 rfl).trans (congrArg (Value.int .i64) (by rw [sumk_suc (by omega)]; omega)), (by omega), hb, (by omega), hT, hO12, hA12⟩ (by omega)
    ·
     refine reg_nil (hK46 _ _ (wp_cond_false (ev_hit hN44 rfl) (wp_exit (then_exit (then_exit (blk_hit ?_))))))
     refine hK34 _ _ (one_reg (op_move (ev_base hN44 rfl s44_5) (op_add (ev_hit hN44 rfl) rfl (add64 (by omega)) ?_)))
     refine op_assign (ev_hit hN44 rfl) (reg_nil ?_)
     -- round 15F 22T 31F 38F
     exact loop_next _ hN44 hd44 ⟨(i + 1), rfl, (sl_base hN44 rfl s44_0), (sl_base hN44 rfl s44_3), (sl_hit hN44 rfl).trans (congrArg (Value.int .i64) (by omega)), (sl_base hN44 rfl s44_4).trans (congrArg (Value.int .i64) (by rw [show k = (LV12.getD i []).length by omega, sumk_all]; rfl)), (by omega), hb, (by omega), hT, hO12, hA12⟩ (by omega)
  ·
   refine reg_nil (hK32 _ _ (wp_cond_false (ev_hit hN27 rfl) (wp_exit (then_exit (then_exit (blk_hit ?_))))))
   refine hK24 _ _ (seq_any fun K66 hK66 => one_reg (op_assign rfl ?_))
   refine reg_nil (hK66 _ _ (seq_any fun K67 hK67 => seq_any fun K69 hK69 => one_reg (op_move (ev_base hN27 rfl s27_3) (op_len_rd Try.underlying28 (ev_hit hN27 rfl) hO12.rdw ?_))))
   refine op_eql (ev_hit hN27 rfl) rfl (fun c68 => ?_) (fun c68 => ?_)
   ·
    exfalso; omega
   ·
    refine reg_nil (hK69 _ _ (wp_cond_false (ev_hit hN27 rfl) (wp_skip (hK67 _ _ (seq_any fun K70 hK70 => one_reg ?_)))))
    have hLat := lev_at hlev12 (LL12.length - 1)
    have hsum := hLK12.sum
    rw [← hLn12] at hsum
    have hLl : (LL12.getD (LL12.length - 1) default).2.length = (LV12.getD (LL12.length - 1) []).length := by rw [hLat]; simp
    have hrl := row_len hLK12 (i := LL12.length - 1) (by omega) (by omega)
    refine op_move (ev_base hN27 rfl s27_3) (op_move (ev_base hN27 rfl s27_3) (op_len_rd Try.underlying28 (ev_hit hN27 rfl) hO12.rdw ?_))
    refine op_sub (r := ((LL12.length - 1 : Nat) : Int)) (ev_hit hN27 rfl) rfl ((sub64 (by omega)).trans (by omega)) ?_
    refine op_index_rd slt28 (ev_hit hN27 rfl) hO12.rdw (ev_hit hN27 rfl) (by omega) (by omega) ?_
    intro b71 o72 h0b71 h1b71 hc73
    have hs74 : Own w27 w.heap.size 3 1 (LL12.getD (LL12.length - 1) default).1 (LL12.getD (LL12.length - 1) default).2.length ((LL12.getD (LL12.length - 1) default).2.map (Value.int .i64)) := hA12 _ (getD_mem (by omega))
    refine op_load1 (v := (LL12.getD (LL12.length - 1) default).1) one30 (ev_hit hN27 rfl) (by have := hc73 0 (LL12.getD (LL12.length - 1) default).1 (by decide) (el_ll (i := (LL12.length - 1)) (d := default) (by omega) (by omega)); simpa using this) (op_assign (ev_hit hN27 rfl) (reg_nil (hK70 _ _ ?_)))
    refine seq_any fun K75 hK75 => seq_any fun K76 hK76 => one_reg (op_assign rfl (reg_nil (hK76 _ _ (wp_block ?_))))
    refine loop_m (fun mz_ az_ w' => ∃ (i : Nat), mz_ = (LV12.getD (LL12.length - 1) []).length - i ∧ (az_.tmps.getD 0 undef = (ptr p 0)) ∧ (az_.tmps.getD 9 undef = (LL12.getD (LL12.length - 1) default).1) ∧ (az_.tmps.getD 10 undef = (Value.int .i64 ((i : Nat) : Int))) ∧ (az_.tmps.getD 8 undef = (Value.int .i64 (((((LV12.getD (LL12.length - 1) []).take i).sum) : Nat) : Int))) ∧ (i ≤ (LV12.getD (LL12.length - 1) []).length) ∧ (Below w.heap.size w w') ∧ (w27.heap.size ≤ w'.heap.size) ∧ (TopL kI 71 base w' p M F) ∧ (Own w' w.heap.size 30 1 v12 LL12.length (LL12.flatMap (fun x9 => [x9.1]))) ∧ (∀ x9 ∈ LL12, Own w' w.heap.size 3 1 x9.1 x9.2.length (x9.2.map (Value.int .i64))) ∧ (Own w' w.heap.size 3 1 (LL12.getD (LL12.length - 1) default).1 (LL12.getD (LL12.length - 1) default).2.length ((LL12.getD (LL12.length - 1) default).2.map (Value.int .i64)))) _ hN27 hd27 ⟨0, rfl, (sl_base hN27 rfl s27_0), (sl_hit hN27 rfl), (sl_hit hN27 rfl), (sl_hit hN27 rfl), (Nat.zero_le _), hb, (Nat.le_refl _), hT, hO12, hA12, hs74⟩ ?_
    rintro _ a77 w77 hN77 hd77 ⟨i, rfl, s77_0, s77_9, s77_10, s77_8, hi, hb, zl_w77, hT, hO12, hA12, hs74⟩
    have z_w77 := hb.size
    refine seq_any fun K79 hK79 => seq_any fun K80 hK80 => one_reg (op_move (ev_base hN77 rfl s77_10) (op_move (ev_base hN77 rfl s77_9) (op_len_rd Try.underlying30 (ev_hit hN77 rfl) hs74.rdw ?_)))
    refine op_lss (ev_hit hN77 rfl) (ev_hit hN77 rfl) (fun c78 => ?_) (fun c78 => ?_)
    ·
     refine reg_nil (hK80 _ _ (wp_cond_true (ev_hit hN77 rfl) (wp_skip (hK79 _ _ (seq_any fun K81 hK81 => wp_block ?_)))))
     refine one_reg (op_move (ev_base hN77 rfl s77_8) (op_move (ev_base hN77 rfl s77_9) (op_move (ev_base hN77 rfl s77_10) (op_index_rd slt30 (ev_hit hN77 rfl) hs74.rdw (ev_hit hN77 rfl) (by omega) (by omega) ?_))))
     intro b82 o83 h0b82 h1b82 hc84
     refine op_load1 (v := (Value.int .i64 ((LL12.getD (LL12.length - 1) default).2.getD i 0))) one3 (ev_hit hN77 rfl) (by have := hc84 0 (Value.int .i64 ((LL12.getD (LL12.length - 1) default).2.getD i 0)) (by decide) (el_i64 (i := i) (by omega) (by omega)); simpa using this) (op_add (r := ((((LV12.getD (LL12.length - 1) []).take i).sum + (LV12.getD (LL12.length - 1) []).getD i 0 : Nat) : Int)) (ev_hit hN77 rfl) (ev_hit hN77 rfl) (by rw [hLat, ints_at]; have q1 := sum_take9 (L := (LV12.getD (LL12.length - 1) [])) (i := i) (by omega); have q2 := sum_le9 (L := (LV12.getD (LL12.length - 1) [])) (i := i + 1); exact (add64 (by omega)).trans (by omega)) ?_)
     refine op_assign (ev_hit hN77 rfl) (reg_nil (hK81 _ _ (one_reg (op_move (ev_base hN77 rfl s77_10) (op_add (ev_hit hN77 rfl) rfl (add64 (by omega)) ?_)))))
     refine op_assign (ev_hit hN77 rfl) (reg_nil ?_)
     -- round 15F 22F 68F 78T
     exact loop_next _ hN77 hd77 ⟨(i + 1), rfl, (sl_base hN77 rfl s77_0), (sl_base hN77 rfl s77_9), (sl_hit hN77 rfl).trans (congrArg (Value.int .i64) (by omega)), (sl_hit hN77 rfl).trans (congrArg (Value.int .i64) (by rw [sum_take9 (by omega)])), (by omega), hb, (by omega), hT, hO12, hA12, hs74⟩ (by omega)
    ·
     refine reg_nil (hK80 _ _ (wp_cond_false (ev_hit hN77 rfl) (wp_exit (then_exit (then_exit (blk_hit ?_))))))
     refine hK75 _ _ (seq_any fun K85 hK85 => one_reg (op_move (ev_base hN77 rfl s77_8) (op_move (ev_base hN77 rfl s77_0) (op_fn (vs := [(ptr p 0)]) ok25 ⟨(ev_hit hN77 rfl), trivial⟩ (lenLsI hT hDM) ?_))))
     rintro _ w86 ⟨E87, rfl⟩
     have E87 := grown_of_below E87
     have z_w86 := E87.size
     have hb := below_step0 hb E87 hb.size
     refine op_eql (ev_hit hN77 rfl) (ev_hit hN77 rfl) (fun c90 => ?_) (fun c90 => ?_)
     ·
      refine op_assign (ev_hit hN77 rfl) (reg_nil (hK85 _ _ (wp_ret ?_)))
      refine ret1 rfl hd77 (ev_hit hN77 rfl) ⟨_, rfl, ?_⟩
      exact ⟨hb, rfl⟩
     ·
      exfalso; rw [← hsum, show i = (LV12.getD (LL12.length - 1) []).length by omega, List.take_of_length_le (Nat.le_refl _)] at c90; omega
theorem pairsScan0 {M : List (Ky × Int)} {F : Nat → Prop} {kv vv xv : Value} {p q base B0 : Nat} {x : List UInt8} {m : Int} {w : World} (hT : TopL kI 71 base w q M F) (hp : Bx w p 58 [kv, vv]) (ok : Own w B0 9 1 kv (M.map Prod.fst).length ((M.map Prod.fst).map sv)) (ov : Own w B0 3 1 vv (M.map Prod.snd).length ((M.map Prod.snd).map (Value.int .i64))) (hs : SortedL M) (hDM : M.length ≤ 10000) (hkl : ∀ r ∈ M, r.1.length ≤ 1000000000) (hxr : RdC w 0 w.heap.size 1 xv x.length (x.map u8v)) (hxl : x.length ≤ 1000000000) (hm : m ≤ 9223372036854775807) : Ret Try.prog 32 #[(ptr p 0), (ptr q 0), xv, (Value.int .i64 m)] w (fun v' w' => Below w.heap.size w w' ∧ v' = .bool true) := by
 have hMl : (M.map Prod.fst).length = M.length := List.length_map ..
 have hMl2 : (M.map Prod.snd).length = M.length := List.length_map ..
 have hpl : (pos (M.map Prod.fst) x) ≤ M.length := by have := pos_le (M.map Prod.fst) x; simpa using this
 have hb := Below.refl w.heap.size w
 refine enter (N := 98) Try.func32 rfl rfl (by simp) fun a0 hN hd hA => ?_
 have s0 : a0.tmps.getD 0 undef = (ptr p 0) := hA 0 (by simp)
 have s1 : a0.tmps.getD 1 undef = (ptr q 0) := hA 1 (by simp)
 have s2 : a0.tmps.getD 2 undef = xv := hA 2 (by simp)
 have s3 : a0.tmps.getD 3 undef = (Value.int .i64 m) := hA 3 (by simp)
 clear hA
 refine seq_any fun K4 hK4 => one_reg (op_assign rfl (reg_nil ?_))
 refine hK4 _ _ (seq_any fun K6 hK6 => one_reg (op_move (ev_base hN rfl s1) (op_move (ev_base hN rfl s2) (op_move (ev_base hN rfl s3) (op_fn (vs := [(ptr q 0), xv, (Value.int .i64 m)]) ok24 ⟨(ev_hit hN rfl), ⟨(ev_hit hN rfl), ⟨(ev_hit hN rfl), trivial⟩⟩⟩ (scanLsI (m := m) (x := x) hT hkl (hxr.mono (Nat.zero_le _) (by omega)) (by omega) (by omega)) ?_)))))
 rintro v7 w11 ⟨E15, D7, hO7, hks7, hE7, hpw7⟩
 have E15 := grown_of_below E15
 have z_w11 := E15.size
 have hp := hp.keep0 E15
 have ok := ok.keep0 E15
 have ov := ov.keep0 E15
 have hxr := hxr.keep0 E15
 have hb := below_step0 hb E15 hb.size
 have hO7 := hO7.mono (base' := w.heap.size) (by omega)
 have hks7 : ∀ x9 ∈ (D7.map pk), Own w11 w.heap.size 5 1 x9.1 x9.2.length (x9.2.map u8v) := fun x9 h9 => (hks7 x9 h9).mono (by omega)
 refine op_assign (ev_hit hN rfl) (reg_nil (hK6 _ _ (seq_any fun K16 hK16 => one_reg ?_)))
 obtain ⟨hE2, hDl⟩ := scan_len hs hE7
 have hE2 : D7.map Prod.snd = (M.drop (pos (M.map Prod.fst) x)).take m.toNat := hE2
 have hDl : D7.length = min m.toNat (M.length - (pos (M.map Prod.fst) x)) := hDl
 refine op_move (ev_base hN rfl s0) (op_move (ev_base hN rfl s2) (op_str_of (bl := x) Try.underlying27 Try.underlying5 Try.underlying9 (ev_hit hN rfl) hxr ?_))
 refine op_fn (vs := [(ptr p 0), (Value.string (bs x))]) ok31 ⟨(ev_hit hN rfl), ⟨(ev_hit hN rfl), trivial⟩⟩ (pairsAt (k := x) hp ok ov (show Sorted (ks1 M) from hs) (by omega) (by omega) (fun q hq => by obtain ⟨r, hr, rfl⟩ := List.mem_map.1 hq; exact hkl r hr) hxl) ?_
 rintro _ w17 ⟨E18, rfl⟩
 have E18 := grown_of_below E18
 have z_w17 := E18.size
 have hp := hp.keep0 E18
 have ok := ok.keep0 E18
 have ov := ov.keep0 E18
 have hO7 := hO7.keep0 E18
 have hks7 := all9 hks7 fun _ h => h.keep0 E18
 have hb := below_step0 hb E18 hb.size
 refine op_move (ev_hit hN rfl) (op_extract (ev_hit hN rfl) rfl ?_)
 refine op_extract (ev_hit hN rfl) rfl ?_
 refine op_assign (ev_hit hN rfl) (op_assign (ev_hit hN rfl) (reg_nil (hK16 _ _ (seq_any fun K19 hK19 => one_reg ?_))))
 skip
 refine op_move (ev_base hN rfl s3) (op_max (r := ((m.toNat : Nat) : Int)) (ev_hit hN rfl) rfl (by split <;> omega) ?_)
 refine op_move (ev_base hN rfl s0) (op_nil (ev_hit hN rfl) (op_field fld58_0 (ev_hit hN rfl) (op_load1 (v := kv) one56 (ev_hit hN rfl) (hp.cell rfl) (op_len_rd Try.underlying56 (ev_hit hN rfl) ok.rdw ?_))))
 refine op_move (ev_hit hN rfl) (op_sub (r := ((M.length - (pos (M.map Prod.fst) x) : Nat) : Int)) (ev_hit hN rfl) (ev_hit hN rfl) ((sub64 (by omega)).trans (by omega)) ?_)
 refine op_min (r := ((D7.length : Nat) : Int)) (ev_hit hN rfl) (ev_hit hN rfl) (by rw [hDl]; split <;> omega) ?_
 refine op_assign (ev_hit hN rfl) ?_
 refine reg_nil (hK19 _ _ (seq_any fun K20 hK20 => seq_any fun K21 hK21 => one_reg (op_move (ev_hit hN rfl) (op_len_rd Try.underlying48 (ev_hit hN rfl) hO7.rdw ?_))))
 refine op_move (ev_hit hN rfl) (op_neq (ev_hit hN rfl) (ev_hit hN rfl) (fun c39 => ?_) (fun c39 => ?_))
 ·
  exfalso; omega
 ·
  refine reg_nil (hK21 _ _ (wp_cond_false (ev_hit hN rfl) (wp_skip (hK20 _ _ ?_))))
  refine seq_any fun K22 hK22 => seq_any fun K23 hK23 => one_reg (op_assign rfl (reg_nil (hK23 _ _ (wp_block ?_))))
  refine loop_m (fun mz_ az_ w' => ∃ (k : Nat), mz_ = D7.length - k ∧ (az_.tmps.getD 0 undef = (ptr p 0)) ∧ (az_.tmps.getD 9 undef = v7) ∧ (az_.tmps.getD 10 undef = (Value.int .i64 (((pos (M.map Prod.fst) x) : Nat) : Int))) ∧ (az_.tmps.getD 12 undef = (Value.int .i64 ((D7.length : Nat) : Int))) ∧ (az_.tmps.getD 13 undef = (Value.int .i64 ((k : Nat) : Int))) ∧ (k ≤ D7.length) ∧ (Below w.heap.size w w') ∧ (w17.heap.size ≤ w'.heap.size) ∧ (Bx w' p 58 [kv, vv]) ∧ (Own w' B0 9 1 kv (M.map Prod.fst).length ((M.map Prod.fst).map sv)) ∧ (Own w' B0 3 1 vv (M.map Prod.snd).length ((M.map Prod.snd).map (Value.int .i64))) ∧ (Own w' w.heap.size 51 2 v7 D7.length (D7.flatMap cI)) ∧ (∀ x9 ∈ ((D7.drop k).map pk), Own w' w.heap.size 5 1 x9.1 x9.2.length (x9.2.map u8v))) _ hN hd ⟨0, rfl, (sl_base hN rfl s0), (sl_hit hN rfl), (sl_hit hN rfl), (sl_hit hN rfl), (sl_hit hN rfl), (Nat.zero_le _), hb, (Nat.le_refl _), hp, ok, ov, hO7, (by simpa using hks7)⟩ ?_
  rintro _ a25 w25 hN25 hd25 ⟨k, rfl, s25_0, s25_9, s25_10, s25_12, s25_13, hk, hb, zl_w25, hp, ok, ov, hO7, hkk⟩
  have z_w25 := hb.size
  refine seq_any fun K26 hK26 => seq_any fun K28 hK28 => ?_
  refine one_reg (op_move (ev_base hN25 rfl s25_13) (op_move (ev_base hN25 rfl s25_12) (op_lss (ev_hit hN25 rfl) (ev_hit hN25 rfl) (fun c42 => ?_) (fun c42 => ?_))))
  ·
   refine reg_nil (hK28 _ _ (wp_cond_true (ev_hit hN25 rfl) (wp_skip (hK26 _ _ (seq_any fun K29 hK29 => wp_block ?_)))))
   refine seq_any fun K32 hK32 => seq_any fun K33 hK33 => ?_
   have hkey : Own w25 w.heap.size 5 1 (D7.getD k default).1 (D7.getD k default).2.1.length ((D7.getD k default).2.1.map u8v) := hkk _ (drop_mem (by omega))
   have hkk2 : ∀ x9 ∈ ((D7.drop (k + 1)).map pk), Own w25 w.heap.size 5 1 x9.1 x9.2.length (x9.2.map u8v) := fun x9 h9 => hkk x9 (drop_more h9)
   have djk := pw_drop (k := k) hpw7 (by omega)
   obtain ⟨hat, hil⟩ := scan_at (k := k) hE2 (by omega)
   have heq : (D7.getD k default).2.1 = (M.map Prod.fst).getD ((pos (M.map Prod.fst) x) + k) [] := by rw [getD_map9 (d := default) hil, hat]
   have hev : (D7.getD k default).2.2 = (M.map Prod.snd).getD ((pos (M.map Prod.fst) x) + k) 0 := by rw [getD_map9 (d := default) hil, hat]
   have hkl9 : (D7.getD k default).2.1.length ≤ 1000000000 := by rw [hat]; exact hkl _ (getD_mem9 hil)
   refine reg_split (hd := [_, _, _, _, _, _, _, _, _, _, _, _, _, _, _]) (tl := _) 15 mixed (by kernel_rfl) rfl rfl ?_
   refine any_quiet (Φ := phiL [(fun uz _ => uz = v7), (fun uz _ => uz = (Value.int .i64 ((k : Nat) : Int))), (fun uz w' => ∃ (b34 : (Nat)) (o35 : (Nat)), uz = (ptr b34 o35) ∧ PtC w' b34 (b34 + 1) b34 o35 [(D7.getD k default).1, (Value.int .i64 (D7.getD k default).2.2)]), (fun uz w' => ∃ (y34 : (Nat)) (y35 : (Nat)), uz = (ptr y34 (y35 + 0)) ∧ PtC w' y34 (y34 + 1) y34 y35 [(D7.getD k default).1, (Value.int .i64 (D7.getD k default).2.2)]), (fun uz _ => uz = (D7.getD k default).1), (fun uz _ => uz = (Value.string (bs (D7.getD k default).2.1))), (fun uz _ => uz = (ptr p 0)), (fun uz _ => uz = (ptr p 0)), (fun uz _ => uz = (ptr p 0)), (fun uz _ => uz = kv), (fun uz _ => uz = (Value.int .i64 (((pos (M.map Prod.fst) x) : Nat) : Int))), (fun uz _ => uz = (Value.int .i64 ((k : Nat) : Int))), (fun uz _ => uz = (Value.int .i64 (((pos (M.map Prod.fst) x) + k : Nat) : Int))), (fun uz w' => ∃ (b38 : (Nat)) (o40 : (Nat)), uz = (ptr b38 o40) ∧ PtC w' b38 (b38 + 1) b38 o40 [(Value.string (bs ((M.map Prod.fst).getD ((pos (M.map Prod.fst) x) + k) [])))]), (fun uz _ => uz = (Value.string (bs ((M.map Prod.fst).getD ((pos (M.map Prod.fst) x) + k) []))))]) (by kernel_rfl) (by kernel_rfl) (by kernel_rfl) hN25 (StL.get (StL.eq (StL.eq (StL.cons (fun u w1 w2 E h => by obtain ⟨x0, x1, hv, f0⟩ := h; exact ⟨x0, x1, hv, f0.keep0 E⟩) (StL.cons (fun u w1 w2 E h => by obtain ⟨x0, x1, hv, f0⟩ := h; exact ⟨x0, x1, hv, f0.keep0 E⟩) (StL.eq (StL.eq (StL.eq (StL.eq (StL.eq (StL.eq (StL.eq (StL.eq (StL.eq (StL.cons (fun u w1 w2 E h => by obtain ⟨x0, x1, hv, f0⟩ := h; exact ⟨x0, x1, hv, f0.keep0 E⟩) (StL.eq (StL.nil _))))))))))))))))) (ObL.get (s := 15) (ObL.cons ?_ (ObL.cons ?_ (ObL.cons ?_ (ObL.cons ?_ (ObL.cons ?_ (ObL.cons ?_ (ObL.cons ?_ (ObL.cons ?_ (ObL.cons ?_ (ObL.cons ?_ (ObL.cons ?_ (ObL.cons ?_ (ObL.cons ?_ (ObL.cons ?_ (ObL.cons ?_ (ObL.nil)))))))))))))))) rfl) ?_
   ·
    intro aA wA hNA hRA hbsA hdpA
    have qA_9 := (hbsA 9 rfl).trans (sl_base hN25 rfl s25_9)
    refine op_move (ev_base hNA rfl qA_9) ?_
    exact obN_end rfl rfl (grown_refl _ _)
   ·
    intro aA wA hNA hRA hbsA hdpA
    have qA_13 := (hbsA 13 rfl).trans (sl_base hN25 rfl s25_13)
    refine op_move (ev_base hNA rfl qA_13) ?_
    exact obN_end rfl rfl (grown_refl _ _)
   ·
    intro aA wA hNA hRA hbsA hdpA
    have hRA : w25.grownBy wA none := hRA
    have z_wA := hRA.size
    have hO7 := hO7.keep0 hRA
    have qA_45 : Sl aA 45 v7 := hdpA 0 _ 45 (by kernel_rfl) rfl rfl
    have qA_46 : Sl aA 46 (Value.int .i64 ((k : Nat) : Int)) := hdpA 1 _ 46 (by kernel_rfl) rfl rfl
    clear hbsA hdpA
    refine op_index_rd slt48 (ev_base hNA rfl qA_45) hO7.rdw (ev_base hNA rfl qA_46) (by omega) (by omega) ?_
    intro b37 o38 h0b37 h1b37 hc40
    have hp41 : PtC wA b37 (b37 + 1) b37 o38 [(D7.getD k default).1, (Value.int .i64 (D7.getD k default).2.2)] := ⟨by omega, by omega, fun j u hu => hc40 j u (by have := (List.getElem?_eq_some_iff.1 hu).1; simpa using this) ((el_pI (i := k) (by omega) (by first | omega | (simp only [List.length_drop, List.length_take]; omega))) j u hu)⟩
    exact obN_end rfl ⟨b37, o38, rfl, hp41⟩ (grown_refl _ _)
   ·
    intro aA wA hNA hRA hbsA hdpA
    obtain ⟨b34, o35, qA_47, hp37⟩ := hdpA 2 _ 47 (by kernel_rfl) rfl rfl
    have hp37 : PtC wA b34 (b34 + 1) b34 o35 [(D7.getD k default).1, (Value.int .i64 (D7.getD k default).2.2)] := hp37
    refine op_field fld51_0 (ev_base hNA rfl qA_47) ?_
    exact obN_end rfl ⟨b34, o35, rfl, hp37⟩ (grown_refl _ _)
   ·
    intro aA wA hNA hRA hbsA hdpA
    have hRA : w25.grownBy wA none := hRA
    have z_wA := hRA.size
    obtain ⟨y34, y35, qA_48, hy36⟩ := hdpA 3 _ 48 (by kernel_rfl) rfl rfl
    have hy36 : PtC wA y34 (y34 + 1) y34 y35 [(D7.getD k default).1, (Value.int .i64 (D7.getD k default).2.2)] := hy36
    clear hbsA hdpA
    refine op_load1 (v := (D7.getD k default).1) one27 (ev_base hNA rfl qA_48) (hy36.2.2 0 _ rfl) ?_
    exact obN_end rfl rfl (grown_refl _ _)
   ·
    intro aA wA hNA hRA hbsA hdpA
    have hRA : w25.grownBy wA none := hRA
    have z_wA := hRA.size
    have hkey := hkey.keep0 hRA
    have qA_49 : Sl aA 49 (D7.getD k default).1 := hdpA 4 _ 49 (by kernel_rfl) rfl rfl
    clear hbsA hdpA
    refine op_str_of (bl := (D7.getD k default).2.1) Try.underlying27 Try.underlying5 Try.underlying9 (ev_base hNA rfl qA_49) hkey.rdw ?_
    exact obN_end rfl rfl (grown_refl _ _)
   ·
    intro aA wA hNA hRA hbsA hdpA
    have qA_0 := (hbsA 0 rfl).trans (sl_base hN25 rfl s25_0)
    refine op_move (ev_base hNA rfl qA_0) ?_
    exact obN_end rfl rfl (grown_refl _ _)
   ·
    intro aA wA hNA hRA hbsA hdpA
    have qA_51 : Sl aA 51 (ptr p 0) := hdpA 6 _ 51 (by kernel_rfl) rfl rfl
    refine op_nil (ev_base hNA rfl qA_51) ?_
    exact obN_end rfl rfl (grown_refl _ _)
   ·
    intro aA wA hNA hRA hbsA hdpA
    have qA_52 : Sl aA 52 (ptr p 0) := hdpA 7 _ 52 (by kernel_rfl) rfl rfl
    refine op_field fld58_0 (ev_base hNA rfl qA_52) ?_
    exact obN_end rfl rfl (grown_refl _ _)
   ·
    intro aA wA hNA hRA hbsA hdpA
    have hRA : w25.grownBy wA none := hRA
    have z_wA := hRA.size
    have hp := hp.keep0 hRA
    have qA_53 : Sl aA 53 (ptr p 0) := hdpA 8 _ 53 (by kernel_rfl) rfl rfl
    clear hbsA hdpA
    refine op_load1 (v := kv) one56 (ev_base hNA rfl qA_53) (hp.cell rfl) ?_
    exact obN_end rfl rfl (grown_refl _ _)
   ·
    intro aA wA hNA hRA hbsA hdpA
    have qA_10 := (hbsA 10 rfl).trans (sl_base hN25 rfl s25_10)
    refine op_move (ev_base hNA rfl qA_10) ?_
    exact obN_end rfl rfl (grown_refl _ _)
   ·
    intro aA wA hNA hRA hbsA hdpA
    have qA_13 := (hbsA 13 rfl).trans (sl_base hN25 rfl s25_13)
    refine op_move (ev_base hNA rfl qA_13) ?_
    exact obN_end rfl rfl (grown_refl _ _)
   ·
    intro aA wA hNA hRA hbsA hdpA
    have qA_55 : Sl aA 55 (Value.int .i64 (((pos (M.map Prod.fst) x) : Nat) : Int)) := hdpA 10 _ 55 (by kernel_rfl) rfl rfl
    have qA_56 : Sl aA 56 (Value.int .i64 ((k : Nat) : Int)) := hdpA 11 _ 56 (by kernel_rfl) rfl rfl
    refine op_add (r := (((pos (M.map Prod.fst) x) + k : Nat) : Int)) (ev_base hNA rfl qA_55) (ev_base hNA rfl qA_56) ((add64 (by omega)).trans (by omega)) ?_
    exact obN_end rfl rfl (grown_refl _ _)
   ·
    intro aA wA hNA hRA hbsA hdpA
    have hRA : w25.grownBy wA none := hRA
    have z_wA := hRA.size
    have ok := ok.keep0 hRA
    have qA_54 : Sl aA 54 kv := hdpA 9 _ 54 (by kernel_rfl) rfl rfl
    have qA_57 : Sl aA 57 (Value.int .i64 (((pos (M.map Prod.fst) x) + k : Nat) : Int)) := hdpA 12 _ 57 (by kernel_rfl) rfl rfl
    clear hbsA hdpA
    refine op_index_rd slt56 (ev_base hNA rfl qA_54) ok.rdw (ev_base hNA rfl qA_57) (by omega) (by omega) ?_
    intro b43 o44 h0b43 h1b43 hc61
    have hp62 : PtC wA b43 (b43 + 1) b43 o44 [(Value.string (bs ((M.map Prod.fst).getD ((pos (M.map Prod.fst) x) + k) [])))] := ⟨by omega, by omega, fun j u hu => hc61 j u (by have := (List.getElem?_eq_some_iff.1 hu).1; simpa using this) ((fun j u hu => one_at (el_sv (i := ((pos (M.map Prod.fst) x) + k)) (by omega) (by omega)) hu) j u hu)⟩
    exact obN_end rfl ⟨b43, o44, rfl, hp62⟩ (grown_refl _ _)
   ·
    intro aA wA hNA hRA hbsA hdpA
    have hRA : w25.grownBy wA none := hRA
    have z_wA := hRA.size
    obtain ⟨b38, o40, qA_58, hp43⟩ := hdpA 13 _ 58 (by kernel_rfl) rfl rfl
    have hp43 : PtC wA b38 (b38 + 1) b38 o40 [(Value.string (bs ((M.map Prod.fst).getD ((pos (M.map Prod.fst) x) + k) [])))] := hp43
    clear hbsA hdpA
    refine op_load1 (v := (Value.string (bs ((M.map Prod.fst).getD ((pos (M.map Prod.fst) x) + k) [])))) one9 (ev_base hNA rfl qA_58) (hp43.2.2 0 _ rfl) ?_
    exact obN_end rfl rfl (grown_refl _ _)
   ·
    intro a63 w63 hN63 hd63 hbs63 hph63 E63
    have hd63 := hd63.trans hd25
    have s63_0 := (hbs63 0 rfl).trans (sl_base hN25 rfl s25_0)
    have s63_9 := (hbs63 9 rfl).trans (sl_base hN25 rfl s25_9)
    have s63_10 := (hbs63 10 rfl).trans (sl_base hN25 rfl s25_10)
    have s63_12 := (hbs63 12 rfl).trans (sl_base hN25 rfl s25_12)
    have s63_13 := (hbs63 13 rfl).trans (sl_base hN25 rfl s25_13)
    have s63_50 : Sl a63 50 (Value.string (bs (D7.getD k default).2.1)) := hph63 5 _ 50 rfl rfl
    have s63_59 : Sl a63 59 (Value.string (bs ((M.map Prod.fst).getD ((pos (M.map Prod.fst) x) + k) []))) := hph63 14 _ 59 rfl rfl
    clear hbs63 hph63
    have E63 : w25.grownBy w63 none := E63
    have z_w63 := E63.size
    have hp := hp.keep0 E63
    have ok := ok.keep0 E63
    have ov := ov.keep0 E63
    have hO7 := hO7.keep0 E63
    have hkey := hkey.keep0 E63
    have hkk2 := all9 hkk2 fun _ h => h.keep0 E63
    have hb := below_step0 hb E63 hb.size
    refine split_end ?_
    refine from_still (m := 33) 18 (hd := [_, _, _, _, _, _, _, _, _, _, _, _, _, _, _, _, _, _]) (by kernel_rfl) rfl rfl ?_
    by_cases g60 : (D7.getD k default).2.1 ≠ ((M.map Prod.fst).getD ((pos (M.map Prod.fst) x) + k) [])
    ·
     exact absurd heq g60
    ·
     refine st_step rfl (fun _ h9 => op_sneqb (b := false) (ev_base hN63 rfl s63_50) (ev_base hN63 rfl s63_59) (decide_eq_false g60) h9) ?_
     refine st_step rfl (fun _ h9 => op_move (ev_hit hN63 rfl) h9) ?_
     refine st_g_true (j := 16) (dj := 61) (b := false) rfl rfl rfl (ev_hit hN63 rfl) ?_
     refine st_step rfl (fun _ h9 => op_move (ev_base hN63 rfl s63_9) h9) ?_
     refine st_g_true (j := 16) (dj := 61) (b := false) rfl rfl rfl (ev_hit hN63 rfl) ?_
     refine st_step rfl (fun _ h9 => op_move (ev_base hN63 rfl s63_13) h9) ?_
     refine st_g_true (j := 16) (dj := 61) (b := false) rfl rfl rfl (ev_hit hN63 rfl) ?_
     refine st_index_rd slt48 (ev_hit hN63 rfl) hO7.rdw (ev_hit hN63 rfl) (by omega) (by omega) ?_
     intro b65 o66 h0b65 h1b65 hc67
     refine st_g_true (j := 16) (dj := 61) (b := false) rfl rfl rfl (ev_hit hN63 rfl) ?_
     refine st_step rfl (fun _ h9 => op_field fld51_1 (ev_hit hN63 rfl) h9) ?_
     refine st_g_true (j := 16) (dj := 61) (b := false) rfl rfl rfl (ev_hit hN63 rfl) ?_
     refine st_step rfl (fun _ h9 => op_load1 (v := (Value.int .i64 (D7.getD k default).2.2)) one3 (ev_hit hN63 rfl) (hc67 1 ((Value.int .i64 (D7.getD k default).2.2)) (by decide) ((el_pI (i := k) (by omega) (by first | omega | (simp only [List.length_drop, List.length_take]; omega))) 1 ((Value.int .i64 (D7.getD k default).2.2)) rfl)) h9) ?_
     refine st_g_true (j := 16) (dj := 61) (b := false) rfl rfl rfl (ev_hit hN63 rfl) ?_
     refine st_step rfl (fun _ h9 => op_move (ev_base hN63 rfl s63_0) h9) ?_
     refine st_g_true (j := 16) (dj := 61) (b := false) rfl rfl rfl (ev_hit hN63 rfl) ?_
     refine st_step rfl (fun _ h9 => op_nil (ev_hit hN63 rfl) h9) ?_
     refine st_g_true (j := 16) (dj := 61) (b := false) rfl rfl rfl (ev_hit hN63 rfl) ?_
     refine st_step rfl (fun _ h9 => op_field fld58_1 (ev_hit hN63 rfl) h9) ?_
     refine st_g_true (j := 16) (dj := 61) (b := false) rfl rfl rfl (ev_hit hN63 rfl) ?_
     refine st_step rfl (fun _ h9 => op_load1 (v := vv) one30 (ev_hit hN63 rfl) (hp.cell rfl) h9) ?_
     refine st_g_true (j := 16) (dj := 61) (b := false) rfl rfl rfl (ev_hit hN63 rfl) ?_
     refine st_step rfl (fun _ h9 => op_move (ev_base hN63 rfl s63_10) h9) ?_
     refine st_g_true (j := 16) (dj := 61) (b := false) rfl rfl rfl (ev_hit hN63 rfl) ?_
     refine st_step rfl (fun _ h9 => op_move (ev_base hN63 rfl s63_13) h9) ?_
     refine st_g_true (j := 16) (dj := 61) (b := false) rfl rfl rfl (ev_hit hN63 rfl) ?_
     refine st_step rfl (fun _ h9 => op_add (r := (((pos (M.map Prod.fst) x) + k : Nat) : Int)) (ev_hit hN63 rfl) (ev_hit hN63 rfl) ((add64 (by omega)).trans (by omega)) h9) ?_
     refine st_g_true (j := 16) (dj := 61) (b := false) rfl rfl rfl (ev_hit hN63 rfl) ?_
     refine st_index_rd slt30 (ev_hit hN63 rfl) ov.rdw (ev_hit hN63 rfl) (by omega) (by omega) ?_
     intro b68 o69 h0b68 h1b68 hc70
     refine st_g_true (j := 16) (dj := 61) (b := false) rfl rfl rfl (ev_hit hN63 rfl) ?_
     refine st_step rfl (fun _ h9 => op_load1 (v := (Value.int .i64 ((M.map Prod.snd).getD ((pos (M.map Prod.fst) x) + k) 0))) one3 (ev_hit hN63 rfl) (by have := hc70 0 (Value.int .i64 ((M.map Prod.snd).getD ((pos (M.map Prod.fst) x) + k) 0)) (by decide) (el_i64 (i := ((pos (M.map Prod.fst) x) + k)) (by omega) (by omega)); simpa using this) h9) ?_
     refine st_g_true (j := 16) (dj := 61) (b := false) rfl rfl rfl (ev_hit hN63 rfl) ?_
     refine st_step rfl (fun _ h9 => op_cmp (b := (decide ((D7.getD k default).2.2 ≠ ((M.map Prod.snd).getD ((pos (M.map Prod.fst) x) + k) 0)))) (ev_hit hN63 rfl) (ev_hit hN63 rfl) (b_neq rfl) h9) ?_
     refine st_step rfl (fun _ h9 => op_pick_f (ev_hit hN63 rfl) (ev_hit hN63 rfl) h9) ?_
     refine st_nil ?_
     refine from_end ?_ rfl
     refine hK33 _ _ (wp_cond_split (ev_hit hN63 rfl) (fun c77 => ?_) (fun c77 => ?_))
     ·
      have c77 := of_decide_eq_true c77
      exact absurd hev c77
     ·
      have c77 := of_decide_eq_false c77
      refine wp_skip ?_
      refine hK32 _ _ (seq_any fun K71 hK71 => one_reg (op_assign rfl (reg_nil (hK71 _ _ (wp_block ?_)))))
      refine loop_m (fun mz_ az_ w' => ∃ (n9 : Nat) (L9 : List UInt8), mz_ = L9.length - n9 ∧ (az_.tmps.getD 0 undef = (ptr p 0)) ∧ (az_.tmps.getD 9 undef = v7) ∧ (az_.tmps.getD 10 undef = (Value.int .i64 (((pos (M.map Prod.fst) x) : Nat) : Int))) ∧ (az_.tmps.getD 12 undef = (Value.int .i64 ((D7.length : Nat) : Int))) ∧ (az_.tmps.getD 13 undef = (Value.int .i64 ((k : Nat) : Int))) ∧ (az_.tmps.getD 14 undef = (Value.int .i64 ((n9 : Nat) : Int))) ∧ (n9 ≤ L9.length) ∧ (L9.length = (D7.getD k default).2.1.length) ∧ (Below w.heap.size w w') ∧ (w63.heap.size ≤ w'.heap.size) ∧ (Bx w' p 58 [kv, vv]) ∧ (Own w' B0 9 1 kv (M.map Prod.fst).length ((M.map Prod.fst).map sv)) ∧ (Own w' B0 3 1 vv (M.map Prod.snd).length ((M.map Prod.snd).map (Value.int .i64))) ∧ (Own w' w.heap.size 51 2 v7 D7.length (D7.flatMap cI)) ∧ (∀ x9 ∈ ((D7.drop (k + 1)).map pk), Own w' w.heap.size 5 1 x9.1 x9.2.length (x9.2.map u8v)) ∧ (Own w' w.heap.size 5 1 (D7.getD k default).1 L9.length (L9.map u8v))) _ hN63 hd63 ⟨0, (D7.getD k default).2.1, rfl, (sl_base hN63 rfl s63_0), (sl_base hN63 rfl s63_9), (sl_base hN63 rfl s63_10), (sl_base hN63 rfl s63_12), (sl_base hN63 rfl s63_13), (sl_hit hN63 rfl), (Nat.zero_le _), rfl, hb, (Nat.le_refl _), hp, ok, ov, hO7, hkk2, hkey⟩ ?_
      rintro _ a72 w72 hN72 hd72 ⟨n9, L9, rfl, s72_0, s72_9, s72_10, s72_12, s72_13, s72_14, hn9, hL9, hb, zl_w72, hp, ok, ov, hO7, hkk2, hO73⟩
      have z_w72 := hb.size
      refine seq_any fun K74 hK74 => seq_any fun K75 hK75 => one_reg (op_move (ev_base hN72 rfl s72_14) (op_move (ev_base hN72 rfl s72_9) (op_move (ev_base hN72 rfl s72_13) (op_index_rd slt48 (ev_hit hN72 rfl) hO7.rdw (ev_hit hN72 rfl) (by omega) (by omega) ?_))))
      intro b76 o78 h0b76 h1b76 hc79
      refine op_field fld51_0 (ev_hit hN72 rfl) (op_load1 (v := (D7.getD k default).1) one27 (ev_hit hN72 rfl) (hc79 0 ((D7.getD k default).1) (by decide) ((el_pI (i := k) (by omega) (by first | omega | (simp only [List.length_drop, List.length_take]; omega))) 0 ((D7.getD k default).1) rfl)) (op_len_rd Try.underlying27 (ev_hit hN72 rfl) hO73.rdw ?_))
      refine op_lss (ev_hit hN72 rfl) (ev_hit hN72 rfl) (fun c85 => ?_) (fun c85 => ?_)
      ·
       refine reg_nil (hK75 _ _ (wp_cond_true (ev_hit hN72 rfl) (wp_skip (hK74 _ _ (seq_any fun K80 hK80 => wp_block ?_)))))
       refine one_reg (op_move (ev_base hN72 rfl s72_9) (op_move (ev_base hN72 rfl s72_13) (op_index_rd slt48 (ev_hit hN72 rfl) hO7.rdw (ev_hit hN72 rfl) (by omega) (by omega) ?_)))
       intro b81 o82 h0b81 h1b81 hc83
       refine op_field fld51_0 (ev_hit hN72 rfl) (op_load1 (v := (D7.getD k default).1) one27 (ev_hit hN72 rfl) (hc83 0 ((D7.getD k default).1) (by decide) ((el_pI (i := k) (by omega) (by first | omega | (simp only [List.length_drop, List.length_take]; omega))) 0 ((D7.getD k default).1) rfl)) (op_move (ev_base hN72 rfl s72_14) (op_index_rd slt27 (ev_hit hN72 rfl) hO73.rdw (ev_hit hN72 rfl) (by omega) (by omega) ?_)))
       intro b84 o86 h0b84 h1b84 hc87
       refine op_load1 (v := (Value.int .u8 ((L9.getD n9 0).toNat : Int))) one5 (ev_hit hN72 rfl) (by have := hc87 0 (Value.int .u8 ((L9.getD n9 0).toNat : Int)) (by decide) (el_u8 (i := n9) (by omega) (by omega)); simpa using this) (op_xor (r := ((L9.getD n9 0 ^^^ 1).toNat : Int)) (ev_hit hN72 rfl) rfl (xor1 _) ?_)
       refine op_index_own (i := n9) slt27 (ev_hit hN72 rfl) hO73 (ev_hit hN72 rfl) (by omega) (by omega) ?_
       intro b88 o89 lo_b88 hA90
       have hA90 : AtV (D7.getD k default).1 (n9) b88 o89 := by simpa using hA90
       have hP93 := hO73
       refine op_store_own (vs := [(Value.int .u8 ((L9.getD n9 0 ^^^ 1).toNat : Int))]) size5 (ev_hit hN72 rfl) (ev_hit hN72 rfl) rfl rfl rfl hP93 hA90 (by rw [hP93.1]; simp only [List.length_cons, List.length_nil]; omega) ?_
       intro w91 hO94 E92
       have z_w91 := E92.size
       have hp := hp.keepO hP93 E92 (by decide)
       have ok := ok.keepT hP93 E92 (by decide)
       have ov := ov.keepT hP93 E92 (by decide)
       have hO7 := hO7.keepT hP93 E92 (by decide)
       have hkk2 : ∀ x9 ∈ ((D7.drop (k + 1)).map pk), Own w91 w.heap.size 5 1 x9.1 x9.2.length (x9.2.map u8v) := fun x9 hx9 => (hkk2 x9 hx9).keepD E92 (djk x9 hx9)
       have hb := below_stepO hb hP93 E92 hb.size (by omega)
       have hO94 : Own w91 w.heap.size 5 1 (D7.getD k default).1 L9.length (((L9.set n9 (L9.getD n9 0 ^^^ 1))).map u8v) := by exact hO94.cast rfl (set_ints9 (f := u8v) (by omega))
       refine reg_nil (hK80 _ _ (one_reg (op_move (ev_base hN72 rfl s72_14) (op_add (ev_hit hN72 rfl) rfl (add64 (by omega)) ?_))))
       refine op_assign (ev_hit hN72 rfl) (reg_nil ?_)
       -- round 39F 42T 60F 77F 85T
       exact loop_next _ hN72 hd72 ⟨(n9 + 1), (L9.set n9 (L9.getD n9 0 ^^^ 1)), rfl, (sl_base hN72 rfl s72_0), (sl_base hN72 rfl s72_9), (sl_base hN72 rfl s72_10), (sl_base hN72 rfl s72_12), (sl_base hN72 rfl s72_13), (sl_hit hN72 rfl).trans (congrArg (Value.int .i64) (by omega)), (by rw [List.length_set]; omega), (by rw [List.length_set]; exact hL9), hb, (by omega), hp, ok, ov, hO7, hkk2, (hO94.cast (by rw [List.length_set]) rfl)⟩ (by rw [List.length_set]; omega)
      ·
       refine reg_nil (hK75 _ _ (wp_cond_false (ev_hit hN72 rfl) (wp_exit (then_exit (then_exit (blk_hit ?_))))))
       refine hK29 _ _ (one_reg (op_move (ev_base hN72 rfl s72_13) (op_add (ev_hit hN72 rfl) rfl (add64 (by omega)) ?_)))
       refine op_assign (ev_hit hN72 rfl) (reg_nil ?_)
       -- round 39F 42T 60F 77F 85F
       exact loop_next _ hN72 hd72 ⟨(k + 1), rfl, (sl_base hN72 rfl s72_0), (sl_base hN72 rfl s72_9), (sl_base hN72 rfl s72_10), (sl_base hN72 rfl s72_12), (sl_hit hN72 rfl).trans (congrArg (Value.int .i64) (by omega)), (by omega), hb, (by omega), hp, ok, ov, hO7, hkk2⟩ (by omega)
  ·
   refine reg_nil (hK28 _ _ (wp_cond_false (ev_hit hN25 rfl) (wp_exit (then_exit (then_exit (blk_hit ?_))))))
   refine hK22 _ _ (seq_any fun K95 hK95 => one_reg (op_assign rfl (reg_nil (hK95 _ _ (wp_ret ?_)))))
   refine ret1 rfl hd25 (ev_hit hN25 rfl) ⟨_, rfl, ?_⟩
   exact ⟨hb, rfl⟩
theorem putLsE {M M' : List (Ky × Int)} {k : List UInt8} {xv : Value} {x : Int} {c : Bool} {F : Nat → Prop} {p base L B : Nat} {w : World} (hT : TopL kI 71 base w p M F) (hb : base ≤ w.heap.size) (hk : RdC w L B 1 xv k.length (k.map u8v)) (hB : B ≤ w.heap.size) (hap : ∀ j, F j → j < L ∨ B ≤ j) (hkn : k.length ≤ 1000000000) (hM : putL k x M = M') (hc : (ks1 M).contains k = c) :
    Ret Try.prog 23 #[ptr p 0, xv, .int .i64 x] w (fun v' w' => Gr w w' F ∧ v' = .bool c ∧ ∃ F', TopL kI 71 base w' p M' F' ∧ NewF w.heap.size F F') := by
  subst hM; subst hc
  exact putLsI hT hb hk hB hap hkn
theorem getLsE {M : List (Ky × Int)} {F : Nat → Prop} {x : List UInt8} {xv : Value} {p base : Nat} {g : Int} {c : Bool} {w : World} (hT : TopL kI 71 base w p M F) (hkl : ∀ q ∈ M, q.1.length ≤ 1000000000) (hxr : RdC w 0 w.heap.size 1 xv x.length (x.map u8v)) (hDM : M.length ≤ 100000) (hg : (getL x M).getD 0 = g) (hc : (getL x M).isSome = c) : Ret Try.prog 30 #[ptr p 0, xv] w (fun v' w' => Below w.heap.size w w' ∧ v' = .tuple #[.int .i64 g, .bool c]) := by
  subst hg; subst hc
  exact getLsI hT hkl hxr hDM
theorem begun15 {w : World} : Ret Try.prog 11 #[] w (fun v' w' => Below w.heap.size w w' ∧ v' = .bool true) := by
 have hb := Below.refl w.heap.size w
 refine enter (N := 62) Try.func11 rfl rfl (by simp) fun a0 hN hd hA => ?_
 clear hA
 refine seq_any fun K1 hK1 => ?_
 refine one_reg (op_assign rfl (reg_nil (hK1 _ _ (seq_any fun K2 hK2 => one_reg (op_fn (vs := []) ok22 trivial (newLI) ?_)))))
 rintro _ w4 ⟨E5, p3, F3, rfl, hT3⟩
 have E5 := grown_of_below E5
 have z_w4 := E5.size
 have hb := below_step0 hb E5 hb.size
 have hT3 : TopL kI 71 w.heap.size w4 p3 [] F3 := hT3.rebase (by omega)
 refine op_assign (ev_hit hN rfl) (reg_nil (hK2 _ _ (seq_any fun K7 hK7 => one_reg (op_move (ev_hit hN rfl) (op_bslice (e := 5) (pv := [(0, (Value.int .u8 98))]) (cs := [(Value.int .u8 98)]) ⟨rfl, rfl, trivial⟩ (by kernel_rfl) ?_)))))
 intro w8 b9 lo_b9 hi_b9 hB11 E10
 have dj12 : ¬ F3 b9 := fun hf => by have := (hT3.lt _ hf).2; omega
 have z_w8 := E10.size
 have hT3 := hT3.kz E10
 have hb := below_step0 hb E10 hb.size
 refine op_conv_bytes (base := w.heap.size) Try.underlying27 Try.underlying5 (ev_hit hN rfl) hB11 rfl (by decide) (by omega) ?_
 intro w13 hO15 E14
 have z_w13 := E14.size
 have hT3 := hT3.keepG (Gr.of E14) (Dj.one dj12)
 have hb := below_step1 hb E14 hb.size (by omega)
 have dj16 : Dj (Bl (Value.slice (some ⟨b9, 0, none⟩) 1 1)) F3 := (Dj.one dj12).symm
 obtain ⟨L18, B18, hr18, hB18, hq18⟩ := own_at hO15 dj16
 refine op_fn (vs := [(ptr p3 0), (Value.slice (some ⟨b9, 0, none⟩) 1 1), (Value.int .i64 1)]) ok23 ⟨(ev_hit hN rfl), ⟨(ev_hit hN rfl), ⟨rfl, trivial⟩⟩⟩ (putLsE (k := [98]) (x := 1) (M := []) (M' := ([([98], 1)] : List (Ky × Int))) (c := false) hT3 hb.size hr18 hB18 hq18 (by decide) (by decide) (by decide)) ?_
 rintro _ w19 ⟨E20, rfl, F17, hT17, hN17⟩
 have bd21 := hO15.lt
 have hT3_old := hT3
 have z_w19 := E20.size
 have hb := below_stepG hb E20 hb.size (fun k hk => (hT3_old.lt k hk).1)
 refine op_assign (ev_hit hN rfl) (reg_nil (hK7 _ _ (seq_any fun K23 hK23 => one_reg ?_)))
 skip
 refine op_move (ev_hit hN rfl) (op_bslice (e := 5) (pv := [(0, (Value.int .u8 98))]) (cs := [(Value.int .u8 98)]) ⟨rfl, rfl, trivial⟩ (by kernel_rfl) ?_)
 intro w24 b25 lo_b25 hi_b25 hB27 E26
 have dj28 : ¬ F17 b25 := fun hf => by have := (hT17.lt _ hf).2; omega
 have z_w24 := E26.size
 have hT17 := hT17.kz E26
 have hb := below_step0 hb E26 hb.size
 refine op_conv_bytes (base := w.heap.size) Try.underlying27 Try.underlying5 (ev_hit hN rfl) hB27 rfl (by decide) (by omega) ?_
 intro w29 hO31 E30
 have z_w29 := E30.size
 have hT17 := hT17.keepG (Gr.of E30) (Dj.one dj28)
 have hb := below_step1 hb E30 hb.size (by omega)
 have dj32 : Dj (Bl (Value.slice (some ⟨b25, 0, none⟩) 1 1)) F17 := (Dj.one dj28).symm
 obtain ⟨L34, B34, hr34, hB34, hq34⟩ := own_at hO31 dj32
 refine op_fn (vs := [(ptr p3 0), (Value.slice (some ⟨b25, 0, none⟩) 1 1), (Value.int .i64 2)]) ok23 ⟨(ev_hit hN rfl), ⟨(ev_hit hN rfl), ⟨rfl, trivial⟩⟩⟩ (putLsE (k := [98]) (x := 2) (M := ([([98], 1)] : List (Ky × Int))) (M' := ([([98], 2)] : List (Ky × Int))) (c := true) hT17 hb.size hr34 hB34 hq34 (by decide) (by decide) (by decide)) ?_
 rintro _ w35 ⟨E36, rfl, F33, hT33, hN33⟩
 have bd37 := hO31.lt
 have hT17_old := hT17
 have z_w35 := E36.size
 have hb := below_stepG hb E36 hb.size (fun k hk => (hT17_old.lt k hk).1)
 refine op_assign (ev_hit hN rfl) (reg_nil (hK23 _ _ (seq_any fun K39 hK39 => one_reg ?_)))
 skip
 refine op_move (ev_hit hN rfl) (op_bslice (e := 5) (pv := [(0, (Value.int .u8 98))]) (cs := [(Value.int .u8 98)]) ⟨rfl, rfl, trivial⟩ (by kernel_rfl) ?_)
 intro w40 b41 lo_b41 hi_b41 hB43 E42
 have dj44 : ¬ F33 b41 := fun hf => by have := (hT33.lt _ hf).2; omega
 have z_w40 := E42.size
 have hT33 := hT33.kz E42
 have hb := below_step0 hb E42 hb.size
 refine op_conv_bytes (base := w.heap.size) Try.underlying27 Try.underlying5 (ev_hit hN rfl) hB43 rfl (by decide) (by omega) ?_
 intro w45 hO47 E46
 have z_w45 := E46.size
 have hT33 := hT33.keepG (Gr.of E46) (Dj.one dj44)
 have hb := below_step1 hb E46 hb.size (by omega)
 refine op_fn (vs := [(ptr p3 0), (Value.slice (some ⟨b41, 0, none⟩) 1 1)]) ok30 ⟨(ev_hit hN rfl), ⟨(ev_hit hN rfl), trivial⟩⟩ (getLsE (x := [98]) (g := 2) (c := true) hT33 (by decide) (hO47.rdw.mono (Nat.zero_le _) (by omega)) (by decide) (by decide) (by decide)) ?_
 rintro _ w49 ⟨E50, rfl⟩
 have E50 := grown_of_below E50
 have z_w49 := E50.size
 have hT33 := hT33.kz E50
 have hb := below_step0 hb E50 hb.size
 refine op_move (ev_hit hN rfl) (op_extract (ev_hit hN rfl) rfl ?_)
 refine op_extract (ev_hit hN rfl) rfl ?_
 refine op_assign (ev_hit hN rfl) (op_assign (ev_hit hN rfl) (reg_nil (hK39 _ _ (seq_any fun K51 hK51 => one_reg ?_))))
 skip
 refine op_move (ev_hit hN rfl) (op_fn (vs := [(ptr p3 0)]) ok33 ⟨(ev_hit hN rfl), trivial⟩ (levLsI hT33 (by decide)) ?_)
 rintro v52 w53 ⟨E54, LL52, LV52, hO52, hA52, hlev52, hLK52⟩
 have E54 := grown_of_below E54
 have z_w53 := E54.size
 have hT33 := hT33.kz E54
 have hb := below_step0 hb E54 hb.size
 have hLn52 := lev_len hlev52
 have hz52 := hLK52.zero
 have hle52 := hLK52.le
 have hO52 := hO52.mono (base' := w.heap.size) (by omega)
 have hA52 : ∀ x9 ∈ LL52, Own w53 w.heap.size 3 1 x9.1 x9.2.length (x9.2.map (Value.int .i64)) := fun x9 h9 => (hA52 x9 h9).mono (by omega)
 refine op_assign (ev_hit hN rfl) (reg_nil (hK51 _ _ (seq_any fun K56 hK56 => one_reg ?_)))
 have hM1 : ([([98], 2)] : List (Ky × Int)).length = 1 := rfl
 have hLL1 : LL52.length = 1 := by omega
 have hat := lev_at hlev52 0
 have hw : (LV52.getD 0 []).length = 1 := (hLK52.at_ 0 (by omega)).1
 have hlen9 : (LL52.getD 0 default).2.length = 1 := by rw [hat, List.length_map]; exact hw
 have hs9 : (LV52.getD 0 []).sum = 1 := by have := hLK52.sum; rw [show LV52.length - 1 = 0 by omega] at this; exact this
 have h00 : (LL52.getD 0 default).2.getD 0 0 = 1 := by rw [hat, ints_at]; have := one_sum hw hs9; omega
 refine op_move (ev_hit hN rfl) (op_not (ev_hit hN rfl) ?_)
 refine op_move (ev_hit hN rfl) (g_true (j := 2) (dj := 27) (b := true) rfl rfl rfl (ev_hit hN rfl) (op_move (ev_hit hN rfl) (op_pick_t (ev_hit hN rfl) (ev_hit hN rfl) ?_)))
 refine op_move (ev_hit hN rfl) (g_true (j := 5) (dj := 30) (b := true) rfl rfl rfl (ev_hit hN rfl) (op_move (ev_hit hN rfl) (op_pick_t (ev_hit hN rfl) (ev_hit hN rfl) ?_)))
 refine op_move (ev_hit hN rfl) (g_true (j := 8) (dj := 33) (b := true) rfl rfl rfl (ev_hit hN rfl) (op_move (ev_hit hN rfl) (g_true (j := 8) (dj := 33) (b := true) rfl rfl rfl (ev_hit hN rfl) (op_bin (v := .bool true) (ev_hit hN rfl) rfl (by rw [binOp_eql]; rfl) (op_pick_t (ev_hit hN rfl) (ev_hit hN rfl) ?_)))))
 refine op_move (ev_hit hN rfl) (g_true (j := 12) (dj := 37) (b := true) rfl rfl rfl (ev_hit hN rfl) (op_move (ev_hit hN rfl) (g_true (j := 12) (dj := 37) (b := true) rfl rfl rfl (ev_hit hN rfl) (op_fn (vs := [(ptr p3 0)]) ok25 ⟨(ev_hit hN rfl), trivial⟩ (lenLsI hT33 (by decide)) ?_))))
 rintro _ w57 ⟨E58, rfl⟩
 have E58 := grown_of_below E58
 have z_w57 := E58.size
 have hO52 := hO52.keep0 E58
 have hA52 := all9 hA52 fun _ h => h.keep0 E58
 have hb := below_step0 hb E58 hb.size
 refine g_true (j := 12) (dj := 37) (b := true) rfl rfl rfl (ev_hit hN rfl) (op_eql (ev_hit hN rfl) rfl (fun c40 => ?_) (fun c40 => ?_))
 ·
  refine op_pick_t (ev_hit hN rfl) (ev_hit hN rfl) ?_
  refine op_move (ev_hit hN rfl) (g_true (j := 17) (dj := 42) (b := true) rfl rfl rfl (ev_hit hN rfl) (op_move (ev_hit hN rfl) (g_true (j := 17) (dj := 42) (b := true) rfl rfl rfl (ev_hit hN rfl) (op_len_rd Try.underlying28 (ev_hit hN rfl) hO52.rdw ?_))))
  refine g_true (j := 17) (dj := 42) (b := true) rfl rfl rfl (ev_hit hN rfl) (op_eql (ev_hit hN rfl) rfl (fun c45 => ?_) (fun c45 => ?_))
  ·
   refine op_pick_t (ev_hit hN rfl) (ev_hit hN rfl) ?_
   refine op_move (ev_hit hN rfl) (g_true (j := 22) (dj := 47) (b := true) rfl rfl rfl (ev_hit hN rfl) (op_move (ev_hit hN rfl) (g_true (j := 22) (dj := 47) (b := true) rfl rfl rfl (ev_hit hN rfl) (op_index_rd slt28 (ev_hit hN rfl) hO52.rdw rfl (by omega) (by omega) ?_))))
   intro b59 o60 h0b59 h1b59 hc61
   refine g_true (j := 22) (dj := 47) (b := true) rfl rfl rfl (ev_hit hN rfl) ?_
   have hs62 : Own w57 w.heap.size 3 1 (LL52.getD 0 default).1 (LL52.getD 0 default).2.length ((LL52.getD 0 default).2.map (Value.int .i64)) := hA52 _ (getD_mem (by omega))
   refine op_load1 (v := (LL52.getD 0 default).1) one30 (ev_hit hN rfl) (by have := hc61 0 (LL52.getD 0 default).1 (by decide) (el_ll (i := 0) (d := default) (by omega) (by omega)); simpa using this) (g_true (j := 22) (dj := 47) (b := true) rfl rfl rfl (ev_hit hN rfl) (op_len_rd Try.underlying30 (ev_hit hN rfl) hs62.rdw ?_))
   refine g_true (j := 22) (dj := 47) (b := true) rfl rfl rfl (ev_hit hN rfl) (op_eql (ev_hit hN rfl) rfl (fun c52 => ?_) (fun c52 => ?_))
   ·
    refine op_pick_t (ev_hit hN rfl) (ev_hit hN rfl) ?_
    refine op_move (ev_hit hN rfl) (g_true (j := 29) (dj := 54) (b := true) rfl rfl rfl (ev_hit hN rfl) (op_move (ev_hit hN rfl) (g_true (j := 29) (dj := 54) (b := true) rfl rfl rfl (ev_hit hN rfl) (op_index_rd slt28 (ev_hit hN rfl) hO52.rdw rfl (by omega) (by omega) ?_))))
    intro b63 o64 h0b63 h1b63 hc65
    refine g_true (j := 29) (dj := 54) (b := true) rfl rfl rfl (ev_hit hN rfl) (op_load1 (v := (LL52.getD 0 default).1) one30 (ev_hit hN rfl) (by have := hc65 0 (LL52.getD 0 default).1 (by decide) (el_ll (i := 0) (d := default) (by omega) (by omega)); simpa using this) (g_true (j := 29) (dj := 54) (b := true) rfl rfl rfl (ev_hit hN rfl) (op_index_rd slt30 (ev_hit hN rfl) hs62.rdw rfl (by omega) (by omega) ?_)))
    intro b67 o68 h0b67 h1b67 hc69
    refine g_true (j := 29) (dj := 54) (b := true) rfl rfl rfl (ev_hit hN rfl) (op_load1 (v := (Value.int .i64 ((LL52.getD 0 default).2.getD 0 0))) one3 (ev_hit hN rfl) (by have := hc69 0 (Value.int .i64 ((LL52.getD 0 default).2.getD 0 0)) (by decide) (el_i64 (i := 0) (by omega) (by omega)); simpa using this) (g_true (j := 29) (dj := 54) (b := true) rfl rfl rfl (ev_hit hN rfl) (op_eql (ev_hit hN rfl) rfl (fun c60 => ?_) (fun c60 => ?_))))
    ·
     refine op_pick_t (ev_hit hN rfl) (ev_hit hN rfl) ?_
     refine op_assign (ev_hit hN rfl) (reg_nil (hK56 _ _ (wp_ret ?_)))
     refine ret1 rfl hd (ev_hit hN rfl) ⟨_, rfl, ?_⟩
     exact ⟨hb, rfl⟩
    ·
     exfalso; omega
   ·
    exfalso; omega
  ·
   exfalso; omega
 ·
  exfalso; omega
theorem pairsScan {M : List (Ky × Int)} {F F2 : Nat → Prop} {xv : Value} {p q base base2 : Nat} {x : List UInt8} {m : Int} {w : World} (hT : TopL kI 71 base w q M F) (hP : PairsR base2 w p M F2) (hDM : M.length ≤ 10000) (hkl : ∀ r ∈ M, r.1.length ≤ 1000000000) (hxr : RdC w 0 w.heap.size 1 xv x.length (x.map u8v)) (hxl : x.length ≤ 1000000000) (hm : m ≤ 9223372036854775807) :
    Ret Try.prog 32 #[ptr p 0, ptr q 0, xv, .int .i64 m] w (fun v' w' => Below w.heap.size w w' ∧ v' = .bool true) := by
  obtain ⟨kv, vv, hB, h1, h2, hp, hF⟩ := hP
  exact pairsScan0 hT hB h1 h2 hT.sorted hDM hkl hxr hxl hm
theorem putB {M : List (Ky × Int)} {k : List UInt8} {xv : Value} {x : Int} {R F : Nat → Prop} {p L B base : Nat} {w : World} (hT : TopB base w p M R F) (hb : base ≤ w.heap.size) (hk : RdC w L B 1 xv k.length (k.map u8v)) (hB : B ≤ w.heap.size) (hap : ∀ j, F j → j < L ∨ B ≤ j) (hkn : k.length ≤ 1000000000) :
    Ret Try.prog 23 #[ptr p 0, xv, .int .i64 x] w (fun v' w' => Gr w w' F ∧ v' = .bool ((ks1 M).contains k) ∧ ∃ R' F', TopB base w' p (putL k x M) R' F' ∧ NewF w.heap.size F F') :=
  (putC hT.1 hk hB hap hkn).mono fun _ _ ⟨E, hv, R2, F2, hT2, hN⟩ => ⟨E, hv, R2, F2, ⟨hT2, low_step hb hT.2 hN⟩, hN⟩
theorem dropB {M : List (Ky × Int)} {k : List UInt8} {xv : Value} {R F : Nat → Prop} {p base : Nat} {w : World} (hT : TopB base w p M R F) (hb : base ≤ w.heap.size) (hxr : RdC w 0 w.heap.size 1 xv k.length (k.map u8v)) :
    Ret Try.prog 28 #[ptr p 0, xv] w (fun v' w' => Gr w w' F ∧ v' = .bool ((ks1 M).contains k) ∧ ∃ R' F', TopB base w' p (Go.Bt.dropL k M) R' F' ∧ NewF w.heap.size F F') :=
  (dropC hT.1 hxr).mono fun _ _ ⟨E, hv, R2, F2, hT2, hN⟩ => ⟨E, hv, R2, F2, ⟨hT2, low_step hb hT.2 hN⟩, hN⟩
theorem copyB {M : List (Ky × Int)} {F : Nat → Prop} {p base base2 : Nat} {w : World} (hT : TopL kI 71 base w p M F) (hb : base2 ≤ w.heap.size) : Ret Try.prog 34 #[ptr p 0] w (fun v' w' => Below w.heap.size w w' ∧ ∃ c R F2, v' = ptr c 0 ∧ TopB base2 w' c M R F2 ∧ ∀ k, F2 k → w.heap.size ≤ k) := by
  obtain ⟨R, F', hC, _⟩ := hT.toC
  exact (copyC hC).mono fun _ _ ⟨E, c, F2, hv, hT2, hlo⟩ => ⟨E, c, R, F2, hv, ⟨hT2, fun k hk => Nat.le_trans hb (hlo k hk)⟩, hlo⟩
theorem TreeCopies_ret (l l2 : List UInt16) (vl vl2 : Value) (w : World) (hl : l.length ≤ 9223372036854775807) (hl2 : l2.length ≤ 9223372036854775807) (hr : RdC w 0 w.heap.size 1 vl l.length (l.map u16v)) (hr2 : RdC w 0 w.heap.size 1 vl2 l2.length (l2.map u16v)) : Ret Try.prog 9 #[vl, vl2] w (fun v' w' => Below w.heap.size w w' ∧ v' = .bool true) := by
 have hb := Below.refl w.heap.size w
 refine enter (N := 147) Try.func9 rfl rfl (by simp) fun a0 hN hd hA => ?_
 have s0 : a0.tmps.getD 0 undef = vl := hA 0 (by simp)
 have s1 : a0.tmps.getD 1 undef = vl2 := hA 1 (by simp)
 clear hA
 refine seq_any fun K1 hK1 => one_reg ?_
 refine op_assign rfl (reg_nil (hK1 _ _ (seq_any fun K2 hK2 => seq_any fun K3 hK3 => one_reg (op_fn (vs := []) ok11 trivial (begun15) ?_))))
 rintro _ w4 ⟨E5, rfl⟩
 have E5 := grown_of_below E5
 have z_w4 := E5.size
 have hr := hr.keep0 E5
 have hr2 := hr2.keep0 E5
 have hb := below_step0 hb E5 hb.size
 refine op_not (ev_hit hN rfl) ?_
 refine reg_nil (hK3 _ _ (wp_cond_false (ev_hit hN rfl) ?_))
 refine wp_skip (hK2 _ _ (seq_any fun K6 hK6 => seq_any fun K7 hK7 => one_reg (op_move (ev_base hN rfl s0) (op_len_rd Try.underlying33 (ev_hit hN rfl) hr ?_))))
 refine op_gtr (ev_hit hN rfl) rfl (fun c20 => ?_) (fun c20 => ?_)
 ·
  refine op_move (ev_hit hN rfl) (g_false (j := 3) (dj := 21) (b := false) rfl rfl rfl (ev_hit hN rfl) rfl rfl (g_false (j := 3) (dj := 21) (b := false) rfl rfl rfl (ev_hit hN rfl) rfl rfl (g_false (j := 3) (dj := 21) (b := false) rfl rfl rfl (ev_hit hN rfl) rfl rfl (op_pick_t (ev_hit hN rfl) rfl ?_))))
  refine reg_nil (hK7 _ _ ?_)
  refine wp_cond_true (ev_hit hN rfl) (seq_any fun K8 hK8 => one_reg (op_assign rfl (reg_nil (hK8 _ _ (wp_ret (then_ret ( ?_)))))))
  refine ret1 rfl hd (ev_hit hN rfl) ⟨_, rfl, ?_⟩
  exact ⟨hb, rfl⟩
 ·
  refine op_move (ev_hit hN rfl) (g_true (j := 3) (dj := 21) (b := false) rfl rfl rfl (ev_hit hN rfl) (op_move (ev_base hN rfl s1) (g_true (j := 3) (dj := 21) (b := false) rfl rfl rfl (ev_hit hN rfl) (op_len_rd Try.underlying33 (ev_hit hN rfl) hr2 ?_))))
  refine g_true (j := 3) (dj := 21) (b := false) rfl rfl rfl (ev_hit hN rfl) (op_gtr (ev_hit hN rfl) rfl (fun c24 => ?_) (fun c24 => ?_))
  ·
   refine op_pick_f (ev_hit hN rfl) (ev_hit hN rfl) ?_
   refine reg_nil (hK7 _ _ ?_)
   refine wp_cond_true (ev_hit hN rfl) (seq_any fun K9 hK9 => one_reg (op_assign rfl (reg_nil (hK9 _ _ (wp_ret (then_ret ( ?_)))))))
   refine ret1 rfl hd (ev_hit hN rfl) ⟨_, rfl, ?_⟩
   exact ⟨hb, rfl⟩
  ·
   refine op_pick_f (ev_hit hN rfl) (ev_hit hN rfl) ?_
   refine reg_nil ?_
   refine hK7 _ _ (wp_cond_false (ev_hit hN rfl) (wp_skip (hK6 _ _ (seq_any fun K10 hK10 => one_reg (op_fn (vs := []) ok22 trivial (newLI) ?_)))))
   rintro _ w12 ⟨E13, p11, F11, rfl, hT11⟩
   have E13 := grown_of_below E13
   have z_w12 := E13.size
   have hr := hr.keep0 E13
   have hr2 := hr2.keep0 E13
   have hb := below_step0 hb E13 hb.size
   have hT11 : TopL kI 71 w.heap.size w12 p11 [] F11 := hT11.rebase (by omega)
   refine op_build (pv := []) (v := (Value.agg #[(Value.slice none 0 0), (Value.slice none 0 0)])) trivial (by kernel_rfl) ?_
   refine op_box (cs := [(Value.slice none 0 0), (Value.slice none 0 0)]) (ev_hit hN rfl) rfl ?_
   intro w15 b16 lo_b16 hi_b16 hB18 E17
   have dj19 : ¬ F11 b16 := fun hf => by have := (hT11.lt _ hf).2; omega
   have z_w15 := E17.size
   have hr := hr.keep0 E17
   have hr2 := hr2.keep0 E17
   have hT11 := hT11.kz E17
   have hb := below_step0 hb E17 hb.size
   obtain ⟨FP20, hP21, hFP22⟩ : ∃ FP, PairsR w.heap.size w15 b16 [] FP ∧ ∀ k, FP k → k = b16 := ⟨_, ⟨_, _, hB18, Own.nil _ _ _ _, Own.nil _ _ _ _, by omega, fun _ => Iff.rfl⟩, fun k h => h.elim id (fun h => h.elim (fun h => (by cases h)) (fun h => (by cases h)))⟩
   have dj23 : Dj F11 FP20 := fun k h1 h2 => dj19 (hFP22 k h2 ▸ h1)
   refine op_assign (ev_hit hN rfl) (op_assign (ev_hit hN rfl) (reg_nil (hK10 _ _ ?_)))
   refine seq_any fun K24 hK24 => seq_any fun K25 hK25 => one_reg (op_assign rfl (reg_nil (hK25 _ _ (wp_block ?_))))
   refine loop_m (fun mz_ az_ w' => ∃ (i : Nat) (M : List (Ky × Int)) (FT FP : Nat → Prop), mz_ = l.length - i ∧ (az_.tmps.getD 0 undef = vl) ∧ (az_.tmps.getD 1 undef = vl2) ∧ (az_.tmps.getD 4 undef = (Value.bool false)) ∧ (az_.tmps.getD 5 undef = (ptr p11 0)) ∧ (az_.tmps.getD 6 undef = (ptr b16 0)) ∧ (az_.tmps.getD 7 undef = (Value.int .i64 ((i : Nat) : Int))) ∧ (i ≤ l.length) ∧ (M.length ≤ i) ∧ (∀ q ∈ M, q.1.length = 2) ∧ (Dj FT FP) ∧ (Below w.heap.size w w') ∧ (w15.heap.size ≤ w'.heap.size) ∧ (RdC w' 0 w.heap.size 1 vl l.length (l.map u16v)) ∧ (RdC w' 0 w.heap.size 1 vl2 l2.length (l2.map u16v)) ∧ (TopL kI 71 w.heap.size w' p11 M FT) ∧ (PairsR w.heap.size w' b16 M FP)) _ hN hd ⟨0, [], F11, FP20, rfl, (sl_base hN rfl s0), (sl_base hN rfl s1), (sl_hit hN rfl), (sl_hit hN rfl), (sl_hit hN rfl), (sl_hit hN rfl), (Nat.zero_le _), (Nat.le_refl _), (fun _ h => (by cases h)), dj23, hb, (Nat.le_refl _), hr, hr2, hT11, hP21⟩ ?_
   rintro _ a26 w26 hN26 hd26 ⟨i, M, FT, FP, rfl, s26_0, s26_1, s26_4, s26_5, s26_6, s26_7, hi, hlM, hsh, hdj, hb, zl_w26, hr, hr2, hTM, hPM⟩
   have z_w26 := hb.size
   refine seq_any fun K27 hK27 => seq_any fun K28 hK28 => one_reg (op_move (ev_base hN26 rfl s26_7) (op_move (ev_base hN26 rfl s26_0) (op_len_rd Try.underlying33 (ev_hit hN26 rfl) hr ?_)))
   refine op_lss (ev_hit hN26 rfl) (ev_hit hN26 rfl) (fun c32 => ?_) (fun c32 => ?_)
   ·
    refine reg_nil (hK28 _ _ (wp_cond_true (ev_hit hN26 rfl) (wp_skip (hK27 _ _ (seq_any fun K29 hK29 => wp_block ?_)))))
    refine seq_any fun K30 hK30 => ?_
    have hsM := hTM.sorted
    refine reg_from mixed ?_
    intro w32 E31
    have z_w32 := E31.size
    have hr := hr.keep0 E31
    have hr2 := hr2.keep0 E31
    have hTM := hTM.kz E31
    have hPM := hPM.kz E31
    have hb := below_step0 hb E31 hb.size
    refine from_still (m := 11) 11 (hd := [_, _, _, _, _, _, _, _, _, _, _]) (by kernel_rfl) rfl rfl ?_
    refine st_step rfl (fun _ h9 => op_move (ev_base hN26 rfl s26_0) h9) ?_
    refine st_step rfl (fun _ h9 => op_move (ev_base hN26 rfl s26_7) h9) ?_
    refine st_index_rd slt33 (ev_hit hN26 rfl) hr (ev_hit hN26 rfl) (by omega) (by omega) ?_
    intro b33 o34 h0b33 h1b33 hc35
    refine st_step rfl (fun _ h9 => op_load1 (v := (Value.int .u16 ((l.getD i 0).toNat : Int))) one37 (ev_hit hN26 rfl) (by have := hc35 0 (Value.int .u16 ((l.getD i 0).toNat : Int)) (by decide) (el_u16 (i := i) (by omega) (by omega)); simpa using this) h9) ?_
    refine st_step rfl (fun _ h9 => op_shr (r := (((l.getD i 0).toNat / 256 : Nat) : Int)) (ev_hit hN26 rfl) rfl (by decide) (shr_nat (j := 8) (by omega) (by decide)) h9) ?_
    refine st_step rfl (fun _ h9 => op_conv (r := ((UInt8.ofNat ((l.getD i 0).toNat / 256)).toNat : Int)) (ev_hit hN26 rfl) us37 Try.underlying5 conv_u8 h9) ?_
    refine st_step rfl (fun _ h9 => op_move (ev_base hN26 rfl s26_0) h9) ?_
    refine st_step rfl (fun _ h9 => op_move (ev_base hN26 rfl s26_7) h9) ?_
    refine st_index_rd slt33 (ev_hit hN26 rfl) hr (ev_hit hN26 rfl) (by omega) (by omega) ?_
    intro b36 o37 h0b36 h1b36 hc38
    refine st_step rfl (fun _ h9 => op_load1 (v := (Value.int .u16 ((l.getD i 0).toNat : Int))) one37 (ev_hit hN26 rfl) (by have := hc38 0 (Value.int .u16 ((l.getD i 0).toNat : Int)) (by decide) (el_u16 (i := i) (by omega) (by omega)); simpa using this) h9) ?_
    refine st_step rfl (fun _ h9 => op_conv (r := ((UInt8.ofNat (l.getD i 0).toNat).toNat : Int)) (ev_hit hN26 rfl) us37 Try.underlying5 conv_u8 h9) ?_
    refine st_nil ?_
    refine from_seq (tl := [_, _]) (by decide) (by kernel_rfl) rfl ?_
    refine op_bslice (e := 5) (pv := [(0, (Value.int .u8 ((UInt8.ofNat ((l.getD i 0).toNat / 256)).toNat : Int))), (1, (Value.int .u8 ((UInt8.ofNat (l.getD i 0).toNat).toNat : Int)))]) (cs := [(Value.int .u8 ((UInt8.ofNat ((l.getD i 0).toNat / 256)).toNat : Int)), (Value.int .u8 ((UInt8.ofNat (l.getD i 0).toNat).toNat : Int))]) ⟨rfl, (ev_hit hN26 rfl), ⟨rfl, (ev_hit hN26 rfl), trivial⟩⟩ (by kernel_rfl) ?_
    intro w39 b40 lo_b40 hi_b40 hB42 E41
    have dj43 : ¬ FT b40 := fun hf => by have := (hTM.lt _ hf).2; omega
    have z_w39 := E41.size
    have hr := hr.keep0 E41
    have hr2 := hr2.keep0 E41
    have hTM := hTM.kz E41
    have hPM := hPM.kz E41
    have hb := below_step0 hb E41 hb.size
    refine op_assign (ev_hit hN26 rfl) (reg_nil ?_)
    refine hK30 _ _ (seq_any fun K45 hK45 => one_reg (op_move (ev_base hN26 rfl s26_5) (op_move (ev_hit hN26 rfl) (op_move (ev_base hN26 rfl s26_7) (op_fn (vs := [(ptr p11 0), (Value.slice (some ⟨b40, 0, none⟩) 2 2), (Value.int .i64 ((i : Nat) : Int))]) ok23 ⟨(ev_hit hN26 rfl), ⟨(ev_hit hN26 rfl), ⟨(ev_hit hN26 rfl), trivial⟩⟩⟩ (putLsI (k := [(UInt8.ofNat ((l.getD i 0).toNat / 256)), (UInt8.ofNat (l.getD i 0).toNat)]) (x := ((i : Nat) : Int)) hTM hb.size (RdC.ofBx (sz := 1) (n := 2) hB42 rfl (by decide)) (by have := hB42.lt; omega) (hapB dj43) (by simp; done)) ?_)))))
    rintro _ w47 ⟨E48, rfl, F46, hT46, hN46⟩
    have bd49 := hPM.lt
    have bd50 := hB42.lt
    have hTM_old := hTM
    have z_w47 := E48.size
    have hr := hr.keepG E48 (fun k hk => .inr (by have := hTM_old.lt k hk; omega))
    have hr2 := hr2.keepG E48 (fun k hk => .inr (by have := hTM_old.lt k hk; omega))
    have hPM := hPM.keepG E48 hdj.symm
    have hB42 := hB42.keepG E48 dj43
    have hb := below_stepG hb E48 hb.size (fun k hk => (hTM_old.lt k hk).1)
    have dj51 : Dj FP F46 := Dj.stepF hN46 (fun k hk => (bd49 k hk).2) hdj.symm
    refine reg_nil (hK45 _ _ (one_reg (op_move (ev_base hN26 rfl s26_6) (op_move (ev_hit hN26 rfl) (op_str_of (bl := [(UInt8.ofNat ((l.getD i 0).toNat / 256)), (UInt8.ofNat (l.getD i 0).toNat)]) Try.underlying27 Try.underlying5 Try.underlying9 (ev_hit hN26 rfl) (RdC.ofBx (sz := 1) (n := 2) hB42 rfl (by decide)) ?_)))))
    refine op_move (ev_base hN26 rfl s26_7) (op_fn (vs := [(ptr b16 0), (Value.string (bs [(UInt8.ofNat ((l.getD i 0).toNat / 256)), (UInt8.ofNat (l.getD i 0).toNat)])), (Value.int .i64 ((i : Nat) : Int))]) ok27 ⟨(ev_hit hN26 rfl), ⟨(ev_hit hN26 rfl), ⟨(ev_hit hN26 rfl), trivial⟩⟩⟩ (pairsPut (k := [(UInt8.ofNat ((l.getD i 0).toNat / 256)), (UInt8.ofNat (l.getD i 0).toNat)]) (x := ((i : Nat) : Int)) hPM hb.size hsM (by omega) (fun q hq => by rw [hsh q hq]; decide) (by simp; done)) ?_)
    rintro _ w54 ⟨E55, rfl, F53, hP53, hN53⟩
    have bd56 := hB42.lt
    have bd57 := hT46.lt
    have hPM_old := hPM
    have z_w54 := E55.size
    have hr := hr.keepG E55 (fun k hk => .inr (by have := hPM_old.lt k hk; omega))
    have hr2 := hr2.keepG E55 (fun k hk => .inr (by have := hPM_old.lt k hk; omega))
    have hT46 := hT46.keepG E55 dj51.symm
    have hb := below_stepG hb E55 hb.size (fun k hk => (hPM_old.lt k hk).1)
    have dj59 : Dj F46 F53 := Dj.stepF hN53 (fun k hk => (bd57 k hk).2) dj51.symm
    refine reg_nil (hK29 _ _ (one_reg (op_move (ev_base hN26 rfl s26_7) (op_add (ev_hit hN26 rfl) rfl (add64 (by omega)) ?_))))
    refine op_assign (ev_hit hN26 rfl) (reg_nil ?_)
    -- round 20F 24F 32T
    exact loop_next _ hN26 hd26 ⟨(i + 1), (putL ([(UInt8.ofNat ((l.getD i 0).toNat / 256)), (UInt8.ofNat (l.getD i 0).toNat)]) ((i : Nat) : Int) M), F46, F53, rfl, (sl_base hN26 rfl s26_0), (sl_base hN26 rfl s26_1), (sl_base hN26 rfl s26_4), (sl_base hN26 rfl s26_5), (sl_base hN26 rfl s26_6), (sl_hit hN26 rfl).trans (congrArg (Value.int .i64) (by omega)), (by omega), (put_len hsM hlM), (put_short hsh), dj59, hb, (by omega), hr, hr2, hT46, hP53⟩ (by omega)
   ·
    refine reg_nil (hK28 _ _ (wp_cond_false (ev_hit hN26 rfl) (wp_exit (then_exit (then_exit (blk_hit ?_))))))
    refine hK24 _ _ (seq_any fun K60 hK60 => one_reg (op_move (ev_base hN26 rfl s26_5) (op_fn (vs := [(ptr p11 0)]) ok34 ⟨(ev_hit hN26 rfl), trivial⟩ (copyB hTM hb.size) ?_)))
    rintro _ w62 ⟨E63, pc61, R61, F61, rfl, hT61, hlo61⟩
    have E63 := grown_of_below E63
    have dj64 : Dj FT F61 := Dj.fresh (fun k hk => (hTM.lt k hk).2) hlo61
    have dj65 : Dj FP F61 := Dj.fresh (fun k hk => (hPM.lt k hk).2) hlo61
    have z_w62 := E63.size
    have hr := hr.keep0 E63
    have hr2 := hr2.keep0 E63
    have hTM := hTM.kz E63
    have hPM := hPM.kz E63
    have hb := below_step0 hb E63 hb.size
    refine op_assign (ev_hit hN26 rfl) (reg_nil (hK60 _ _ ?_))
    refine seq_any fun K66 hK66 => seq_any fun K67 hK67 => one_reg (op_assign rfl (reg_nil (hK67 _ _ (wp_block ?_))))
    refine loop_m (fun mz_ az_ w' => ∃ (j : Nat) (Mc : List (Ky × Int)) (RC FC : Nat → Prop), mz_ = l2.length - j ∧ (az_.tmps.getD 1 undef = vl2) ∧ (az_.tmps.getD 4 undef = (Value.bool false)) ∧ (az_.tmps.getD 5 undef = (ptr p11 0)) ∧ (az_.tmps.getD 6 undef = (ptr b16 0)) ∧ (az_.tmps.getD 9 undef = (ptr pc61 0)) ∧ (az_.tmps.getD 10 undef = (Value.int .i64 ((j : Nat) : Int))) ∧ (j ≤ l2.length) ∧ (Mc.length ≤ 60 + j) ∧ (Dj FC FT) ∧ (Dj FC FP) ∧ (Below w.heap.size w w') ∧ (w62.heap.size ≤ w'.heap.size) ∧ (RdC w' 0 w.heap.size 1 vl l.length (l.map u16v)) ∧ (RdC w' 0 w.heap.size 1 vl2 l2.length (l2.map u16v)) ∧ (TopL kI 71 w.heap.size w' p11 M FT) ∧ (PairsR w.heap.size w' b16 M FP) ∧ (TopB w.heap.size w' pc61 Mc RC FC)) _ hN26 hd26 ⟨0, M, R61, F61, rfl, (sl_base hN26 rfl s26_1), (sl_base hN26 rfl s26_4), (sl_base hN26 rfl s26_5), (sl_base hN26 rfl s26_6), (sl_hit hN26 rfl), (sl_hit hN26 rfl), (Nat.zero_le _), (by omega), dj64.symm, dj65.symm, hb, (Nat.le_refl _), hr, hr2, hTM, hPM, hT61⟩ ?_
    rintro _ a68 w68 hN68 hd68 ⟨j, Mc, RC, FC, rfl, s68_1, s68_4, s68_5, s68_6, s68_9, s68_10, hj, hlC, hdT, hdP, hb, zl_w68, hr, hr2, hTM, hPM, hTC⟩
    have z_w68 := hb.size
    refine seq_any fun K69 hK69 => seq_any fun K70 hK70 => one_reg (op_move (ev_base hN68 rfl s68_10) (op_move (ev_base hN68 rfl s68_1) (op_len_rd Try.underlying33 (ev_hit hN68 rfl) hr2 ?_)))
    refine op_lss (ev_hit hN68 rfl) (ev_hit hN68 rfl) (fun c61 => ?_) (fun c61 => ?_)
    ·
     refine reg_nil (hK70 _ _ (wp_cond_true (ev_hit hN68 rfl) (wp_skip (hK69 _ _ (seq_any fun K71 hK71 => wp_block ?_)))))
     refine seq_any fun K72 hK72 => ?_
     have hsC := hTC.sorted
     refine reg_from mixed ?_
     intro w74 E73
     have z_w74 := E73.size
     have hr := hr.keep0 E73
     have hr2 := hr2.keep0 E73
     have hTM := hTM.kz E73
     have hPM := hPM.kz E73
     have hTC := hTC.kz E73
     have hb := below_step0 hb E73 hb.size
     refine from_still (m := 11) 11 (hd := [_, _, _, _, _, _, _, _, _, _, _]) (by kernel_rfl) rfl rfl ?_
     refine st_step rfl (fun _ h9 => op_move (ev_base hN68 rfl s68_1) h9) ?_
     refine st_step rfl (fun _ h9 => op_move (ev_base hN68 rfl s68_10) h9) ?_
     refine st_index_rd slt33 (ev_hit hN68 rfl) hr2 (ev_hit hN68 rfl) (by omega) (by omega) ?_
     intro b75 o76 h0b75 h1b75 hc77
     refine st_step rfl (fun _ h9 => op_load1 (v := (Value.int .u16 ((l2.getD j 0).toNat : Int))) one37 (ev_hit hN68 rfl) (by have := hc77 0 (Value.int .u16 ((l2.getD j 0).toNat : Int)) (by decide) (el_u16 (i := j) (by omega) (by omega)); simpa using this) h9) ?_
     refine st_step rfl (fun _ h9 => op_shr (r := (((l2.getD j 0).toNat / 256 : Nat) : Int)) (ev_hit hN68 rfl) rfl (by decide) (shr_nat (j := 8) (by omega) (by decide)) h9) ?_
     refine st_step rfl (fun _ h9 => op_conv (r := ((UInt8.ofNat ((l2.getD j 0).toNat / 256)).toNat : Int)) (ev_hit hN68 rfl) us37 Try.underlying5 conv_u8 h9) ?_
     refine st_step rfl (fun _ h9 => op_move (ev_base hN68 rfl s68_1) h9) ?_
     refine st_step rfl (fun _ h9 => op_move (ev_base hN68 rfl s68_10) h9) ?_
     refine st_index_rd slt33 (ev_hit hN68 rfl) hr2 (ev_hit hN68 rfl) (by omega) (by omega) ?_
     intro b78 o79 h0b78 h1b78 hc80
     refine st_step rfl (fun _ h9 => op_load1 (v := (Value.int .u16 ((l2.getD j 0).toNat : Int))) one37 (ev_hit hN68 rfl) (by have := hc80 0 (Value.int .u16 ((l2.getD j 0).toNat : Int)) (by decide) (el_u16 (i := j) (by omega) (by omega)); simpa using this) h9) ?_
     refine st_step rfl (fun _ h9 => op_conv (r := ((UInt8.ofNat (l2.getD j 0).toNat).toNat : Int)) (ev_hit hN68 rfl) us37 Try.underlying5 conv_u8 h9) ?_
     refine st_nil ?_
     refine from_seq (tl := [_, _]) (by decide) (by kernel_rfl) rfl ?_
     refine op_bslice (e := 5) (pv := [(0, (Value.int .u8 ((UInt8.ofNat ((l2.getD j 0).toNat / 256)).toNat : Int))), (1, (Value.int .u8 ((UInt8.ofNat (l2.getD j 0).toNat).toNat : Int)))]) (cs := [(Value.int .u8 ((UInt8.ofNat ((l2.getD j 0).toNat / 256)).toNat : Int)), (Value.int .u8 ((UInt8.ofNat (l2.getD j 0).toNat).toNat : Int))]) ⟨rfl, (ev_hit hN68 rfl), ⟨rfl, (ev_hit hN68 rfl), trivial⟩⟩ (by kernel_rfl) ?_
     intro w81 b82 lo_b82 hi_b82 hB84 E83
     have dj87 : ¬ FC b82 := fun hf => by have := (hTC.lt _ hf).2; omega
     have z_w81 := E83.size
     have hr := hr.keep0 E83
     have hr2 := hr2.keep0 E83
     have hTM := hTM.kz E83
     have hPM := hPM.kz E83
     have hTC := hTC.kz E83
     have hb := below_step0 hb E83 hb.size
     refine op_assign (ev_hit hN68 rfl) ?_
     refine reg_nil (hK72 _ _ (seq_any fun K88 hK88 => one_reg (op_move (ev_base hN68 rfl s68_9) (op_move (ev_hit hN68 rfl) (op_fn (vs := [(ptr pc61 0), (Value.slice (some ⟨b82, 0, none⟩) 2 2)]) ok28 ⟨(ev_hit hN68 rfl), ⟨(ev_hit hN68 rfl), trivial⟩⟩ (dropB (k := [(UInt8.ofNat ((l2.getD j 0).toNat / 256)), (UInt8.ofNat (l2.getD j 0).toNat)]) hTC hb.size ((RdC.ofBx (sz := 1) (n := 2) hB84 rfl (by decide)).mono (Nat.zero_le _) (by have := hB84.lt; omega))) ?_)))))
     rintro _ w90 ⟨E91, rfl, R89, F89, hT89, hN89⟩
     have bd92 := hTM.lt
     have bd93 := hPM.lt
     have bd94 := hB84.lt
     have hTC_old := hTC
     have z_w90 := E91.size
     have hr := hr.keepG E91 (fun k hk => .inr (by have := hTC_old.lt k hk; omega))
     have hr2 := hr2.keepG E91 (fun k hk => .inr (by have := hTC_old.lt k hk; omega))
     have hTM := hTM.keepG E91 hdT.symm
     have hPM := hPM.keepG E91 hdP.symm
     have hB84 := hB84.keepG E91 dj87
     have hb := below_stepG hb E91 hb.size (fun k hk => (hTC_old.lt k hk).1)
     have dj95 : Dj FT F89 := Dj.stepF hN89 (fun k hk => (bd92 k hk).2) hdT.symm
     have dj96 : Dj FP F89 := Dj.stepF hN89 (fun k hk => (bd93 k hk).2) hdP.symm
     refine reg_nil (hK88 _ _ (one_reg (op_move (ev_base hN68 rfl s68_9) (op_move (ev_base hN68 rfl s68_1) (op_move (ev_base hN68 rfl s68_10) (op_index_rd slt33 (ev_hit hN68 rfl) hr2 (ev_hit hN68 rfl) (by omega) (by omega) ?_))))))
     intro b98 o99 h0b98 h1b98 hc100
     refine op_load1 (v := (Value.int .u16 ((l2.getD j 0).toNat : Int))) one37 (ev_hit hN68 rfl) (by have := hc100 0 (Value.int .u16 ((l2.getD j 0).toNat : Int)) (by decide) (el_u16 (i := j) (by omega) (by omega)); simpa using this) (op_conv (r := ((UInt8.ofNat (l2.getD j 0).toNat).toNat : Int)) (ev_hit hN68 rfl) us37 Try.underlying5 conv_u8 ?_)
     refine op_bslice (e := 5) (pv := [(0, (Value.int .u8 ((UInt8.ofNat (l2.getD j 0).toNat).toNat : Int))), (1, (Value.int .u8 7)), (2, (Value.int .u8 7))]) (cs := [(Value.int .u8 ((UInt8.ofNat (l2.getD j 0).toNat).toNat : Int)), (Value.int .u8 7), (Value.int .u8 7)]) ⟨rfl, (ev_hit hN68 rfl), ⟨rfl, rfl, ⟨rfl, rfl, trivial⟩⟩⟩ (by kernel_rfl) ?_
     intro w101 b102 lo_b102 hi_b102 hB104 E103
     have dj107 : ¬ F89 b102 := fun hf => by have := (hT89.lt _ hf).2; omega
     have z_w101 := E103.size
     have hr := hr.keep0 E103
     have hr2 := hr2.keep0 E103
     have hTM := hTM.kz E103
     have hPM := hPM.kz E103
     have hB84 := hB84.keep0 E103
     have hT89 := hT89.kz E103
     have hb := below_step0 hb E103 hb.size
     refine op_fn (vs := [(ptr pc61 0), (Value.slice (some ⟨b102, 0, none⟩) 3 3), (Value.int .i64 999)]) ok23 ⟨(ev_hit hN68 rfl), ⟨(ev_hit hN68 rfl), ⟨rfl, trivial⟩⟩⟩ (putB (k := [(UInt8.ofNat (l2.getD j 0).toNat), 7, 7]) (x := 999) hT89 hb.size (RdC.ofBx (sz := 1) (n := 3) hB104 rfl (by decide)) (by have := hB104.lt; omega) (hapB dj107) (by simp; done)) ?_
     rintro _ w109 ⟨E110, rfl, R108, F108, hT108, hN108⟩
     have bd111 := hTM.lt
     have bd112 := hPM.lt
     have bd113 := hB84.lt
     have bd114 := hB104.lt
     have hT89_old := hT89
     have z_w109 := E110.size
     have hr := hr.keepG E110 (fun k hk => .inr (by have := hT89_old.lt k hk; omega))
     have hr2 := hr2.keepG E110 (fun k hk => .inr (by have := hT89_old.lt k hk; omega))
     have hTM := hTM.keepG E110 dj95
     have hPM := hPM.keepG E110 dj96
     have hb := below_stepG hb E110 hb.size (fun k hk => (hT89_old.lt k hk).1)
     have dj115 : Dj FT F108 := Dj.stepF hN108 (fun k hk => (bd111 k hk).2) dj95
     have dj116 : Dj FP F108 := Dj.stepF hN108 (fun k hk => (bd112 k hk).2) dj96
     refine reg_nil (hK71 _ _ (one_reg (op_move (ev_base hN68 rfl s68_10) (op_add (ev_hit hN68 rfl) rfl (add64 (by omega)) ?_))))
     refine op_assign (ev_hit hN68 rfl) (reg_nil ?_)
     -- round 20F 24F 32F 61T
     exact loop_next _ hN68 hd68 ⟨(j + 1), (putL ([(UInt8.ofNat (l2.getD j 0).toNat), 7, 7]) 999 (Go.Bt.dropL ([(UInt8.ofNat ((l2.getD j 0).toNat / 256)), (UInt8.ofNat (l2.getD j 0).toNat)]) Mc)), R108, F108, rfl, (sl_base hN68 rfl s68_1), (sl_base hN68 rfl s68_4), (sl_base hN68 rfl s68_5), (sl_base hN68 rfl s68_6), (sl_base hN68 rfl s68_9), (sl_hit hN68 rfl).trans (congrArg (Value.int .i64) (by omega)), (by omega), (put_len (dropL_sorted hsC) (Nat.le_trans (drop_le hsC) hlC)), dj115.symm, dj116.symm, hb, (by omega), hr, hr2, hTM, hPM, hT108⟩ (by omega)
    ·
     refine reg_nil (hK70 _ _ (wp_cond_false (ev_hit hN68 rfl) (wp_exit (then_exit (then_exit (blk_hit ?_))))))
     refine hK66 _ _ (seq_any fun K119 hK119 => ?_)
     refine one_reg (op_assign rfl (reg_nil (hK119 _ _ (seq_any fun K120 hK120 => one_reg (op_build (pv := []) (v := (Value.agg #[(Value.pointer none)])) trivial (by kernel_rfl) ?_)))))
     refine op_box (cs := [(Value.pointer none)]) (ev_hit hN68 rfl) rfl ?_
     intro w121 b122 lo_b122 hi_b122 hB124 E123
     have z_w121 := E123.size
     have hTM := hTM.kz E123
     have hPM := hPM.kz E123
     have hTC := hTC.kz E123
     have hb := below_step0 hb E123 hb.size
     refine op_assign (ev_hit hN68 rfl) (reg_nil (hK120 _ _ (seq_any fun K128 hK128 => one_reg (op_move (ev_hit hN68 rfl) (op_fn (vs := [(Value.pointer none), (Value.slice none 0 0)]) ok30 ⟨(ev_hit hN68 rfl), ⟨rfl, trivial⟩⟩ (getNil) ?_)))))
     rintro _ w129 ⟨E130, rfl⟩
     have E130 := grown_of_below E130
     have z_w129 := E130.size
     have hTM := hTM.kz E130
     have hPM := hPM.kz E130
     have hTC := hTC.kz E130
     have hB124 := hB124.keep0 E130
     have hb := below_step0 hb E130 hb.size
     refine op_move (ev_hit hN68 rfl) (op_extract (ev_hit hN68 rfl) rfl ?_)
     refine op_extract (ev_hit hN68 rfl) rfl ?_
     refine op_assign (ev_hit hN68 rfl) (op_assign (ev_hit hN68 rfl) ?_)
     refine reg_nil (hK128 _ _ (seq_any fun K131 hK131 => one_reg (op_move (ev_base hN68 rfl s68_6) (op_move (ev_base hN68 rfl s68_5) (op_fn (vs := [(ptr b16 0), (ptr p11 0), (Value.slice none 0 0), (Value.int .i64 1000)]) ok32 ⟨(ev_hit hN68 rfl), ⟨(ev_hit hN68 rfl), ⟨rfl, ⟨rfl, trivial⟩⟩⟩⟩ (pairsScan (x := ([] : List UInt8)) (m := 1000) hTM hPM (by omega) (fun q hq => by rw [hsh q hq]; decide) (RdC.nil _ _ _ _) (by decide) (by decide)) ?_)))))
     rintro _ w132 ⟨E133, rfl⟩
     have E133 := grown_of_below E133
     have z_w132 := E133.size
     have hTM := hTM.kz E133
     have hTC := hTC.kz E133
     have hB124 := hB124.keep0 E133
     have hb := below_step0 hb E133 hb.size
     refine op_move (ev_hit hN68 rfl) (g_true (j := 3) (dj := 97) (b := true) rfl rfl rfl (ev_hit hN68 rfl) (op_move (ev_base hN68 rfl s68_5) (g_true (j := 3) (dj := 97) (b := true) rfl rfl rfl (ev_hit hN68 rfl) (op_fn (vs := [(ptr p11 0)]) ok26 ⟨(ev_hit hN68 rfl), trivial⟩ (shapeLs hTM (by omega)) ?_))))
     rintro _ w134 ⟨E135, rfl⟩
     have E135 := grown_of_below E135
     have z_w134 := E135.size
     have hTC := hTC.kz E135
     have hB124 := hB124.keep0 E135
     have hb := below_step0 hb E135 hb.size
     refine op_pick_t (ev_hit hN68 rfl) (ev_hit hN68 rfl) ?_
     refine op_move (ev_hit hN68 rfl) (g_true (j := 7) (dj := 101) (b := true) rfl rfl rfl (ev_hit hN68 rfl) (op_move (ev_base hN68 rfl s68_9) (g_true (j := 7) (dj := 101) (b := true) rfl rfl rfl (ev_hit hN68 rfl) ?_)))
     obtain ⟨F136, hs136⟩ := hTC.1.top
     refine op_fn (vs := [(ptr pc61 0)]) ok26 ⟨(ev_hit hN68 rfl), trivial⟩ (shapeLs hs136 (by omega)) ?_
     rintro _ w137 ⟨E138, rfl⟩
     have E138 := grown_of_below E138
     have z_w137 := E138.size
     have hB124 := hB124.keep0 E138
     have hb := below_step0 hb E138 hb.size
     refine op_pick_t (ev_hit hN68 rfl) (ev_hit hN68 rfl) ?_
     refine op_move (ev_hit hN68 rfl) (g_true (j := 11) (dj := 105) (b := true) rfl rfl rfl (ev_hit hN68 rfl) (op_move (ev_hit hN68 rfl) (g_true (j := 11) (dj := 105) (b := true) rfl rfl rfl (ev_hit hN68 rfl) (op_not (ev_hit hN68 rfl) ?_))))
     refine op_pick_t (ev_hit hN68 rfl) (ev_hit hN68 rfl) ?_
     refine op_move (ev_hit hN68 rfl) (g_true (j := 15) (dj := 109) (b := true) rfl rfl rfl (ev_hit hN68 rfl) (op_move (ev_hit hN68 rfl) (g_true (j := 15) (dj := 109) (b := true) rfl rfl rfl (ev_hit hN68 rfl) (op_fn (vs := [(Value.pointer none), (Value.slice none 0 0), (Value.int .i64 1)]) ok23 ⟨(ev_hit hN68 rfl), ⟨rfl, ⟨rfl, trivial⟩⟩⟩ (putNil) ?_))))
     rintro _ w139 ⟨E140, rfl⟩
     have E140 := grown_of_below E140
     have z_w139 := E140.size
     have hB124 := hB124.keep0 E140
     have hb := below_step0 hb E140 hb.size
     refine g_true (j := 15) (dj := 109) (b := true) rfl rfl rfl (ev_hit hN68 rfl) (op_not (ev_hit hN68 rfl) ?_)
     refine op_pick_t (ev_hit hN68 rfl) (ev_hit hN68 rfl) ?_
     refine op_move (ev_hit hN68 rfl) (g_true (j := 20) (dj := 114) (b := true) rfl rfl rfl (ev_hit hN68 rfl) (op_move (ev_hit hN68 rfl) (g_true (j := 20) (dj := 114) (b := true) rfl rfl rfl (ev_hit hN68 rfl) (op_fn (vs := [(Value.pointer none), (Value.slice none 0 0)]) ok28 ⟨(ev_hit hN68 rfl), ⟨rfl, trivial⟩⟩ (dropNil) ?_))))
     rintro _ w141 ⟨E142, rfl⟩
     have E142 := grown_of_below E142
     have z_w141 := E142.size
     have hB124 := hB124.keep0 E142
     have hb := below_step0 hb E142 hb.size
     refine g_true (j := 20) (dj := 114) (b := true) rfl rfl rfl (ev_hit hN68 rfl) (op_not (ev_hit hN68 rfl) ?_)
     refine op_pick_t (ev_hit hN68 rfl) (ev_hit hN68 rfl) ?_
     refine op_move (ev_hit hN68 rfl) (g_true (j := 25) (dj := 119) (b := true) rfl rfl rfl (ev_hit hN68 rfl) (op_move (ev_hit hN68 rfl) (g_true (j := 25) (dj := 119) (b := true) rfl rfl rfl (ev_hit hN68 rfl) (op_fn (vs := [(Value.pointer none), (Value.slice none 0 0), (Value.int .i64 5)]) ok24 ⟨(ev_hit hN68 rfl), ⟨rfl, ⟨rfl, trivial⟩⟩⟩ (scanNil) ?_))))
     rintro _ w143 ⟨E144, rfl⟩
     have E144 := grown_of_below E144
     have z_w143 := E144.size
     have hB124 := hB124.keep0 E144
     have hb := below_step0 hb E144 hb.size
     refine g_true (j := 25) (dj := 119) (b := true) rfl rfl rfl (ev_hit hN68 rfl) (op_len_rd Try.underlying48 (ev_hit hN68 rfl) (RdC.nil _ 0 0 1) ?_)
     refine g_true (j := 25) (dj := 119) (b := true) rfl rfl rfl (ev_hit hN68 rfl) (op_move (ev_hit hN68 rfl) (g_true (j := 25) (dj := 119) (b := true) rfl rfl rfl (ev_hit hN68 rfl) (op_fn (vs := [(Value.pointer none)]) ok25 ⟨(ev_hit hN68 rfl), trivial⟩ (lenNil) ?_)))
     rintro _ w145 ⟨E146, rfl⟩
     have E146 := grown_of_below E146
     have z_w145 := E146.size
     have hB124 := hB124.keep0 E146
     have hb := below_step0 hb E146 hb.size
     refine g_true (j := 25) (dj := 119) (b := true) rfl rfl rfl (ev_hit hN68 rfl) (op_add (r := 0) (ev_hit hN68 rfl) (ev_hit hN68 rfl) (by decide) ?_)
     refine g_true (j := 25) (dj := 119) (b := true) rfl rfl rfl (ev_hit hN68 rfl) (op_move (ev_hit hN68 rfl) (g_true (j := 25) (dj := 119) (b := true) rfl rfl rfl (ev_hit hN68 rfl) (op_fn (vs := [(Value.pointer none)]) ok33 ⟨(ev_hit hN68 rfl), trivial⟩ (levelsNil) ?_)))
     rintro _ w147 ⟨E148, rfl⟩
     have E148 := grown_of_below E148
     have z_w147 := E148.size
     have hB124 := hB124.keep0 E148
     have hb := below_step0 hb E148 hb.size
     refine g_true (j := 25) (dj := 119) (b := true) rfl rfl rfl (ev_hit hN68 rfl) (op_len_rd Try.underlying28 (ev_hit hN68 rfl) (RdC.nil _ 0 0 1) ?_)
     refine g_true (j := 25) (dj := 119) (b := true) rfl rfl rfl (ev_hit hN68 rfl) (op_add (r := 0) (ev_hit hN68 rfl) (ev_hit hN68 rfl) (by decide) ?_)
     refine g_true (j := 25) (dj := 119) (b := true) rfl rfl rfl (ev_hit hN68 rfl) (op_bin (v := .bool true) (ev_hit hN68 rfl) rfl (by rw [binOp_eql]; rfl) (op_pick_t (ev_hit hN68 rfl) (ev_hit hN68 rfl) ?_))
     refine op_move (ev_hit hN68 rfl) (g_true (j := 38) (dj := 132) (b := true) rfl rfl rfl (ev_hit hN68 rfl) (op_move (ev_hit hN68 rfl) (g_true (j := 38) (dj := 132) (b := true) rfl rfl rfl (ev_hit hN68 rfl) (op_fn (vs := [(Value.pointer none)]) ok34 ⟨(ev_hit hN68 rfl), trivial⟩ (copyNil) ?_))))
     rintro _ w149 ⟨E150, rfl⟩
     have E150 := grown_of_below E150
     have z_w149 := E150.size
     have hB124 := hB124.keep0 E150
     have hb := below_step0 hb E150 hb.size
     refine g_true (j := 38) (dj := 132) (b := true) rfl rfl rfl (ev_hit hN68 rfl) (op_peq_none ptrt45 (ev_hit hN68 rfl) rfl ?_)
     refine op_pick_t (ev_hit hN68 rfl) (ev_hit hN68 rfl) ?_
     refine op_move (ev_hit hN68 rfl) ?_
     have hTZ : TopL kI 71 w.heap.size w149 b122 [] (fun k => k = b122) := TopL.ofBx hB124 (by omega)
     refine g_true (j := 43) (dj := 137) (b := true) rfl rfl rfl (ev_hit hN68 rfl) (op_move (ev_hit hN68 rfl) (g_true (j := 43) (dj := 137) (b := true) rfl rfl rfl (ev_hit hN68 rfl) (op_fn (vs := [(ptr b122 0), (Value.slice none 0 0), (Value.int .i64 1)]) ok23 ⟨(ev_hit hN68 rfl), ⟨rfl, ⟨rfl, trivial⟩⟩⟩ (putLsE (k := []) (x := 1) (M := []) (M' := ([([], 1)] : List (Ky × Int))) (c := false) hTZ hb.size (RdC.nil _ 0 0 1) (Nat.zero_le _) (fun j _ => .inr (Nat.zero_le _)) (by decide) (by decide) (by decide)) ?_)))
     rintro _ w152 ⟨E153, rfl, F151, hT151, hN151⟩
     have hTZ_old := hTZ
     have z_w152 := E153.size
     have hb := below_stepG hb E153 hb.size (fun k hk => (hTZ_old.lt k hk).1)
     refine g_true (j := 43) (dj := 137) (b := true) rfl rfl rfl (ev_hit hN68 rfl) (op_not (ev_hit hN68 rfl) ?_)
     refine op_pick_t (ev_hit hN68 rfl) (ev_hit hN68 rfl) ?_
     refine op_move (ev_hit hN68 rfl) (g_true (j := 48) (dj := 142) (b := true) rfl rfl rfl (ev_hit hN68 rfl) (op_move (ev_hit hN68 rfl) (g_true (j := 48) (dj := 142) (b := true) rfl rfl rfl (ev_hit hN68 rfl) (op_fn (vs := [(ptr b122 0)]) ok25 ⟨(ev_hit hN68 rfl), trivial⟩ (lenLsI hT151 (by decide)) ?_))))
     rintro _ w154 ⟨E155, rfl⟩
     have E155 := grown_of_below E155
     have z_w154 := E155.size
     have hb := below_step0 hb E155 hb.size
     refine g_true (j := 48) (dj := 142) (b := true) rfl rfl rfl (ev_hit hN68 rfl) (op_eql (ev_hit hN68 rfl) rfl (fun c145 => ?_) (fun c145 => ?_))
     ·
      refine op_pick_t (ev_hit hN68 rfl) (ev_hit hN68 rfl) ?_
      refine op_assign (ev_hit hN68 rfl) (reg_nil (hK131 _ _ (wp_ret ?_)))
      refine ret1 rfl hd68 (ev_hit hN68 rfl) ⟨_, rfl, ?_⟩
      exact ⟨hb, rfl⟩
     ·
      exact absurd rfl c145

end Go.Proofs.Ytcpfdfejojghbaa

namespace Go.Proofs.Ytcpfdfejojghbaa
open Go.Gx Go.RowKit
theorem rd_le {w : World} {L B sz n : Nat} {v : Value} {cs : List Value} (h : RdC w L B sz v n cs) : n ≤ 9223372036854775807 := by obtain ⟨_, _, _, _, hq, hm, _⟩ := h; exact Nat.le_trans hq hm
theorem cells37 : Try.prog.cellsOf 37 = 1 := by kernel_rfl
theorem flat_u16v (l : List UInt16) : l.flatMap (fun c => [u16v c]) = l.map u16v := by induction l with | nil => rfl | cons c l ih => simp [ih]
theorem dec33 {H : Type} {enc : TypeId × Value → H} {w : World} {base : Nat} {spare : Nat → Bool} {held : Bool} : Dec enc Try.prog w base spare held 33 (fun p : Value × List UInt16 => [p.1]) (fun p => RdC w 0 w.heap.size 1 p.1 p.2.length (p.2.map u16v)) :=
  (Dec.slice Try.underlying33 (by rw [cells37]; decide) (Dec.u16 Try.underlying37) (fun _ _ => by rw [cells37]; rfl)).map fun p hp => ⟨p, rfl, by have hq := hp.1; rwa [cells37, flat_u16v] at hq⟩
end Go.Proofs.Ytcpfdfejojghbaa
