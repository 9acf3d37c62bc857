/- Walks, written by a program: what each function of the translation hands back. -/
import Derived.Test.YtmhdbphpmgjpcaaB4
namespace Go.Proofs.Ytmhdbphpmgjpcaa
open Go.Gx Go.RowKit
attribute [local irreducible] wpList wpStill Code.wp Calls

theorem CloneL (l : List UInt16) (v : Value) (w : World) (hz : l.length ≤ 1000000000000) (hl : RdC w 0 w.heap.size 1 v l.length (l.map u16v)) : Ret Try.prog 77 #[v] w (fun v' w' => Below w.heap.size w w' ∧ Own w' w.heap.size 46 1 v' l.length (l.map u16v)) := by
 have hb := Below.refl w.heap.size w
 refine enter (N := 8) Try.func77 rfl rfl (by simp) fun a0 hN hd hA => ?_
 have s0 : a0.tmps.getD 0 undef = v := hA 0 (by simp)
 clear hA
 refine seq_any fun K1 hK1 => ?_
 refine one_reg ?_
 refine op_assign rfl ?_
 refine reg_nil ?_
 refine hK1 _ _ ?_
 refine seq_any fun K2 hK2 => ?_
 refine seq_any fun K3 hK3 => ?_
 refine one_reg ?_
 refine op_move (ev_base hN rfl s0) ?_
 refine op_eql_nil slt54 (ev_hit hN rfl) rfl hl (fun c4 => ?_) ?_
 · -- 4T
  refine reg_nil ?_
  refine hK3 _ _ ?_
  refine wp_cond_true (ev_hit hN rfl) ?_
  refine seq_any fun K4 hK4 => ?_
  refine one_reg ?_
  refine op_assign rfl ?_
  refine reg_nil ?_
  refine hK4 _ _ ?_
  refine wp_ret (then_ret ( ?_))
  refine ret1 rfl hd (ev_hit hN rfl) ⟨_, rfl, ?_⟩
  -- path 4T
  exact ⟨hb, by rw [List.length_eq_zero_iff.1 c4]; exact Own.nil _ _ _ _⟩
 · -- 4F
  refine reg_nil ?_
  refine hK3 _ _ ?_
  refine wp_cond_false (ev_hit hN rfl) ?_
  refine wp_skip ?_
  refine hK2 _ _ ?_
  refine seq_any fun K5 hK5 => ?_
  refine one_reg ?_
  refine op_bslice (e := 46) (pv := []) (cs := []) trivial (by kernel_rfl) ?_
  intro w6 b7 lo_b7 hi_b7 hB9 E8
  have z_w6 := E8.size
  have hl := hl.keep0 E8
  have hb := below_step0 hb E8 hb.size
  refine op_move (ev_base hN rfl s0) ?_
  have hP15 := (Own.ofBx (base := w.heap.size) (sz := 1) (n := 0) hB9 rfl (by decide) (by omega))
  refine op_append slt54 (ev_hit hN rfl) hP15 (ev_hit hN rfl) (Src.ofRd Try.underlying54 (by decide) hl (one_u16 _)) (by unfold maxLen; omega) (by omega) hb.size ?_
  intro v10 w11 hO13 E12 hm14
  have z_w11 := E12.size
  have hl := hl.keepO hP15 E12 (by omega)
  have hb := below_stepO hb hP15 E12 hb.size (by omega)
  have hO13 : Own w11 w.heap.size 46 1 v10 (0 + l.length) ((l).map u16v) := by simpa [u8v, u16v, sv] using hO13
  refine op_assign (ev_hit hN rfl) ?_
  refine reg_nil ?_
  refine hK5 _ _ ?_
  refine wp_ret ?_
  refine ret1 rfl hd (ev_hit hN rfl) ⟨_, rfl, ?_⟩
  -- path 4F
  exact ⟨hb, hO13.cast (by simp) (by simp)⟩

theorem Sessions_ret {C : List KC} {n k m base : Nat} {lv : Value} {w : World} (hbase : base ≤ w.heap.size) (hn : n ≤ 6) (hC : C.length = n) (hx : Bx w k 134 [lv, .map (some m)]) (O : Own w base 137 3 lv n (C.flatMap cellsK)) : Ret Try.prog 49 #[(ptr k 0)] w (fun v' w' => v' = .int .i64 ((n : Nat) : Int) ∧ w' = w) := by
 have hb := Below.refl w.heap.size w
 refine enter (N := 10) Try.func49 rfl rfl (by simp) fun a0 hN hd hA => ?_
 have s0 : a0.tmps.getD 0 undef = (ptr k 0) := hA 0 (by simp)
 clear hA
 refine seq_any fun K16 hK16 => ?_
 refine one_reg ?_
 refine op_assign rfl ?_
 refine reg_nil ?_
 refine hK16 _ _ ?_
 refine seq_any fun K17 hK17 => ?_
 refine seq_any fun K18 hK18 => ?_
 refine one_reg ?_
 refine op_move (ev_base hN rfl s0) ?_
 refine op_peq_some ptrt50 (ev_hit hN rfl) rfl ?_
 refine reg_nil ?_
 refine hK18 _ _ ?_
 refine wp_cond_false (ev_hit hN rfl) ?_
 refine wp_skip ?_
 refine hK17 _ _ ?_
 refine seq_any fun K19 hK19 => ?_
 refine one_reg ?_
 refine op_move (ev_base hN rfl s0) ?_
 refine op_nil (ev_hit hN rfl) ?_
 refine op_field fld134_0 (ev_hit hN rfl) ?_
 refine op_load1 (v := lv) one132 (ev_hit hN rfl) (hx.cell rfl) ?_
 refine op_len_rd Try.underlying132 (ev_hit hN rfl) O.rdw ?_
 refine op_assign (ev_hit hN rfl) ?_
 refine reg_nil ?_
 refine hK19 _ _ ?_
 refine wp_ret ?_
 refine ret1 rfl hd (ev_hit hN rfl) ⟨_, rfl, ?_⟩
 -- path
 exact ⟨rfl, rfl⟩

theorem Sessions0_ret (w : World) : Ret Try.prog 49 #[(Value.pointer none)] w (fun v' w' => v' = .int .i64 0 ∧ w' = w) := by
 have hb := Below.refl w.heap.size w
 refine enter (N := 10) Try.func49 rfl rfl (by simp) fun a0 hN hd hA => ?_
 have s0 : a0.tmps.getD 0 undef = (Value.pointer none) := hA 0 (by simp)
 clear hA
 refine seq_any fun K20 hK20 => ?_
 refine one_reg ?_
 refine op_assign rfl ?_
 refine reg_nil ?_
 refine hK20 _ _ ?_
 refine seq_any fun K21 hK21 => ?_
 refine seq_any fun K22 hK22 => ?_
 refine one_reg ?_
 refine op_move (ev_base hN rfl s0) ?_
 refine op_peq_none ptrt50 (ev_hit hN rfl) rfl ?_
 refine reg_nil ?_
 refine hK22 _ _ ?_
 refine wp_cond_true (ev_hit hN rfl) ?_
 refine seq_any fun K23 hK23 => ?_
 refine one_reg ?_
 refine op_assign rfl ?_
 refine reg_nil ?_
 refine hK23 _ _ ?_
 refine wp_ret (then_ret ( ?_))
 refine ret1 rfl hd (ev_hit hN rfl) ⟨_, rfl, ?_⟩
 -- path
 exact ⟨rfl, rfl⟩

theorem Label1_ret {C : List KC} {n i k m p base : Nat} {lv la ow : Value} {l o : List UInt16} {T : List (List UInt8)} {Fi : Nat → Prop} {w : World} (hbase : base ≤ w.heap.size) (hn : n ≤ 6) (hi : i < n) (hc : C.length = n ∧ C.getD i default = ⟨la, ow, p, Fi⟩) (hx : Bx w k 134 [lv, .map (some m)]) (O : Own w base 137 3 lv n (C.flatMap cellsK)) (hL : Own w base 46 1 la l.length (l.map u16v)) (hW : Own w base 46 1 ow o.length (o.map u16v)) (hQ : PostS w base p 16 T Fi) {LL BB pb po : Nat} (hP : PtC w LL BB pb po [la, ow, ptr p 0]) (hll : l.length ≤ 100) : Ret Try.prog 82 #[(ptr pb po)] w (fun v' w' => Below w.heap.size w w' ∧ Own w' w.heap.size 46 1 v' l.length (l.map u16v)) := by
 have dk0 : ¬ Fi k := hQ.notBx hx (by decide) (by decide)
 have dlv0 : Dj (Bl lv) Fi := hQ.notOwn O (by decide) (by decide)
 have dla0 : Dj (Bl la) Fi := hQ.notOwn hL (by decide) (by decide)
 have dow0 : Dj (Bl ow) Fi := hQ.notOwn hW (by decide) (by decide)
 have hb := Below.refl w.heap.size w
 refine enter (N := 8) Try.func82 rfl rfl (by simp) fun a0 hN hd hA => ?_
 have s0 : a0.tmps.getD 0 undef = (ptr pb po) := hA 0 (by simp)
 clear hA
 refine seq_any fun K24 hK24 => ?_
 refine one_reg ?_
 refine op_assign rfl ?_
 refine reg_nil ?_
 refine hK24 _ _ ?_
 refine seq_any fun K25 hK25 => ?_
 refine one_reg ?_
 refine op_move (ev_base hN rfl s0) ?_
 refine op_nil (ev_hit hN rfl) ?_
 refine op_field fld137_0 (ev_hit hN rfl) ?_
 refine op_load1 (v := la) one54 (ev_hit hN rfl) (hP.2.2 0 _ rfl) ?_
 refine op_fn (vs := [la]) ok77 ⟨(ev_hit hN rfl), trivial⟩ (CloneL l _ _ (by omega) (hL.rdw.mono (Nat.zero_le _) (by omega))) ?_
 rintro v26 w27 ⟨E28, hO26⟩
 have dj29 : DJ v26 la := fun k hk hg => by have q1 := (hO26.lt k hk).1; have q2 := (hL.lt k hg).2; omega
 have dj30 : DJ v26 ow := fun k hk hg => by have q1 := (hO26.lt k hk).1; have q2 := (hW.lt k hg).2; omega
 have dj31 : Dj Fi (Bl v26) := Dj.fresh (fun k hk => (hQ.lt k hk).2) (fun k hk => (hO26.lt k hk).1)
 have E28 := grown_of_below E28
 have z_w27 := E28.size
 have hx := hx.keep0 E28
 have O := O.keep0 E28
 have hL := hL.keep0 E28
 have hW := hW.keep0 E28
 have hQ := hQ.keepG (Gr.of0 E28 NoB) (fun _ _ h => h)
 have hP := hP.keep0 E28
 have hb := below_step0 hb E28 hb.size
 have hO26 := hO26.mono (base' := w.heap.size) (by omega)
 refine op_assign (ev_hit hN rfl) ?_
 refine reg_nil ?_
 refine hK25 _ _ ?_
 refine wp_ret ?_
 refine ret1 rfl hd (ev_hit hN rfl) ⟨_, rfl, ?_⟩
 -- path
 exact ⟨hb, hO26⟩

theorem Owns1_ret {C : List KC} {n i k m p base : Nat} {lv la ow : Value} {l o : List UInt16} {T : List (List UInt8)} {Fi : Nat → Prop} {w : World} (hbase : base ≤ w.heap.size) (hn : n ≤ 6) (hi : i < n) (hc : C.length = n ∧ C.getD i default = ⟨la, ow, p, Fi⟩) (hx : Bx w k 134 [lv, .map (some m)]) (O : Own w base 137 3 lv n (C.flatMap cellsK)) (hL : Own w base 46 1 la l.length (l.map u16v)) (hW : Own w base 46 1 ow o.length (o.map u16v)) (hQ : PostS w base p 16 T Fi) {LL BB pb po : Nat} (hP : PtC w LL BB pb po [la, ow, ptr p 0]) (hll : o.length ≤ 100) : Ret Try.prog 83 #[(ptr pb po)] w (fun v' w' => Below w.heap.size w w' ∧ Own w' w.heap.size 46 1 v' o.length (o.map u16v)) := by
 have dk0 : ¬ Fi k := hQ.notBx hx (by decide) (by decide)
 have dlv0 : Dj (Bl lv) Fi := hQ.notOwn O (by decide) (by decide)
 have dla0 : Dj (Bl la) Fi := hQ.notOwn hL (by decide) (by decide)
 have dow0 : Dj (Bl ow) Fi := hQ.notOwn hW (by decide) (by decide)
 have hb := Below.refl w.heap.size w
 refine enter (N := 8) Try.func83 rfl rfl (by simp) fun a0 hN hd hA => ?_
 have s0 : a0.tmps.getD 0 undef = (ptr pb po) := hA 0 (by simp)
 clear hA
 refine seq_any fun K32 hK32 => ?_
 refine one_reg ?_
 refine op_assign rfl ?_
 refine reg_nil ?_
 refine hK32 _ _ ?_
 refine seq_any fun K33 hK33 => ?_
 refine one_reg ?_
 refine op_move (ev_base hN rfl s0) ?_
 refine op_nil (ev_hit hN rfl) ?_
 refine op_field fld137_1 (ev_hit hN rfl) ?_
 refine op_load1 (v := ow) one54 (ev_hit hN rfl) (hP.2.2 1 _ rfl) ?_
 refine op_fn (vs := [ow]) ok77 ⟨(ev_hit hN rfl), trivial⟩ (CloneL o _ _ (by omega) (hW.rdw.mono (Nat.zero_le _) (by omega))) ?_
 rintro v34 w35 ⟨E36, hO34⟩
 have dj37 : DJ v34 la := fun k hk hg => by have q1 := (hO34.lt k hk).1; have q2 := (hL.lt k hg).2; omega
 have dj38 : DJ v34 ow := fun k hk hg => by have q1 := (hO34.lt k hk).1; have q2 := (hW.lt k hg).2; omega
 have dj39 : Dj Fi (Bl v34) := Dj.fresh (fun k hk => (hQ.lt k hk).2) (fun k hk => (hO34.lt k hk).1)
 have E36 := grown_of_below E36
 have z_w35 := E36.size
 have hx := hx.keep0 E36
 have O := O.keep0 E36
 have hL := hL.keep0 E36
 have hW := hW.keep0 E36
 have hQ := hQ.keepG (Gr.of0 E36 NoB) (fun _ _ h => h)
 have hP := hP.keep0 E36
 have hb := below_step0 hb E36 hb.size
 have hO34 := hO34.mono (base' := w.heap.size) (by omega)
 refine op_assign (ev_hit hN rfl) ?_
 refine reg_nil ?_
 refine hK33 _ _ ?_
 refine wp_ret ?_
 refine ret1 rfl hd (ev_hit hN rfl) ⟨_, rfl, ?_⟩
 -- path
 exact ⟨hb, hO34⟩

theorem Head1_ret {bb : Nat} {C : List KC} {n i k m p base : Nat} {lv la ow : Value} {l o : List UInt16} {T : List (List UInt8)} {Fi : Nat → Prop} {w : World} (hbase : base ≤ w.heap.size) (hn : n ≤ 6) (hi : i < n) (hc : C.length = n ∧ C.getD i default = ⟨la, ow, p, Fi⟩) (hx : Bx w k 134 [lv, .map (some m)]) (O : Own w base 137 3 lv n (C.flatMap cellsK)) (hL : Own w base 46 1 la l.length (l.map u16v)) (hW : Own w base 46 1 ow o.length (o.map u16v)) (hQ : PostS w base p 16 T Fi) {LL BB pb po : Nat} (hP : PtC w LL BB pb po [la, ow, ptr p 0]) (hbf : ¬ Fi bb) (hbk : bb ≠ k) (hbb : Bx w bb 4 [.bool false]) : Ret Try.prog 87 #[(ptr pb po), (ptr bb 0)] w (fun v' w' => Gr w w' (fun x => Fi x ∨ x = bb) ∧ v' = .string (bs (T.getD 0 [])) ∧ Bx w' bb 4 [.bool (decide (0 < T.length))] ∧ ∃ F', PostS w' base p 16 T F' ∧ NewF w.heap.size Fi F') := by
 have dk0 : ¬ Fi k := hQ.notBx hx (by decide) (by decide)
 have dlv0 : Dj (Bl lv) Fi := hQ.notOwn O (by decide) (by decide)
 have dla0 : Dj (Bl la) Fi := hQ.notOwn hL (by decide) (by decide)
 have dow0 : Dj (Bl ow) Fi := hQ.notOwn hW (by decide) (by decide)
 have hb := Gr.refl w (fun x => Fi x ∨ x = bb)
 refine enter (N := 14) Try.func87 rfl rfl (by simp) fun a0 hN hd hA => ?_
 have s0 : a0.tmps.getD 0 undef = (ptr pb po) := hA 0 (by simp)
 have s1 : a0.tmps.getD 1 undef = (ptr bb 0) := hA 1 (by simp)
 clear hA
 refine seq_any fun K59 hK59 => ?_
 refine one_reg ?_
 refine op_assign rfl ?_
 refine reg_nil ?_
 refine hK59 _ _ ?_
 refine seq_any fun K60 hK60 => ?_
 refine one_reg ?_
 refine op_assign rfl ?_
 refine reg_nil ?_
 refine hK60 _ _ ?_
 refine seq_any fun K61 hK61 => ?_
 refine one_reg ?_
 refine op_move (ev_base hN rfl s0) ?_
 refine op_nil (ev_hit hN rfl) ?_
 refine op_field fld137_2 (ev_hit hN rfl) ?_
 refine op_load1 (v := (ptr p 0)) one24 (ev_hit hN rfl) (hP.2.2 2 _ rfl) ?_
 refine op_fn (vs := [(ptr p 0)]) ok19 ⟨(ev_hit hN rfl), trivial⟩ (HeadR_s (by omega) hQ) ?_
 rintro _ w63 ⟨E64, rfl, F62, hp62, hN62⟩
 have bd65 := hx.lt
 have bd66 := O.lt
 have bd67 := hL.lt
 have bd68 := hW.lt
 have bd69 := hbb.lt
 have hQ_old := hQ
 have z_w63 := E64.size
 have hx := hx.keepG E64 dk0
 have O := O.keepG E64 dlv0
 have hL := hL.keepG E64 dla0
 have hW := hW.keepG E64 dow0
 have hbb := hbb.keepG E64 hbf
 have hb := hb.stepF E64 (fun _ _ h => .inl h)
 have dj70 : ¬ F62 k := ne_stepF hN62 bd65 dk0
 have dj71 : Dj (Bl lv) F62 := Dj.stepF hN62 (fun k hk => (bd66 k hk).2) dlv0
 have dj72 : Dj (Bl la) F62 := Dj.stepF hN62 (fun k hk => (bd67 k hk).2) dla0
 have dj73 : Dj (Bl ow) F62 := Dj.stepF hN62 (fun k hk => (bd68 k hk).2) dow0
 have dj74 : ¬ F62 bb := ne_stepF hN62 bd69 hbf
 refine op_move (ev_hit hN rfl) ?_
 refine op_extract (ev_hit hN rfl) rfl ?_
 refine op_extract (ev_hit hN rfl) rfl ?_
 refine op_assign (ev_hit hN rfl) ?_
 have hbb_old := hbb
 refine op_store (vs := [(Value.bool (decide (0 < T.length)))]) (cs' := [(Value.bool (decide (0 < T.length)))]) size4 (ev_base hN rfl s1) (ev_hit hN rfl) rfl rfl rfl hbb (Nat.le_of_ble_eq_true rfl) rfl ?_
 intro w77 hbb E78
 have z_w77 := E78.size
 have hx := hx.keep E78 (by simp; omega)
 have O := O.keepX hbb_old E78 (by decide)
 have hL := hL.keepX hbb_old E78 (by decide)
 have hW := hW.keepX hbb_old E78 (by decide)
 have hp62 := hp62.keepG (Gr.of E78) (Dj.one dj74)
 have hb := hb.stepB E78 (.inr rfl)
 refine reg_nil ?_
 refine hK61 _ _ ?_
 refine seq_any fun K79 hK79 => ?_
 refine one_reg ?_
 refine op_move (ev_hit hN rfl) ?_
 refine op_assign (ev_hit hN rfl) ?_
 refine reg_nil ?_
 refine hK79 _ _ ?_
 refine wp_ret ?_
 refine ret1 rfl hd (ev_hit hN rfl) ⟨_, rfl, ?_⟩
 -- path
 exact ⟨hb, rfl, hbb, F62, hp62, hN62⟩

end Go.Proofs.Ytmhdbphpmgjpcaa

/- Walks, written by a program: what each function of the translation hands back. -/
namespace Go.Proofs.Ytmhdbphpmgjpcaa
open Go.Gx Go.RowKit
attribute [local irreducible] wpList wpStill Code.wp Calls

theorem ofLabel_ret {C : List KC} {n i k m p base : Nat} {lv la ow : Value} {l o : List UInt16} {T : List (List UInt8)} {Fi : Nat → Prop} {w : World} (hbase : base ≤ w.heap.size) (hn : n ≤ 6) (hi : i < n) (hc : C.length = n ∧ C.getD i default = ⟨la, ow, p, Fi⟩) (hx : Bx w k 134 [lv, .map (some m)]) (O : Own w base 137 3 lv n (C.flatMap cellsK)) (hL : Own w base 46 1 la l.length (l.map u16v)) (hW : Own w base 46 1 ow o.length (o.map u16v)) (hQ : PostS w base p 16 T Fi) (hll : l.length ≤ 100) : Ret Try.prog 81 #[(ptr k 0), (Value.int .i64 ((i : Nat) : Int)), (Value.func (.func 82) #[] #[])] w (fun v' w' => Below w.heap.size w w' ∧ Own w' w.heap.size 46 1 v' l.length (l.map u16v)) := by
 have dk0 : ¬ Fi k := hQ.notBx hx (by decide) (by decide)
 have dlv0 : Dj (Bl lv) Fi := hQ.notOwn O (by decide) (by decide)
 have dla0 : Dj (Bl la) Fi := hQ.notOwn hL (by decide) (by decide)
 have dow0 : Dj (Bl ow) Fi := hQ.notOwn hW (by decide) (by decide)
 have hb := Below.refl w.heap.size w
 refine enter (N := 25) Try.func81 rfl rfl (by simp) fun a0 hN hd hA => ?_
 have s0 : a0.tmps.getD 0 undef = (ptr k 0) := hA 0 (by simp)
 have s1 : a0.tmps.getD 1 undef = (Value.int .i64 ((i : Nat) : Int)) := hA 1 (by simp)
 have s2 : a0.tmps.getD 2 undef = (Value.func (.func 82) #[] #[]) := hA 2 (by simp)
 clear hA
 refine seq_any fun K1 hK1 => ?_
 refine one_reg ?_
 refine op_assign rfl ?_
 refine reg_nil ?_
 refine hK1 _ _ ?_
 refine seq_any fun K2 hK2 => ?_
 refine one_reg ?_
 refine op_assign rfl ?_
 refine reg_nil ?_
 refine hK2 _ _ ?_
 refine seq_any fun K3 hK3 => ?_
 refine seq_any fun K4 hK4 => ?_
 refine one_reg ?_
 refine op_move (ev_base hN rfl s1) ?_
 refine op_lss (ev_hit hN rfl) rfl (fun c9 => ?_) (fun c9 => ?_)
 · -- 9T
  exfalso; omega
 · -- 9F
  refine op_move (ev_hit hN rfl) ?_
  refine g_true (j := 2) (dj := 10) (b := false) rfl rfl rfl (ev_hit hN rfl) ?_
  refine op_move (ev_base hN rfl s1) ?_
  refine g_true (j := 2) (dj := 10) (b := false) rfl rfl rfl (ev_hit hN rfl) ?_
  refine op_move (ev_base hN rfl s0) ?_
  refine g_true (j := 2) (dj := 10) (b := false) rfl rfl rfl (ev_hit hN rfl) ?_
  refine op_fn (vs := [(ptr k 0)]) ok49 ⟨(ev_hit hN rfl), trivial⟩ (Ret.flip (Sessions_ret (base := base) (by omega) hn hc.1 hx O)) ?_
  rintro _ _ ⟨rfl, rfl⟩
  refine g_true (j := 2) (dj := 10) (b := false) rfl rfl rfl (ev_hit hN rfl) ?_
  refine op_geq (ev_hit hN rfl) (ev_hit hN rfl) (fun c14 => ?_) (fun c14 => ?_)
  · -- 14T
   exfalso; omega
  · -- 14F
   refine op_pick_f (ev_hit hN rfl) (ev_hit hN rfl) ?_
   refine reg_nil ?_
   refine hK4 _ _ ?_
   refine wp_cond_false (ev_hit hN rfl) ?_
   refine wp_skip ?_
   refine hK3 _ _ ?_
   refine seq_any fun K5 hK5 => ?_
   refine one_reg ?_
   refine op_move (ev_base hN rfl s2) ?_
   refine op_move (ev_base hN rfl s0) ?_
   refine op_nil (ev_hit hN rfl) ?_
   refine op_field fld134_0 (ev_hit hN rfl) ?_
   refine op_load1 (v := lv) one132 (ev_hit hN rfl) (hx.cell rfl) ?_
   refine op_move (ev_base hN rfl s1) ?_
   refine op_index_rd slt132 (ev_hit hN rfl) O.rdw (ev_hit hN rfl) (by omega) (by omega) ?_
   intro b6 o7 h0b6 h1b6 hc8
   have hp9 : PtC w b6 (b6 + 1) b6 o7 [la, ow, (ptr p 0)] := ⟨by omega, by omega, fun j u hu => hc8 j u (by have := (List.getElem?_eq_some_iff.1 hu).1; simpa using this) ((el_kc hc (by omega) (by omega)) j u hu)⟩
   refine op_fnv (fs := []) (vs := [(ptr b6 o7)]) (cs := []) (ev_hit hN rfl) ok82 ⟨(ev_hit hN rfl), trivial⟩ (Label1_ret (by omega) hn hi hc hx O hL hW hQ hp9 hll) ?_
   rintro v10 w11 ⟨E12, hO10⟩
   have dj13 : DJ v10 la := fun k hk hg => by have q1 := (hO10.lt k hk).1; have q2 := (hL.lt k hg).2; omega
   have dj14 : DJ v10 ow := fun k hk hg => by have q1 := (hO10.lt k hk).1; have q2 := (hW.lt k hg).2; omega
   have dj15 : Dj Fi (Bl v10) := Dj.fresh (fun k hk => (hQ.lt k hk).2) (fun k hk => (hO10.lt k hk).1)
   have E12 := grown_of_below E12
   have z_w11 := E12.size
   have hx := hx.keep0 E12
   have O := O.keep0 E12
   have hL := hL.keep0 E12
   have hW := hW.keep0 E12
   have hQ := hQ.keepG (Gr.of0 E12 NoB) (fun _ _ h => h)
   have hp9 := hp9.keep0 E12
   have hb := below_step0 hb E12 hb.size
   have hO10 := hO10.mono (base' := w.heap.size) (by omega)
   refine op_assign (ev_hit hN rfl) ?_
   refine reg_nil ?_
   refine hK5 _ _ ?_
   refine wp_ret ?_
   refine ret1 rfl hd (ev_hit hN rfl) ⟨_, rfl, ?_⟩
   -- path 9F 14F
   exact ⟨hb, hO10⟩

theorem ofOwns_ret {C : List KC} {n i k m p base : Nat} {lv la ow : Value} {l o : List UInt16} {T : List (List UInt8)} {Fi : Nat → Prop} {w : World} (hbase : base ≤ w.heap.size) (hn : n ≤ 6) (hi : i < n) (hc : C.length = n ∧ C.getD i default = ⟨la, ow, p, Fi⟩) (hx : Bx w k 134 [lv, .map (some m)]) (O : Own w base 137 3 lv n (C.flatMap cellsK)) (hL : Own w base 46 1 la l.length (l.map u16v)) (hW : Own w base 46 1 ow o.length (o.map u16v)) (hQ : PostS w base p 16 T Fi) (hll : o.length ≤ 100) : Ret Try.prog 81 #[(ptr k 0), (Value.int .i64 ((i : Nat) : Int)), (Value.func (.func 83) #[] #[])] w (fun v' w' => Below w.heap.size w w' ∧ Own w' w.heap.size 46 1 v' o.length (o.map u16v)) := by
 have dk0 : ¬ Fi k := hQ.notBx hx (by decide) (by decide)
 have dlv0 : Dj (Bl lv) Fi := hQ.notOwn O (by decide) (by decide)
 have dla0 : Dj (Bl la) Fi := hQ.notOwn hL (by decide) (by decide)
 have dow0 : Dj (Bl ow) Fi := hQ.notOwn hW (by decide) (by decide)
 have hb := Below.refl w.heap.size w
 refine enter (N := 25) Try.func81 rfl rfl (by simp) fun a0 hN hd hA => ?_
 have s0 : a0.tmps.getD 0 undef = (ptr k 0) := hA 0 (by simp)
 have s1 : a0.tmps.getD 1 undef = (Value.int .i64 ((i : Nat) : Int)) := hA 1 (by simp)
 have s2 : a0.tmps.getD 2 undef = (Value.func (.func 83) #[] #[]) := hA 2 (by simp)
 clear hA
 refine seq_any fun K16 hK16 => ?_
 refine one_reg ?_
 refine op_assign rfl ?_
 refine reg_nil ?_
 refine hK16 _ _ ?_
 refine seq_any fun K17 hK17 => ?_
 refine one_reg ?_
 refine op_assign rfl ?_
 refine reg_nil ?_
 refine hK17 _ _ ?_
 refine seq_any fun K18 hK18 => ?_
 refine seq_any fun K19 hK19 => ?_
 refine one_reg ?_
 refine op_move (ev_base hN rfl s1) ?_
 refine op_lss (ev_hit hN rfl) rfl (fun c9 => ?_) (fun c9 => ?_)
 · -- 9T
  exfalso; omega
 · -- 9F
  refine op_move (ev_hit hN rfl) ?_
  refine g_true (j := 2) (dj := 10) (b := false) rfl rfl rfl (ev_hit hN rfl) ?_
  refine op_move (ev_base hN rfl s1) ?_
  refine g_true (j := 2) (dj := 10) (b := false) rfl rfl rfl (ev_hit hN rfl) ?_
  refine op_move (ev_base hN rfl s0) ?_
  refine g_true (j := 2) (dj := 10) (b := false) rfl rfl rfl (ev_hit hN rfl) ?_
  refine op_fn (vs := [(ptr k 0)]) ok49 ⟨(ev_hit hN rfl), trivial⟩ (Ret.flip (Sessions_ret (base := base) (by omega) hn hc.1 hx O)) ?_
  rintro _ _ ⟨rfl, rfl⟩
  refine g_true (j := 2) (dj := 10) (b := false) rfl rfl rfl (ev_hit hN rfl) ?_
  refine op_geq (ev_hit hN rfl) (ev_hit hN rfl) (fun c14 => ?_) (fun c14 => ?_)
  · -- 14T
   exfalso; omega
  · -- 14F
   refine op_pick_f (ev_hit hN rfl) (ev_hit hN rfl) ?_
   refine reg_nil ?_
   refine hK19 _ _ ?_
   refine wp_cond_false (ev_hit hN rfl) ?_
   refine wp_skip ?_
   refine hK18 _ _ ?_
   refine seq_any fun K20 hK20 => ?_
   refine one_reg ?_
   refine op_move (ev_base hN rfl s2) ?_
   refine op_move (ev_base hN rfl s0) ?_
   refine op_nil (ev_hit hN rfl) ?_
   refine op_field fld134_0 (ev_hit hN rfl) ?_
   refine op_load1 (v := lv) one132 (ev_hit hN rfl) (hx.cell rfl) ?_
   refine op_move (ev_base hN rfl s1) ?_
   refine op_index_rd slt132 (ev_hit hN rfl) O.rdw (ev_hit hN rfl) (by omega) (by omega) ?_
   intro b21 o22 h0b21 h1b21 hc23
   have hp24 : PtC w b21 (b21 + 1) b21 o22 [la, ow, (ptr p 0)] := ⟨by omega, by omega, fun j u hu => hc23 j u (by have := (List.getElem?_eq_some_iff.1 hu).1; simpa using this) ((el_kc hc (by omega) (by omega)) j u hu)⟩
   refine op_fnv (fs := []) (vs := [(ptr b21 o22)]) (cs := []) (ev_hit hN rfl) ok83 ⟨(ev_hit hN rfl), trivial⟩ (Owns1_ret (by omega) hn hi hc hx O hL hW hQ hp24 hll) ?_
   rintro v25 w26 ⟨E27, hO25⟩
   have dj28 : DJ v25 la := fun k hk hg => by have q1 := (hO25.lt k hk).1; have q2 := (hL.lt k hg).2; omega
   have dj29 : DJ v25 ow := fun k hk hg => by have q1 := (hO25.lt k hk).1; have q2 := (hW.lt k hg).2; omega
   have dj30 : Dj Fi (Bl v25) := Dj.fresh (fun k hk => (hQ.lt k hk).2) (fun k hk => (hO25.lt k hk).1)
   have E27 := grown_of_below E27
   have z_w26 := E27.size
   have hx := hx.keep0 E27
   have O := O.keep0 E27
   have hL := hL.keep0 E27
   have hW := hW.keep0 E27
   have hQ := hQ.keepG (Gr.of0 E27 NoB) (fun _ _ h => h)
   have hp24 := hp24.keep0 E27
   have hb := below_step0 hb E27 hb.size
   have hO25 := hO25.mono (base' := w.heap.size) (by omega)
   refine op_assign (ev_hit hN rfl) ?_
   refine reg_nil ?_
   refine hK20 _ _ ?_
   refine wp_ret ?_
   refine ret1 rfl hd (ev_hit hN rfl) ⟨_, rfl, ?_⟩
   -- path 9F 14F
   exact ⟨hb, hO25⟩

theorem ofHead_ret {bb : Nat} {C : List KC} {n i k m p base : Nat} {lv la ow : Value} {l o : List UInt16} {T : List (List UInt8)} {Fi : Nat → Prop} {w : World} (hbase : base ≤ w.heap.size) (hn : n ≤ 6) (hi : i < n) (hc : C.length = n ∧ C.getD i default = ⟨la, ow, p, Fi⟩) (hx : Bx w k 134 [lv, .map (some m)]) (O : Own w base 137 3 lv n (C.flatMap cellsK)) (hL : Own w base 46 1 la l.length (l.map u16v)) (hW : Own w base 46 1 ow o.length (o.map u16v)) (hQ : PostS w base p 16 T Fi) (hbf : ¬ Fi bb) (hbk : bb ≠ k) (hbb : Bx w bb 4 [.bool false]) : Ret Try.prog 86 #[(ptr k 0), (Value.int .i64 ((i : Nat) : Int)), (Value.func (.func 87) #[] #[(ptr bb 0)])] w (fun v' w' => Gr w w' (fun x => Fi x ∨ x = bb) ∧ v' = .string (bs (T.getD 0 [])) ∧ Bx w' bb 4 [.bool (decide (0 < T.length))] ∧ ∃ F', PostS w' base p 16 T F' ∧ NewF w.heap.size Fi F') := by
 have dk0 : ¬ Fi k := hQ.notBx hx (by decide) (by decide)
 have dlv0 : Dj (Bl lv) Fi := hQ.notOwn O (by decide) (by decide)
 have dla0 : Dj (Bl la) Fi := hQ.notOwn hL (by decide) (by decide)
 have dow0 : Dj (Bl ow) Fi := hQ.notOwn hW (by decide) (by decide)
 have hb := Gr.refl w (fun x => Fi x ∨ x = bb)
 refine enter (N := 25) Try.func86 rfl rfl (by simp) fun a0 hN hd hA => ?_
 have s0 : a0.tmps.getD 0 undef = (ptr k 0) := hA 0 (by simp)
 have s1 : a0.tmps.getD 1 undef = (Value.int .i64 ((i : Nat) : Int)) := hA 1 (by simp)
 have s2 : a0.tmps.getD 2 undef = (Value.func (.func 87) #[] #[(ptr bb 0)]) := hA 2 (by simp)
 clear hA
 refine seq_any fun K62 hK62 => ?_
 refine one_reg ?_
 refine op_assign rfl ?_
 refine reg_nil ?_
 refine hK62 _ _ ?_
 refine seq_any fun K63 hK63 => ?_
 refine one_reg ?_
 refine op_assign rfl ?_
 refine reg_nil ?_
 refine hK63 _ _ ?_
 refine seq_any fun K64 hK64 => ?_
 refine seq_any fun K65 hK65 => ?_
 refine one_reg ?_
 refine op_move (ev_base hN rfl s1) ?_
 refine op_lss (ev_hit hN rfl) rfl (fun c9 => ?_) (fun c9 => ?_)
 · -- 9T
  exfalso; omega
 · -- 9F
  refine op_move (ev_hit hN rfl) ?_
  refine g_true (j := 2) (dj := 10) (b := false) rfl rfl rfl (ev_hit hN rfl) ?_
  refine op_move (ev_base hN rfl s1) ?_
  refine g_true (j := 2) (dj := 10) (b := false) rfl rfl rfl (ev_hit hN rfl) ?_
  refine op_move (ev_base hN rfl s0) ?_
  refine g_true (j := 2) (dj := 10) (b := false) rfl rfl rfl (ev_hit hN rfl) ?_
  refine op_fn (vs := [(ptr k 0)]) ok49 ⟨(ev_hit hN rfl), trivial⟩ (Ret.flip (Sessions_ret (base := base) (by omega) hn hc.1 hx O)) ?_
  rintro _ _ ⟨rfl, rfl⟩
  refine g_true (j := 2) (dj := 10) (b := false) rfl rfl rfl (ev_hit hN rfl) ?_
  refine op_geq (ev_hit hN rfl) (ev_hit hN rfl) (fun c14 => ?_) (fun c14 => ?_)
  · -- 14T
   exfalso; omega
  · -- 14F
   refine op_pick_f (ev_hit hN rfl) (ev_hit hN rfl) ?_
   refine reg_nil ?_
   refine hK65 _ _ ?_
   refine wp_cond_false (ev_hit hN rfl) ?_
   refine wp_skip ?_
   refine hK64 _ _ ?_
   refine seq_any fun K66 hK66 => ?_
   refine one_reg ?_
   refine op_move (ev_base hN rfl s2) ?_
   refine op_move (ev_base hN rfl s0) ?_
   refine op_nil (ev_hit hN rfl) ?_
   refine op_field fld134_0 (ev_hit hN rfl) ?_
   refine op_load1 (v := lv) one132 (ev_hit hN rfl) (hx.cell rfl) ?_
   refine op_move (ev_base hN rfl s1) ?_
   refine op_index_rd slt132 (ev_hit hN rfl) O.rdw (ev_hit hN rfl) (by omega) (by omega) ?_
   intro b67 o68 h0b67 h1b67 hc69
   have hp70 : PtC w b67 (b67 + 1) b67 o68 [la, ow, (ptr p 0)] := ⟨by omega, by omega, fun j u hu => hc69 j u (by have := (List.getElem?_eq_some_iff.1 hu).1; simpa using this) ((el_kc hc (by omega) (by omega)) j u hu)⟩
   refine op_fnv (fs := []) (vs := [(ptr b67 o68)]) (cs := [(ptr bb 0)]) (ev_hit hN rfl) ok87 ⟨(ev_hit hN rfl), trivial⟩ (Head1_ret (by omega) hn hi hc hx O hL hW hQ hp70 hbf hbk hbb) ?_
   rintro _ w72 ⟨E73, rfl, hB71, F71, hp71, hN71⟩
   have bd74 := hx.lt
   have bd75 := O.lt
   have bd76 := hL.lt
   have bd77 := hW.lt
   have bd78 := hbb.lt
   have dj79 : ¬ (fun x => Fi x ∨ x = bb) k := fun hy => by
     rcases hy with hy | hy
     · exact dk0 hy
     · exact hx.ne hbb (by decide) hy
   have dj80 : Dj (Bl lv) (fun x => Fi x ∨ x = bb) := fun x hx hy => by
     rcases hy with hy | rfl
     · exact dlv0 x hx hy
     · exact O.neB hbb (by decide) hx
   have dj81 : Dj (Bl la) (fun x => Fi x ∨ x = bb) := fun x hx hy => by
     rcases hy with hy | rfl
     · exact dla0 x hx hy
     · exact hL.neB hbb (by decide) hx
   have dj82 : Dj (Bl ow) (fun x => Fi x ∨ x = bb) := fun x hx hy => by
     rcases hy with hy | rfl
     · exact dow0 x hx hy
     · exact hW.neB hbb (by decide) hx
   have z_w72 := E73.size
   have hx := hx.keepG E73 dj79
   have O := O.keepG E73 dj80
   have hL := hL.keepG E73 dj81
   have hW := hW.keepG E73 dj82
   have hb := hb.stepF E73 (fun _ _ h => h)
   have dj83 : ¬ F71 k := ne_stepF hN71 bd74 dk0
   have dj84 : Dj (Bl lv) F71 := Dj.stepF hN71 (fun k hk => (bd75 k hk).2) dlv0
   have dj85 : Dj (Bl la) F71 := Dj.stepF hN71 (fun k hk => (bd76 k hk).2) dla0
   have dj86 : Dj (Bl ow) F71 := Dj.stepF hN71 (fun k hk => (bd77 k hk).2) dow0
   refine op_assign (ev_hit hN rfl) ?_
   refine reg_nil ?_
   refine hK66 _ _ ?_
   refine wp_ret ?_
   refine ret1 rfl hd (ev_hit hN rfl) ⟨_, rfl, ?_⟩
   -- path 9F 14F
   exact ⟨hb, rfl, hB71, F71, hp71, hN71⟩

theorem ofLabelOut_ret {C : List KC} {n k m base : Nat} {lv : Value} {s : Int} {fv : Value} {w : World} (hbase : base ≤ w.heap.size) (hn : n ≤ 6) (hC : C.length = n) (hx : Bx w k 134 [lv, .map (some m)]) (O : Own w base 137 3 lv n (C.flatMap cellsK)) (hs : s < 0 ∨ (n : Int) ≤ s) : Ret Try.prog 81 #[(ptr k 0), (Value.int .i64 s), fv] w (fun v' w' => Below w.heap.size w w' ∧ v' = .slice none 0 0) := by
 have hb := Below.refl w.heap.size w
 refine enter (N := 25) Try.func81 rfl rfl (by simp) fun a0 hN hd hA => ?_
 have s0 : a0.tmps.getD 0 undef = (ptr k 0) := hA 0 (by simp)
 have s1 : a0.tmps.getD 1 undef = (Value.int .i64 s) := hA 1 (by simp)
 have s2 : a0.tmps.getD 2 undef = fv := hA 2 (by simp)
 clear hA
 refine seq_any fun K87 hK87 => ?_
 refine one_reg ?_
 refine op_assign rfl ?_
 refine reg_nil ?_
 refine hK87 _ _ ?_
 refine seq_any fun K88 hK88 => ?_
 refine one_reg ?_
 refine op_assign rfl ?_
 refine reg_nil ?_
 refine hK88 _ _ ?_
 refine seq_any fun K89 hK89 => ?_
 refine seq_any fun K90 hK90 => ?_
 refine one_reg ?_
 refine op_move (ev_base hN rfl s1) ?_
 refine op_lss (ev_hit hN rfl) rfl (fun c9 => ?_) (fun c9 => ?_)
 · -- 9T
  refine op_move (ev_hit hN rfl) ?_
  refine g_false (j := 2) (dj := 10) (b := false) rfl rfl rfl (ev_hit hN rfl) rfl rfl ?_
  refine g_false (j := 2) (dj := 10) (b := false) rfl rfl rfl (ev_hit hN rfl) rfl rfl ?_
  refine g_false (j := 2) (dj := 10) (b := false) rfl rfl rfl (ev_hit hN rfl) rfl rfl ?_
  refine g_false (j := 2) (dj := 10) (b := false) rfl rfl rfl (ev_hit hN rfl) rfl rfl ?_
  refine op_pick_t (ev_hit hN rfl) rfl ?_
  refine reg_nil ?_
  refine hK90 _ _ ?_
  refine wp_cond_true (ev_hit hN rfl) ?_
  refine seq_any fun K91 hK91 => ?_
  refine one_reg ?_
  refine op_move (ev_hit hN rfl) ?_
  refine op_assign (ev_hit hN rfl) ?_
  refine reg_nil ?_
  refine hK91 _ _ ?_
  refine wp_ret (then_ret ( ?_))
  refine ret1 rfl hd (ev_hit hN rfl) ⟨_, rfl, ?_⟩
  -- path 9T
  exact ⟨hb, rfl⟩
 · -- 9F
  refine op_move (ev_hit hN rfl) ?_
  refine g_true (j := 2) (dj := 10) (b := false) rfl rfl rfl (ev_hit hN rfl) ?_
  refine op_move (ev_base hN rfl s1) ?_
  refine g_true (j := 2) (dj := 10) (b := false) rfl rfl rfl (ev_hit hN rfl) ?_
  refine op_move (ev_base hN rfl s0) ?_
  refine g_true (j := 2) (dj := 10) (b := false) rfl rfl rfl (ev_hit hN rfl) ?_
  refine op_fn (vs := [(ptr k 0)]) ok49 ⟨(ev_hit hN rfl), trivial⟩ (Ret.flip (Sessions_ret (base := base) (by omega) hn hC hx O)) ?_
  rintro _ _ ⟨rfl, rfl⟩
  refine g_true (j := 2) (dj := 10) (b := false) rfl rfl rfl (ev_hit hN rfl) ?_
  refine op_geq (ev_hit hN rfl) (ev_hit hN rfl) (fun c14 => ?_) (fun c14 => ?_)
  · -- 14T
   refine op_pick_f (ev_hit hN rfl) (ev_hit hN rfl) ?_
   refine reg_nil ?_
   refine hK90 _ _ ?_
   refine wp_cond_true (ev_hit hN rfl) ?_
   refine seq_any fun K92 hK92 => ?_
   refine one_reg ?_
   refine op_move (ev_hit hN rfl) ?_
   refine op_assign (ev_hit hN rfl) ?_
   refine reg_nil ?_
   refine hK92 _ _ ?_
   refine wp_ret (then_ret ( ?_))
   refine ret1 rfl hd (ev_hit hN rfl) ⟨_, rfl, ?_⟩
   -- path 9F 14T
   exact ⟨hb, rfl⟩
  · -- 14F
   exfalso; omega

theorem ofStrOut_ret {C : List KC} {n k m base : Nat} {lv : Value} {s : Int} {fv : Value} {w : World} (hbase : base ≤ w.heap.size) (hn : n ≤ 6) (hC : C.length = n) (hx : Bx w k 134 [lv, .map (some m)]) (O : Own w base 137 3 lv n (C.flatMap cellsK)) (hs : s < 0 ∨ (n : Int) ≤ s) : Ret Try.prog 86 #[(ptr k 0), (Value.int .i64 s), fv] w (fun v' w' => Below w.heap.size w w' ∧ v' = .string (bs [])) := by
 have hb := Below.refl w.heap.size w
 refine enter (N := 25) Try.func86 rfl rfl (by simp) fun a0 hN hd hA => ?_
 have s0 : a0.tmps.getD 0 undef = (ptr k 0) := hA 0 (by simp)
 have s1 : a0.tmps.getD 1 undef = (Value.int .i64 s) := hA 1 (by simp)
 have s2 : a0.tmps.getD 2 undef = fv := hA 2 (by simp)
 clear hA
 refine seq_any fun K105 hK105 => ?_
 refine one_reg ?_
 refine op_assign rfl ?_
 refine reg_nil ?_
 refine hK105 _ _ ?_
 refine seq_any fun K106 hK106 => ?_
 refine one_reg ?_
 refine op_assign rfl ?_
 refine reg_nil ?_
 refine hK106 _ _ ?_
 refine seq_any fun K107 hK107 => ?_
 refine seq_any fun K108 hK108 => ?_
 refine one_reg ?_
 refine op_move (ev_base hN rfl s1) ?_
 refine op_lss (ev_hit hN rfl) rfl (fun c9 => ?_) (fun c9 => ?_)
 · -- 9T
  refine op_move (ev_hit hN rfl) ?_
  refine g_false (j := 2) (dj := 10) (b := false) rfl rfl rfl (ev_hit hN rfl) rfl rfl ?_
  refine g_false (j := 2) (dj := 10) (b := false) rfl rfl rfl (ev_hit hN rfl) rfl rfl ?_
  refine g_false (j := 2) (dj := 10) (b := false) rfl rfl rfl (ev_hit hN rfl) rfl rfl ?_
  refine g_false (j := 2) (dj := 10) (b := false) rfl rfl rfl (ev_hit hN rfl) rfl rfl ?_
  refine op_pick_t (ev_hit hN rfl) rfl ?_
  refine reg_nil ?_
  refine hK108 _ _ ?_
  refine wp_cond_true (ev_hit hN rfl) ?_
  refine seq_any fun K109 hK109 => ?_
  refine one_reg ?_
  refine op_move (ev_hit hN rfl) ?_
  refine op_assign (ev_hit hN rfl) ?_
  refine reg_nil ?_
  refine hK109 _ _ ?_
  refine wp_ret (then_ret ( ?_))
  refine ret1 rfl hd (ev_hit hN rfl) ⟨_, rfl, ?_⟩
  -- path 9T
  exact ⟨hb, rfl⟩
 · -- 9F
  refine op_move (ev_hit hN rfl) ?_
  refine g_true (j := 2) (dj := 10) (b := false) rfl rfl rfl (ev_hit hN rfl) ?_
  refine op_move (ev_base hN rfl s1) ?_
  refine g_true (j := 2) (dj := 10) (b := false) rfl rfl rfl (ev_hit hN rfl) ?_
  refine op_move (ev_base hN rfl s0) ?_
  refine g_true (j := 2) (dj := 10) (b := false) rfl rfl rfl (ev_hit hN rfl) ?_
  refine op_fn (vs := [(ptr k 0)]) ok49 ⟨(ev_hit hN rfl), trivial⟩ (Ret.flip (Sessions_ret (base := base) (by omega) hn hC hx O)) ?_
  rintro _ _ ⟨rfl, rfl⟩
  refine g_true (j := 2) (dj := 10) (b := false) rfl rfl rfl (ev_hit hN rfl) ?_
  refine op_geq (ev_hit hN rfl) (ev_hit hN rfl) (fun c14 => ?_) (fun c14 => ?_)
  · -- 14T
   refine op_pick_f (ev_hit hN rfl) (ev_hit hN rfl) ?_
   refine reg_nil ?_
   refine hK108 _ _ ?_
   refine wp_cond_true (ev_hit hN rfl) ?_
   refine seq_any fun K110 hK110 => ?_
   refine one_reg ?_
   refine op_move (ev_hit hN rfl) ?_
   refine op_assign (ev_hit hN rfl) ?_
   refine reg_nil ?_
   refine hK110 _ _ ?_
   refine wp_ret (then_ret ( ?_))
   refine ret1 rfl hd (ev_hit hN rfl) ⟨_, rfl, ?_⟩
   -- path 9F 14T
   exact ⟨hb, rfl⟩
  · -- 14F
   exfalso; omega

theorem ofIntNil_ret (s : Int) (fv : Value) (w : World) : Ret Try.prog 84 #[(Value.pointer none), (Value.int .i64 s), fv] w (fun v' w' => Below w.heap.size w w' ∧ v' = .int .i64 0) := by
 have hb := Below.refl w.heap.size w
 refine enter (N := 25) Try.func84 rfl rfl (by simp) fun a0 hN hd hA => ?_
 have s0 : a0.tmps.getD 0 undef = (Value.pointer none) := hA 0 (by simp)
 have s1 : a0.tmps.getD 1 undef = (Value.int .i64 s) := hA 1 (by simp)
 have s2 : a0.tmps.getD 2 undef = fv := hA 2 (by simp)
 clear hA
 refine seq_any fun K111 hK111 => ?_
 refine one_reg ?_
 refine op_assign rfl ?_
 refine reg_nil ?_
 refine hK111 _ _ ?_
 refine seq_any fun K112 hK112 => ?_
 refine one_reg ?_
 refine op_assign rfl ?_
 refine reg_nil ?_
 refine hK112 _ _ ?_
 refine seq_any fun K113 hK113 => ?_
 refine seq_any fun K114 hK114 => ?_
 refine one_reg ?_
 refine op_move (ev_base hN rfl s1) ?_
 refine op_lss (ev_hit hN rfl) rfl (fun c9 => ?_) (fun c9 => ?_)
 · -- 9T
  refine op_move (ev_hit hN rfl) ?_
  refine g_false (j := 2) (dj := 10) (b := false) rfl rfl rfl (ev_hit hN rfl) rfl rfl ?_
  refine g_false (j := 2) (dj := 10) (b := false) rfl rfl rfl (ev_hit hN rfl) rfl rfl ?_
  refine g_false (j := 2) (dj := 10) (b := false) rfl rfl rfl (ev_hit hN rfl) rfl rfl ?_
  refine g_false (j := 2) (dj := 10) (b := false) rfl rfl rfl (ev_hit hN rfl) rfl rfl ?_
  refine op_pick_t (ev_hit hN rfl) rfl ?_
  refine reg_nil ?_
  refine hK114 _ _ ?_
  refine wp_cond_true (ev_hit hN rfl) ?_
  refine seq_any fun K115 hK115 => ?_
  refine one_reg ?_
  refine op_move (ev_hit hN rfl) ?_
  refine op_assign (ev_hit hN rfl) ?_
  refine reg_nil ?_
  refine hK115 _ _ ?_
  refine wp_ret (then_ret ( ?_))
  refine ret1 rfl hd (ev_hit hN rfl) ⟨_, rfl, ?_⟩
  -- path 9T
  exact ⟨hb, rfl⟩
 · -- 9F
  refine op_move (ev_hit hN rfl) ?_
  refine g_true (j := 2) (dj := 10) (b := false) rfl rfl rfl (ev_hit hN rfl) ?_
  refine op_move (ev_base hN rfl s1) ?_
  refine g_true (j := 2) (dj := 10) (b := false) rfl rfl rfl (ev_hit hN rfl) ?_
  refine op_move (ev_base hN rfl s0) ?_
  refine g_true (j := 2) (dj := 10) (b := false) rfl rfl rfl (ev_hit hN rfl) ?_
  refine op_fn (vs := [(Value.pointer none)]) ok49 ⟨(ev_hit hN rfl), trivial⟩ (Ret.flip (Sessions0_ret _)) ?_
  rintro _ _ ⟨rfl, rfl⟩
  refine g_true (j := 2) (dj := 10) (b := false) rfl rfl rfl (ev_hit hN rfl) ?_
  refine op_geq (ev_hit hN rfl) (ev_hit hN rfl) (fun c14 => ?_) (fun c14 => ?_)
  · -- 14T
   refine op_pick_f (ev_hit hN rfl) (ev_hit hN rfl) ?_
   refine reg_nil ?_
   refine hK114 _ _ ?_
   refine wp_cond_true (ev_hit hN rfl) ?_
   refine seq_any fun K116 hK116 => ?_
   refine one_reg ?_
   refine op_move (ev_hit hN rfl) ?_
   refine op_assign (ev_hit hN rfl) ?_
   refine reg_nil ?_
   refine hK116 _ _ ?_
   refine wp_ret (then_ret ( ?_))
   refine ret1 rfl hd (ev_hit hN rfl) ⟨_, rfl, ?_⟩
   -- path 9F 14T
   exact ⟨hb, rfl⟩
  · -- 14F
   exfalso; omega

theorem ofBoolNil_ret (s : Int) (fv : Value) (w : World) : Ret Try.prog 88 #[(Value.pointer none), (Value.int .i64 s), fv] w (fun v' w' => Below w.heap.size w w' ∧ v' = .bool false) := by
 have hb := Below.refl w.heap.size w
 refine enter (N := 25) Try.func88 rfl rfl (by simp) fun a0 hN hd hA => ?_
 have s0 : a0.tmps.getD 0 undef = (Value.pointer none) := hA 0 (by simp)
 have s1 : a0.tmps.getD 1 undef = (Value.int .i64 s) := hA 1 (by simp)
 have s2 : a0.tmps.getD 2 undef = fv := hA 2 (by simp)
 clear hA
 refine seq_any fun K117 hK117 => ?_
 refine one_reg ?_
 refine op_assign rfl ?_
 refine reg_nil ?_
 refine hK117 _ _ ?_
 refine seq_any fun K118 hK118 => ?_
 refine one_reg ?_
 refine op_assign rfl ?_
 refine reg_nil ?_
 refine hK118 _ _ ?_
 refine seq_any fun K119 hK119 => ?_
 refine seq_any fun K120 hK120 => ?_
 refine one_reg ?_
 refine op_move (ev_base hN rfl s1) ?_
 refine op_lss (ev_hit hN rfl) rfl (fun c9 => ?_) (fun c9 => ?_)
 · -- 9T
  refine op_move (ev_hit hN rfl) ?_
  refine g_false (j := 2) (dj := 10) (b := false) rfl rfl rfl (ev_hit hN rfl) rfl rfl ?_
  refine g_false (j := 2) (dj := 10) (b := false) rfl rfl rfl (ev_hit hN rfl) rfl rfl ?_
  refine g_false (j := 2) (dj := 10) (b := false) rfl rfl rfl (ev_hit hN rfl) rfl rfl ?_
  refine g_false (j := 2) (dj := 10) (b := false) rfl rfl rfl (ev_hit hN rfl) rfl rfl ?_
  refine op_pick_t (ev_hit hN rfl) rfl ?_
  refine reg_nil ?_
  refine hK120 _ _ ?_
  refine wp_cond_true (ev_hit hN rfl) ?_
  refine seq_any fun K121 hK121 => ?_
  refine one_reg ?_
  refine op_move (ev_hit hN rfl) ?_
  refine op_assign (ev_hit hN rfl) ?_
  refine reg_nil ?_
  refine hK121 _ _ ?_
  refine wp_ret (then_ret ( ?_))
  refine ret1 rfl hd (ev_hit hN rfl) ⟨_, rfl, ?_⟩
  -- path 9T
  exact ⟨hb, rfl⟩
 · -- 9F
  refine op_move (ev_hit hN rfl) ?_
  refine g_true (j := 2) (dj := 10) (b := false) rfl rfl rfl (ev_hit hN rfl) ?_
  refine op_move (ev_base hN rfl s1) ?_
  refine g_true (j := 2) (dj := 10) (b := false) rfl rfl rfl (ev_hit hN rfl) ?_
  refine op_move (ev_base hN rfl s0) ?_
  refine g_true (j := 2) (dj := 10) (b := false) rfl rfl rfl (ev_hit hN rfl) ?_
  refine op_fn (vs := [(Value.pointer none)]) ok49 ⟨(ev_hit hN rfl), trivial⟩ (Ret.flip (Sessions0_ret _)) ?_
  rintro _ _ ⟨rfl, rfl⟩
  refine g_true (j := 2) (dj := 10) (b := false) rfl rfl rfl (ev_hit hN rfl) ?_
  refine op_geq (ev_hit hN rfl) (ev_hit hN rfl) (fun c14 => ?_) (fun c14 => ?_)
  · -- 14T
   refine op_pick_f (ev_hit hN rfl) (ev_hit hN rfl) ?_
   refine reg_nil ?_
   refine hK120 _ _ ?_
   refine wp_cond_true (ev_hit hN rfl) ?_
   refine seq_any fun K122 hK122 => ?_
   refine one_reg ?_
   refine op_move (ev_hit hN rfl) ?_
   refine op_assign (ev_hit hN rfl) ?_
   refine reg_nil ?_
   refine hK122 _ _ ?_
   refine wp_ret (then_ret ( ?_))
   refine ret1 rfl hd (ev_hit hN rfl) ⟨_, rfl, ?_⟩
   -- path 9F 14T
   exact ⟨hb, rfl⟩
  · -- 14F
   exfalso; omega

end Go.Proofs.Ytmhdbphpmgjpcaa

/- Walks, written by a program: what each function of the translation hands back. -/
namespace Go.Proofs.Ytmhdbphpmgjpcaa
open Go.Gx Go.RowKit
attribute [local irreducible] wpList wpStill Code.wp Calls

theorem LabelIn {C : List KC} {n i k m p base : Nat} {lv la ow : Value} {l o : List UInt16} {T : List (List UInt8)} {Fi : Nat → Prop} {w : World} (hbase : base ≤ w.heap.size) (hn : n ≤ 6) (hi : i < n) (hc : C.length = n ∧ C.getD i default = ⟨la, ow, p, Fi⟩) (hx : Bx w k 134 [lv, .map (some m)]) (O : Own w base 137 3 lv n (C.flatMap cellsK)) (hL : Own w base 46 1 la l.length (l.map u16v)) (hW : Own w base 46 1 ow o.length (o.map u16v)) (hQ : PostS w base p 16 T Fi) (hll : l.length ≤ 100) : Ret Try.prog 37 #[(ptr k 0), (Value.int .i64 ((i : Nat) : Int))] w (fun v' w' => Below w.heap.size w w' ∧ Own w' w.heap.size 46 1 v' l.length (l.map u16v)) := by
 have dk0 : ¬ Fi k := hQ.notBx hx (by decide) (by decide)
 have dlv0 : Dj (Bl lv) Fi := hQ.notOwn O (by decide) (by decide)
 have dla0 : Dj (Bl la) Fi := hQ.notOwn hL (by decide) (by decide)
 have dow0 : Dj (Bl ow) Fi := hQ.notOwn hW (by decide) (by decide)
 have hb := Below.refl w.heap.size w
 refine enter (N := 8) Try.func37 rfl rfl (by simp) fun a0 hN hd hA => ?_
 have s0 : a0.tmps.getD 0 undef = (ptr k 0) := hA 0 (by simp)
 have s1 : a0.tmps.getD 1 undef = (Value.int .i64 ((i : Nat) : Int)) := hA 1 (by simp)
 clear hA
 refine seq_any fun K1 hK1 => ?_
 refine one_reg ?_
 refine op_assign rfl ?_
 refine reg_nil ?_
 refine hK1 _ _ ?_
 refine seq_any fun K2 hK2 => ?_
 refine one_reg ?_
 refine op_move (ev_base hN rfl s0) ?_
 refine op_move (ev_base hN rfl s1) ?_
 refine op_fn (vs := [(ptr k 0), (Value.int .i64 ((i : Nat) : Int)), (Value.func (.func 82) #[] #[])]) ok81 ⟨(ev_hit hN rfl), ⟨(ev_hit hN rfl), ⟨rfl, trivial⟩⟩⟩ (ofLabel_ret (by omega) hn hi hc hx O hL hW hQ hll) ?_
 rintro v3 w4 ⟨E5, hO3⟩
 have dj6 : DJ v3 la := fun k hk hg => by have q1 := (hO3.lt k hk).1; have q2 := (hL.lt k hg).2; omega
 have dj7 : DJ v3 ow := fun k hk hg => by have q1 := (hO3.lt k hk).1; have q2 := (hW.lt k hg).2; omega
 have dj8 : Dj Fi (Bl v3) := Dj.fresh (fun k hk => (hQ.lt k hk).2) (fun k hk => (hO3.lt k hk).1)
 have E5 := grown_of_below E5
 have z_w4 := E5.size
 have hx := hx.keep0 E5
 have O := O.keep0 E5
 have hL := hL.keep0 E5
 have hW := hW.keep0 E5
 have hQ := hQ.keepG (Gr.of0 E5 NoB) (fun _ _ h => h)
 have hb := below_step0 hb E5 hb.size
 have hO3 := hO3.mono (base' := w.heap.size) (by omega)
 refine op_assign (ev_hit hN rfl) ?_
 refine reg_nil ?_
 refine hK2 _ _ ?_
 refine wp_ret ?_
 refine ret1 rfl hd (ev_hit hN rfl) ⟨_, rfl, ?_⟩
 -- path
 exact ⟨hb, hO3⟩

theorem OwnsIn {C : List KC} {n i k m p base : Nat} {lv la ow : Value} {l o : List UInt16} {T : List (List UInt8)} {Fi : Nat → Prop} {w : World} (hbase : base ≤ w.heap.size) (hn : n ≤ 6) (hi : i < n) (hc : C.length = n ∧ C.getD i default = ⟨la, ow, p, Fi⟩) (hx : Bx w k 134 [lv, .map (some m)]) (O : Own w base 137 3 lv n (C.flatMap cellsK)) (hL : Own w base 46 1 la l.length (l.map u16v)) (hW : Own w base 46 1 ow o.length (o.map u16v)) (hQ : PostS w base p 16 T Fi) (hll : o.length ≤ 100) : Ret Try.prog 38 #[(ptr k 0), (Value.int .i64 ((i : Nat) : Int))] w (fun v' w' => Below w.heap.size w w' ∧ Own w' w.heap.size 46 1 v' o.length (o.map u16v)) := by
 have dk0 : ¬ Fi k := hQ.notBx hx (by decide) (by decide)
 have dlv0 : Dj (Bl lv) Fi := hQ.notOwn O (by decide) (by decide)
 have dla0 : Dj (Bl la) Fi := hQ.notOwn hL (by decide) (by decide)
 have dow0 : Dj (Bl ow) Fi := hQ.notOwn hW (by decide) (by decide)
 have hb := Below.refl w.heap.size w
 refine enter (N := 8) Try.func38 rfl rfl (by simp) fun a0 hN hd hA => ?_
 have s0 : a0.tmps.getD 0 undef = (ptr k 0) := hA 0 (by simp)
 have s1 : a0.tmps.getD 1 undef = (Value.int .i64 ((i : Nat) : Int)) := hA 1 (by simp)
 clear hA
 refine seq_any fun K9 hK9 => ?_
 refine one_reg ?_
 refine op_assign rfl ?_
 refine reg_nil ?_
 refine hK9 _ _ ?_
 refine seq_any fun K10 hK10 => ?_
 refine one_reg ?_
 refine op_move (ev_base hN rfl s0) ?_
 refine op_move (ev_base hN rfl s1) ?_
 refine op_fn (vs := [(ptr k 0), (Value.int .i64 ((i : Nat) : Int)), (Value.func (.func 83) #[] #[])]) ok81 ⟨(ev_hit hN rfl), ⟨(ev_hit hN rfl), ⟨rfl, trivial⟩⟩⟩ (ofOwns_ret (by omega) hn hi hc hx O hL hW hQ hll) ?_
 rintro v11 w12 ⟨E13, hO11⟩
 have dj14 : DJ v11 la := fun k hk hg => by have q1 := (hO11.lt k hk).1; have q2 := (hL.lt k hg).2; omega
 have dj15 : DJ v11 ow := fun k hk hg => by have q1 := (hO11.lt k hk).1; have q2 := (hW.lt k hg).2; omega
 have dj16 : Dj Fi (Bl v11) := Dj.fresh (fun k hk => (hQ.lt k hk).2) (fun k hk => (hO11.lt k hk).1)
 have E13 := grown_of_below E13
 have z_w12 := E13.size
 have hx := hx.keep0 E13
 have O := O.keep0 E13
 have hL := hL.keep0 E13
 have hW := hW.keep0 E13
 have hQ := hQ.keepG (Gr.of0 E13 NoB) (fun _ _ h => h)
 have hb := below_step0 hb E13 hb.size
 have hO11 := hO11.mono (base' := w.heap.size) (by omega)
 refine op_assign (ev_hit hN rfl) ?_
 refine reg_nil ?_
 refine hK10 _ _ ?_
 refine wp_ret ?_
 refine ret1 rfl hd (ev_hit hN rfl) ⟨_, rfl, ?_⟩
 -- path
 exact ⟨hb, hO11⟩

theorem HeadIn {C : List KC} {n i k m p base : Nat} {lv la ow : Value} {l o : List UInt16} {T : List (List UInt8)} {Fi : Nat → Prop} {w : World} (hbase : base ≤ w.heap.size) (hn : n ≤ 6) (hi : i < n) (hc : C.length = n ∧ C.getD i default = ⟨la, ow, p, Fi⟩) (hx : Bx w k 134 [lv, .map (some m)]) (O : Own w base 137 3 lv n (C.flatMap cellsK)) (hL : Own w base 46 1 la l.length (l.map u16v)) (hW : Own w base 46 1 ow o.length (o.map u16v)) (hQ : PostS w base p 16 T Fi) : Ret Try.prog 41 #[(ptr k 0), (Value.int .i64 ((i : Nat) : Int))] w (fun v' w' => Gr w w' Fi ∧ v' = .tuple #[.string (bs (T.getD 0 [])), .bool (decide (0 < T.length))] ∧ ∃ F', PostS w' base p 16 T F' ∧ NewF w.heap.size Fi F') := by
 have dk0 : ¬ Fi k := hQ.notBx hx (by decide) (by decide)
 have dlv0 : Dj (Bl lv) Fi := hQ.notOwn O (by decide) (by decide)
 have dla0 : Dj (Bl la) Fi := hQ.notOwn hL (by decide) (by decide)
 have dow0 : Dj (Bl ow) Fi := hQ.notOwn hW (by decide) (by decide)
 have hxl := hx.lt
 have hb := Gr.refl w Fi
 refine enter (N := 14) Try.func41 rfl rfl (by simp) fun a0 hN hd hA => ?_
 have s0 : a0.tmps.getD 0 undef = (ptr k 0) := hA 0 (by simp)
 have s1 : a0.tmps.getD 1 undef = (Value.int .i64 ((i : Nat) : Int)) := hA 1 (by simp)
 clear hA
 refine seq_any fun K34 hK34 => ?_
 refine one_reg ?_
 refine op_assign rfl ?_
 refine op_assign rfl ?_
 refine reg_nil ?_
 refine hK34 _ _ ?_
 refine seq_any fun K35 hK35 => ?_
 refine one_reg ?_
 refine op_alloc (cs := [(Value.bool false)]) zero4 rfl ?_
 intro w36 b37 lo_b37 hi_b37 hB39 E38
 have dj40 : ¬ Fi b37 := fun hf => by have := (hQ.lt _ hf).2; omega
 have z_w36 := E38.size
 have hx := hx.keep0 E38
 have O := O.keep0 E38
 have hL := hL.keep0 E38
 have hW := hW.keep0 E38
 have hQ := hQ.keepG (Gr.of0 E38 NoB) (fun _ _ h => h)
 have hb := hb.step0 E38
 refine reg_nil ?_
 refine hK35 _ _ ?_
 refine seq_any fun K41 hK41 => ?_
 refine one_reg ?_
 refine op_move (ev_base hN rfl s0) ?_
 refine op_move (ev_base hN rfl s1) ?_
 refine op_mkfn (cv := [(ptr b37 0)]) ⟨(ev_hit hN rfl), trivial⟩ ?_
 refine op_fn (vs := [(ptr k 0), (Value.int .i64 ((i : Nat) : Int)), (Value.func (.func 87) #[] #[(ptr b37 0)])]) ok86 ⟨(ev_hit hN rfl), ⟨(ev_hit hN rfl), ⟨(ev_hit hN rfl), trivial⟩⟩⟩ (ofHead_ret (by omega) hn hi hc hx O hL hW hQ dj40 (by omega) hB39) ?_
 rintro _ w43 ⟨E44, rfl, hB42, F42, hp42, hN42⟩
 have bd45 := hx.lt
 have bd46 := O.lt
 have bd47 := hL.lt
 have bd48 := hW.lt
 have bd49 := hB39.lt
 have dj50 : ¬ (fun x => Fi x ∨ x = b37) k := fun hy => by
   rcases hy with hy | hy
   · exact dk0 hy
   · exact hx.ne hB39 (by decide) hy
 have dj51 : Dj (Bl lv) (fun x => Fi x ∨ x = b37) := fun x hx hy => by
   rcases hy with hy | rfl
   · exact dlv0 x hx hy
   · exact O.neB hB39 (by decide) hx
 have dj52 : Dj (Bl la) (fun x => Fi x ∨ x = b37) := fun x hx hy => by
   rcases hy with hy | rfl
   · exact dla0 x hx hy
   · exact hL.neB hB39 (by decide) hx
 have dj53 : Dj (Bl ow) (fun x => Fi x ∨ x = b37) := fun x hx hy => by
   rcases hy with hy | rfl
   · exact dow0 x hx hy
   · exact hW.neB hB39 (by decide) hx
 have z_w43 := E44.size
 have hx := hx.keepG E44 dj50
 have O := O.keepG E44 dj51
 have hL := hL.keepG E44 dj52
 have hW := hW.keepG E44 dj53
 have hb := hb.stepF E44 (fun x hx hy => by
   rcases hy with hy | rfl
   · exact hy
   · omega)
 have dj54 : ¬ F42 k := ne_stepF hN42 bd45 dk0
 have dj55 : Dj (Bl lv) F42 := Dj.stepF hN42 (fun k hk => (bd46 k hk).2) dlv0
 have dj56 : Dj (Bl la) F42 := Dj.stepF hN42 (fun k hk => (bd47 k hk).2) dla0
 have dj57 : Dj (Bl ow) F42 := Dj.stepF hN42 (fun k hk => (bd48 k hk).2) dow0
 refine op_assign (ev_hit hN rfl) ?_
 refine reg_nil ?_
 refine hK41 _ _ ?_
 refine seq_any fun K58 hK58 => ?_
 refine reg_still mixed (by kernel_rfl) ?_
 intro w60 E59
 have z_w60 := E59.size
 have hx := hx.keep0 E59
 have O := O.keep0 E59
 have hL := hL.keep0 E59
 have hW := hW.keep0 E59
 have hp42 := hp42.keepG (Gr.of0 E59 NoB) (fun _ _ h => h)
 have hB42 := hB42.keep0 E59
 have hb := hb.step0 E59
 refine st_step rfl (fun _ h9 => op_move (ev_hit hN rfl) h9) ?_
 refine st_step rfl (fun _ h9 => op_load1 (v := (Value.bool (decide (0 < T.length)))) one4 (ev_hit hN rfl) (hB42.cell rfl) h9) ?_
 refine st_step rfl (fun _ h9 => op_assign (ev_hit hN rfl) h9) ?_
 refine st_step rfl (fun _ h9 => op_assign (ev_hit hN rfl) h9) ?_
 refine st_nil ?_
 refine hK58 _ _ ?_
 refine wp_ret ?_
 refine ret2 rfl hd (ev_hit hN rfl) (ev_hit hN rfl) ⟨_, rfl, ?_⟩
 -- path
 exact ⟨hb, rfl, F42, hp42, hN42.mono (by omega)⟩

theorem SayIn (x : List UInt8) {C : List KC} {n i k m p base : Nat} {lv la ow : Value} {l o : List UInt16} {T : List (List UInt8)} {Fi : Nat → Prop} {w : World} (hbase : base ≤ w.heap.size) (hn : n ≤ 6) (hi : i < n) (hc : C.length = n ∧ C.getD i default = ⟨la, ow, p, Fi⟩) (hx : Bx w k 134 [lv, .map (some m)]) (O : Own w base 137 3 lv n (C.flatMap cellsK)) (hL : Own w base 46 1 la l.length (l.map u16v)) (hW : Own w base 46 1 ow o.length (o.map u16v)) (hQ : PostS w base p 16 T Fi) : Ret Try.prog 40 #[(ptr k 0), (Value.int .i64 ((i : Nat) : Int)), (Value.string (bs x))] w (fun v' w' => Gr w w' Fi ∧ v' = .int .i64 (if T.length < 16 then 0 else 25) ∧ PostS w' base p 16 (postL 16 T x) Fi) := by
 have dk0 : ¬ Fi k := hQ.notBx hx (by decide) (by decide)
 have dlv0 : Dj (Bl lv) Fi := hQ.notOwn O (by decide) (by decide)
 have dla0 : Dj (Bl la) Fi := hQ.notOwn hL (by decide) (by decide)
 have dow0 : Dj (Bl ow) Fi := hQ.notOwn hW (by decide) (by decide)
 have hb := Gr.refl w Fi
 refine enter (N := 34) Try.func40 rfl rfl (by simp) fun a0 hN hd hA => ?_
 have s0 : a0.tmps.getD 0 undef = (ptr k 0) := hA 0 (by simp)
 have s1 : a0.tmps.getD 1 undef = (Value.int .i64 ((i : Nat) : Int)) := hA 1 (by simp)
 have s2 : a0.tmps.getD 2 undef = (Value.string (bs x)) := hA 2 (by simp)
 clear hA
 refine seq_any fun K61 hK61 => ?_
 refine one_reg ?_
 refine op_assign rfl ?_
 refine reg_nil ?_
 refine hK61 _ _ ?_
 refine seq_any fun K62 hK62 => ?_
 refine wp_block ?_
 refine seq_any fun K63 hK63 => ?_
 refine one_reg ?_
 refine op_move (ev_base hN rfl s0) ?_
 refine op_peq_some ptrt50 (ev_hit hN rfl) rfl ?_
 refine op_assign (ev_hit hN rfl) ?_
 refine reg_nil ?_
 refine hK63 _ _ ?_
 refine wp_cond_false (ev_hit hN rfl) ?_
 refine seq_any fun K64 hK64 => ?_
 refine one_reg ?_
 refine op_move (ev_base hN rfl s1) ?_
 refine op_lss (ev_hit hN rfl) rfl (fun c12 => ?_) (fun c12 => ?_)
 · -- 12T
  exfalso; omega
 · -- 12F
  refine op_move (ev_hit hN rfl) ?_
  refine g_true (j := 2) (dj := 13) (b := false) rfl rfl rfl (ev_hit hN rfl) ?_
  refine op_move (ev_base hN rfl s1) ?_
  refine g_true (j := 2) (dj := 13) (b := false) rfl rfl rfl (ev_hit hN rfl) ?_
  refine op_move (ev_base hN rfl s0) ?_
  refine g_true (j := 2) (dj := 13) (b := false) rfl rfl rfl (ev_hit hN rfl) ?_
  refine op_nil (ev_hit hN rfl) ?_
  refine g_true (j := 2) (dj := 13) (b := false) rfl rfl rfl (ev_hit hN rfl) ?_
  refine op_field fld134_0 (ev_hit hN rfl) ?_
  refine g_true (j := 2) (dj := 13) (b := false) rfl rfl rfl (ev_hit hN rfl) ?_
  refine op_load1 (v := lv) one132 (ev_hit hN rfl) (hx.cell rfl) ?_
  refine g_true (j := 2) (dj := 13) (b := false) rfl rfl rfl (ev_hit hN rfl) ?_
  refine op_len_rd Try.underlying132 (ev_hit hN rfl) O.rdw ?_
  refine g_true (j := 2) (dj := 13) (b := false) rfl rfl rfl (ev_hit hN rfl) ?_
  refine op_geq (ev_hit hN rfl) (ev_hit hN rfl) (fun c20 => ?_) (fun c20 => ?_)
  · -- 20T
   exfalso; omega
  · -- 20F
   refine op_pick_f (ev_hit hN rfl) (ev_hit hN rfl) ?_
   refine op_assign (ev_hit hN rfl) ?_
   refine reg_nil ?_
   refine hK64 _ _ ?_
   refine wp_cond_false (ev_hit hN rfl) ?_
   refine seq_any fun K65 hK65 => ?_
   refine one_reg ?_
   refine op_move (ev_base hN rfl s0) ?_
   refine op_nil (ev_hit hN rfl) ?_
   refine op_field fld134_0 (ev_hit hN rfl) ?_
   refine op_load1 (v := lv) one132 (ev_hit hN rfl) (hx.cell rfl) ?_
   refine op_move (ev_base hN rfl s1) ?_
   refine op_index_rd slt132 (ev_hit hN rfl) O.rdw (ev_hit hN rfl) (by omega) (by omega) ?_
   intro b66 o67 h0b66 h1b66 hc68
   refine op_field fld137_2 (ev_hit hN rfl) ?_
   refine op_load1 (v := (ptr p 0)) one24 (ev_hit hN rfl) (hc68 2 ((ptr p 0)) (by decide) ((el_kc hc (by omega) (by omega)) 2 ((ptr p 0)) rfl)) ?_
   refine op_move (ev_base hN rfl s2) ?_
   refine op_fn (vs := [(ptr p 0), (Value.string (bs x))]) ok18 ⟨(ev_hit hN rfl), ⟨(ev_hit hN rfl), trivial⟩⟩ (PutR_s x (by omega) hQ) ?_
   rintro _ w70 ⟨E71, rfl, hp69⟩
   have hQ_old := hQ
   have z_w70 := E71.size
   have hx := hx.keepG E71 dk0
   have O := O.keepG E71 dlv0
   have hL := hL.keepG E71 dla0
   have hW := hW.keepG E71 dow0
   have hb := hb.stepF E71 (fun _ _ h => h)
   refine op_not (ev_hit hN rfl) ?_
   refine op_assign (ev_hit hN rfl) ?_
   refine reg_nil ?_
   refine hK65 _ _ ?_
   refine wp_cond_split (ev_hit hN rfl) (fun c22 => ?_) (fun c22 => ?_)
   · -- 22T
    refine seq_any fun K72 hK72 => ?_
    refine one_reg ?_
    refine op_assign rfl ?_
    refine reg_nil ?_
    refine hK72 _ _ ?_
    refine wp_ret (blk_ret (then_ret ( ?_)))
    refine ret1 rfl hd (ev_hit hN rfl) ⟨_, rfl, ?_⟩
    -- path 12F 20F 22T
    exact ⟨hb, congrArg (Value.int .i64) (if_neg (by have := c22; simp at this; omega)).symm, hp69⟩
   · -- 22F
    refine wp_skip ?_
    refine hK62 _ _ ?_
    refine seq_any fun K73 hK73 => ?_
    refine one_reg ?_
    refine op_assign rfl ?_
    refine reg_nil ?_
    refine hK73 _ _ ?_
    refine wp_ret ?_
    refine ret1 rfl hd (ev_hit hN rfl) ⟨_, rfl, ?_⟩
    -- path 12F 20F 22F
    exact ⟨hb, congrArg (Value.int .i64) (if_pos (by have := c22; simp at this; omega)).symm, hp69⟩

theorem LabelOut {C : List KC} {n k m base : Nat} {lv : Value} {s : Int}  {w : World} (hbase : base ≤ w.heap.size) (hn : n ≤ 6) (hC : C.length = n) (hx : Bx w k 134 [lv, .map (some m)]) (O : Own w base 137 3 lv n (C.flatMap cellsK)) (hs : s < 0 ∨ (n : Int) ≤ s) : Ret Try.prog 37 #[(ptr k 0), (Value.int .i64 s)] w (fun v' w' => Below w.heap.size w w' ∧ v' = .slice none 0 0) := by
 have hb := Below.refl w.heap.size w
 refine enter (N := 8) Try.func37 rfl rfl (by simp) fun a0 hN hd hA => ?_
 have s0 : a0.tmps.getD 0 undef = (ptr k 0) := hA 0 (by simp)
 have s1 : a0.tmps.getD 1 undef = (Value.int .i64 s) := hA 1 (by simp)
 clear hA
 refine seq_any fun K74 hK74 => ?_
 refine one_reg ?_
 refine op_assign rfl ?_
 refine reg_nil ?_
 refine hK74 _ _ ?_
 refine seq_any fun K75 hK75 => ?_
 refine one_reg ?_
 refine op_move (ev_base hN rfl s0) ?_
 refine op_move (ev_base hN rfl s1) ?_
 refine op_fn (vs := [(ptr k 0), (Value.int .i64 s), (Value.func (.func 82) #[] #[])]) ok81 ⟨(ev_hit hN rfl), ⟨(ev_hit hN rfl), ⟨rfl, trivial⟩⟩⟩ (ofLabelOut_ret (base := base) (by omega) hn hC hx O (by omega)) ?_
 rintro _ w76 ⟨E77, rfl⟩
 have E77 := grown_of_below E77
 have z_w76 := E77.size
 have hx := hx.keep0 E77
 have O := O.keep0 E77
 have hb := below_step0 hb E77 hb.size
 refine op_assign (ev_hit hN rfl) ?_
 refine reg_nil ?_
 refine hK75 _ _ ?_
 refine wp_ret ?_
 refine ret1 rfl hd (ev_hit hN rfl) ⟨_, rfl, ?_⟩
 -- path
 exact ⟨hb, rfl⟩

theorem OwnsOut {C : List KC} {n k m base : Nat} {lv : Value} {s : Int}  {w : World} (hbase : base ≤ w.heap.size) (hn : n ≤ 6) (hC : C.length = n) (hx : Bx w k 134 [lv, .map (some m)]) (O : Own w base 137 3 lv n (C.flatMap cellsK)) (hs : s < 0 ∨ (n : Int) ≤ s) : Ret Try.prog 38 #[(ptr k 0), (Value.int .i64 s)] w (fun v' w' => Below w.heap.size w w' ∧ v' = .slice none 0 0) := by
 have hb := Below.refl w.heap.size w
 refine enter (N := 8) Try.func38 rfl rfl (by simp) fun a0 hN hd hA => ?_
 have s0 : a0.tmps.getD 0 undef = (ptr k 0) := hA 0 (by simp)
 have s1 : a0.tmps.getD 1 undef = (Value.int .i64 s) := hA 1 (by simp)
 clear hA
 refine seq_any fun K78 hK78 => ?_
 refine one_reg ?_
 refine op_assign rfl ?_
 refine reg_nil ?_
 refine hK78 _ _ ?_
 refine seq_any fun K79 hK79 => ?_
 refine one_reg ?_
 refine op_move (ev_base hN rfl s0) ?_
 refine op_move (ev_base hN rfl s1) ?_
 refine op_fn (vs := [(ptr k 0), (Value.int .i64 s), (Value.func (.func 83) #[] #[])]) ok81 ⟨(ev_hit hN rfl), ⟨(ev_hit hN rfl), ⟨rfl, trivial⟩⟩⟩ (ofLabelOut_ret (base := base) (by omega) hn hC hx O (by omega)) ?_
 rintro _ w80 ⟨E81, rfl⟩
 have E81 := grown_of_below E81
 have z_w80 := E81.size
 have hx := hx.keep0 E81
 have O := O.keep0 E81
 have hb := below_step0 hb E81 hb.size
 refine op_assign (ev_hit hN rfl) ?_
 refine reg_nil ?_
 refine hK79 _ _ ?_
 refine wp_ret ?_
 refine ret1 rfl hd (ev_hit hN rfl) ⟨_, rfl, ?_⟩
 -- path
 exact ⟨hb, rfl⟩

theorem HeadOut {C : List KC} {n k m base : Nat} {lv : Value} {s : Int}  {w : World} (hbase : base ≤ w.heap.size) (hn : n ≤ 6) (hC : C.length = n) (hx : Bx w k 134 [lv, .map (some m)]) (O : Own w base 137 3 lv n (C.flatMap cellsK)) (hs : s < 0 ∨ (n : Int) ≤ s) : Ret Try.prog 41 #[(ptr k 0), (Value.int .i64 s)] w (fun v' w' => Below w.heap.size w w' ∧ v' = .tuple #[.string (bs []), .bool false]) := by
 have hb := Below.refl w.heap.size w
 refine enter (N := 14) Try.func41 rfl rfl (by simp) fun a0 hN hd hA => ?_
 have s0 : a0.tmps.getD 0 undef = (ptr k 0) := hA 0 (by simp)
 have s1 : a0.tmps.getD 1 undef = (Value.int .i64 s) := hA 1 (by simp)
 clear hA
 refine seq_any fun K90 hK90 => ?_
 refine one_reg ?_
 refine op_assign rfl ?_
 refine op_assign rfl ?_
 refine reg_nil ?_
 refine hK90 _ _ ?_
 refine seq_any fun K91 hK91 => ?_
 refine one_reg ?_
 refine op_alloc (cs := [(Value.bool false)]) zero4 rfl ?_
 intro w92 b93 lo_b93 hi_b93 hB95 E94
 have z_w92 := E94.size
 have hx := hx.keep0 E94
 have O := O.keep0 E94
 have hb := below_step0 hb E94 hb.size
 refine reg_nil ?_
 refine hK91 _ _ ?_
 refine seq_any fun K96 hK96 => ?_
 refine one_reg ?_
 refine op_move (ev_base hN rfl s0) ?_
 refine op_move (ev_base hN rfl s1) ?_
 refine op_mkfn (cv := [(ptr b93 0)]) ⟨(ev_hit hN rfl), trivial⟩ ?_
 refine op_fn (vs := [(ptr k 0), (Value.int .i64 s), (Value.func (.func 87) #[] #[(ptr b93 0)])]) ok86 ⟨(ev_hit hN rfl), ⟨(ev_hit hN rfl), ⟨(ev_hit hN rfl), trivial⟩⟩⟩ (ofStrOut_ret (base := base) (by omega) hn hC hx O (by omega)) ?_
 rintro _ w97 ⟨E98, rfl⟩
 have E98 := grown_of_below E98
 have z_w97 := E98.size
 have hx := hx.keep0 E98
 have O := O.keep0 E98
 have hB95 := hB95.keep0 E98
 have hb := below_step0 hb E98 hb.size
 refine op_assign (ev_hit hN rfl) ?_
 refine reg_nil ?_
 refine hK96 _ _ ?_
 refine seq_any fun K99 hK99 => ?_
 refine reg_still mixed (by kernel_rfl) ?_
 intro w101 E100
 have z_w101 := E100.size
 have hx := hx.keep0 E100
 have O := O.keep0 E100
 have hB95 := hB95.keep0 E100
 have hb := below_step0 hb E100 hb.size
 refine st_step rfl (fun _ h9 => op_move (ev_hit hN rfl) h9) ?_
 refine st_step rfl (fun _ h9 => op_load1 (v := (Value.bool false)) one4 (ev_hit hN rfl) (hB95.cell rfl) h9) ?_
 refine st_step rfl (fun _ h9 => op_assign (ev_hit hN rfl) h9) ?_
 refine st_step rfl (fun _ h9 => op_assign (ev_hit hN rfl) h9) ?_
 refine st_nil ?_
 refine hK99 _ _ ?_
 refine wp_ret ?_
 refine ret2 rfl hd (ev_hit hN rfl) (ev_hit hN rfl) ⟨_, rfl, ?_⟩
 -- path
 exact ⟨hb, rfl⟩

theorem SayOut (x : List UInt8) {C : List KC} {n k m base : Nat} {lv : Value} {s : Int}  {w : World} (hbase : base ≤ w.heap.size) (hn : n ≤ 6) (hC : C.length = n) (hx : Bx w k 134 [lv, .map (some m)]) (O : Own w base 137 3 lv n (C.flatMap cellsK)) (hs : s < 0 ∨ (n : Int) ≤ s) : Ret Try.prog 40 #[(ptr k 0), (Value.int .i64 s), (Value.string (bs x))] w (fun v' w' => Below w.heap.size w w' ∧ v' = .int .i64 22) := by
 have hb := Below.refl w.heap.size w
 refine enter (N := 34) Try.func40 rfl rfl (by simp) fun a0 hN hd hA => ?_
 have s0 : a0.tmps.getD 0 undef = (ptr k 0) := hA 0 (by simp)
 have s1 : a0.tmps.getD 1 undef = (Value.int .i64 s) := hA 1 (by simp)
 have s2 : a0.tmps.getD 2 undef = (Value.string (bs x)) := hA 2 (by simp)
 clear hA
 refine seq_any fun K102 hK102 => ?_
 refine one_reg ?_
 refine op_assign rfl ?_
 refine reg_nil ?_
 refine hK102 _ _ ?_
 refine seq_any fun K103 hK103 => ?_
 refine wp_block ?_
 refine seq_any fun K104 hK104 => ?_
 refine one_reg ?_
 refine op_move (ev_base hN rfl s0) ?_
 refine op_peq_some ptrt50 (ev_hit hN rfl) rfl ?_
 refine op_assign (ev_hit hN rfl) ?_
 refine reg_nil ?_
 refine hK104 _ _ ?_
 refine wp_cond_false (ev_hit hN rfl) ?_
 refine seq_any fun K105 hK105 => ?_
 refine one_reg ?_
 refine op_move (ev_base hN rfl s1) ?_
 refine op_lss (ev_hit hN rfl) rfl (fun c12 => ?_) (fun c12 => ?_)
 · -- 12T
  refine op_move (ev_hit hN rfl) ?_
  refine g_false (j := 2) (dj := 13) (b := false) rfl rfl rfl (ev_hit hN rfl) rfl rfl ?_
  refine g_false (j := 2) (dj := 13) (b := false) rfl rfl rfl (ev_hit hN rfl) rfl rfl ?_
  refine g_false (j := 2) (dj := 13) (b := false) rfl rfl rfl (ev_hit hN rfl) rfl rfl ?_
  refine g_false (j := 2) (dj := 13) (b := false) rfl rfl rfl (ev_hit hN rfl) rfl rfl ?_
  refine g_false (j := 2) (dj := 13) (b := false) rfl rfl rfl (ev_hit hN rfl) rfl rfl ?_
  refine g_false (j := 2) (dj := 13) (b := false) rfl rfl rfl (ev_hit hN rfl) rfl rfl ?_
  refine g_false (j := 2) (dj := 13) (b := false) rfl rfl rfl (ev_hit hN rfl) rfl rfl ?_
  refine op_pick_t (ev_hit hN rfl) rfl ?_
  refine op_assign (ev_hit hN rfl) ?_
  refine reg_nil ?_
  refine hK105 _ _ ?_
  refine wp_cond_true (ev_hit hN rfl) ?_
  refine seq_any fun K106 hK106 => ?_
  refine one_reg ?_
  refine op_assign rfl ?_
  refine reg_nil ?_
  refine hK106 _ _ ?_
  refine wp_ret (blk_ret (then_ret ( ?_)))
  refine ret1 rfl hd (ev_hit hN rfl) ⟨_, rfl, ?_⟩
  -- path 12T
  exact ⟨hb, rfl⟩
 · -- 12F
  refine op_move (ev_hit hN rfl) ?_
  refine g_true (j := 2) (dj := 13) (b := false) rfl rfl rfl (ev_hit hN rfl) ?_
  refine op_move (ev_base hN rfl s1) ?_
  refine g_true (j := 2) (dj := 13) (b := false) rfl rfl rfl (ev_hit hN rfl) ?_
  refine op_move (ev_base hN rfl s0) ?_
  refine g_true (j := 2) (dj := 13) (b := false) rfl rfl rfl (ev_hit hN rfl) ?_
  refine op_nil (ev_hit hN rfl) ?_
  refine g_true (j := 2) (dj := 13) (b := false) rfl rfl rfl (ev_hit hN rfl) ?_
  refine op_field fld134_0 (ev_hit hN rfl) ?_
  refine g_true (j := 2) (dj := 13) (b := false) rfl rfl rfl (ev_hit hN rfl) ?_
  refine op_load1 (v := lv) one132 (ev_hit hN rfl) (hx.cell rfl) ?_
  refine g_true (j := 2) (dj := 13) (b := false) rfl rfl rfl (ev_hit hN rfl) ?_
  refine op_len_rd Try.underlying132 (ev_hit hN rfl) O.rdw ?_
  refine g_true (j := 2) (dj := 13) (b := false) rfl rfl rfl (ev_hit hN rfl) ?_
  refine op_geq (ev_hit hN rfl) (ev_hit hN rfl) (fun c20 => ?_) (fun c20 => ?_)
  · -- 20T
   refine op_pick_f (ev_hit hN rfl) (ev_hit hN rfl) ?_
   refine op_assign (ev_hit hN rfl) ?_
   refine reg_nil ?_
   refine hK105 _ _ ?_
   refine wp_cond_true (ev_hit hN rfl) ?_
   refine seq_any fun K107 hK107 => ?_
   refine one_reg ?_
   refine op_assign rfl ?_
   refine reg_nil ?_
   refine hK107 _ _ ?_
   refine wp_ret (blk_ret (then_ret ( ?_)))
   refine ret1 rfl hd (ev_hit hN rfl) ⟨_, rfl, ?_⟩
   -- path 12F 20T
   exact ⟨hb, rfl⟩
  · -- 20F
   exfalso; omega

theorem WaitNil (s : Int) (w : World) : Ret Try.prog 39 #[(Value.pointer none), (Value.int .i64 s)] w (fun v' w' => Below w.heap.size w w' ∧ v' = .int .i64 0) := by
 have hb := Below.refl w.heap.size w
 refine enter (N := 8) Try.func39 rfl rfl (by simp) fun a0 hN hd hA => ?_
 have s0 : a0.tmps.getD 0 undef = (Value.pointer none) := hA 0 (by simp)
 have s1 : a0.tmps.getD 1 undef = (Value.int .i64 s) := hA 1 (by simp)
 clear hA
 refine seq_any fun K108 hK108 => ?_
 refine one_reg ?_
 refine op_assign rfl ?_
 refine reg_nil ?_
 refine hK108 _ _ ?_
 refine seq_any fun K109 hK109 => ?_
 refine one_reg ?_
 refine op_move (ev_base hN rfl s0) ?_
 refine op_move (ev_base hN rfl s1) ?_
 refine op_fn (vs := [(Value.pointer none), (Value.int .i64 s), (Value.func (.func 85) #[] #[])]) ok84 ⟨(ev_hit hN rfl), ⟨(ev_hit hN rfl), ⟨rfl, trivial⟩⟩⟩ (ofIntNil_ret s _ _) ?_
 rintro _ w110 ⟨E111, rfl⟩
 have E111 := grown_of_below E111
 have z_w110 := E111.size
 have hb := below_step0 hb E111 hb.size
 refine op_assign (ev_hit hN rfl) ?_
 refine reg_nil ?_
 refine hK109 _ _ ?_
 refine wp_ret ?_
 refine ret1 rfl hd (ev_hit hN rfl) ⟨_, rfl, ?_⟩
 -- path
 exact ⟨hb, rfl⟩

theorem DoneNil (s : Int) (w : World) : Ret Try.prog 42 #[(Value.pointer none), (Value.int .i64 s)] w (fun v' w' => Below w.heap.size w w' ∧ v' = .bool false) := by
 have hb := Below.refl w.heap.size w
 refine enter (N := 8) Try.func42 rfl rfl (by simp) fun a0 hN hd hA => ?_
 have s0 : a0.tmps.getD 0 undef = (Value.pointer none) := hA 0 (by simp)
 have s1 : a0.tmps.getD 1 undef = (Value.int .i64 s) := hA 1 (by simp)
 clear hA
 refine seq_any fun K112 hK112 => ?_
 refine one_reg ?_
 refine op_assign rfl ?_
 refine reg_nil ?_
 refine hK112 _ _ ?_
 refine seq_any fun K113 hK113 => ?_
 refine one_reg ?_
 refine op_move (ev_base hN rfl s0) ?_
 refine op_move (ev_base hN rfl s1) ?_
 refine op_fn (vs := [(Value.pointer none), (Value.int .i64 s), (Value.func (.func 89) #[] #[])]) ok88 ⟨(ev_hit hN rfl), ⟨(ev_hit hN rfl), ⟨rfl, trivial⟩⟩⟩ (ofBoolNil_ret s _ _) ?_
 rintro _ w114 ⟨E115, rfl⟩
 have E115 := grown_of_below E115
 have z_w114 := E115.size
 have hb := below_step0 hb E115 hb.size
 refine op_assign (ev_hit hN rfl) ?_
 refine reg_nil ?_
 refine hK113 _ _ ?_
 refine wp_ret ?_
 refine ret1 rfl hd (ev_hit hN rfl) ⟨_, rfl, ?_⟩
 -- path
 exact ⟨hb, rfl⟩

theorem SayNil (x : List UInt8) (s : Int) (w : World) : Ret Try.prog 40 #[(Value.pointer none), (Value.int .i64 s), (Value.string (bs x))] w (fun v' w' => Below w.heap.size w w' ∧ v' = .int .i64 1) := by
 have hb := Below.refl w.heap.size w
 refine enter (N := 34) Try.func40 rfl rfl (by simp) fun a0 hN hd hA => ?_
 have s0 : a0.tmps.getD 0 undef = (Value.pointer none) := hA 0 (by simp)
 have s1 : a0.tmps.getD 1 undef = (Value.int .i64 s) := hA 1 (by simp)
 have s2 : a0.tmps.getD 2 undef = (Value.string (bs x)) := hA 2 (by simp)
 clear hA
 refine seq_any fun K116 hK116 => ?_
 refine one_reg ?_
 refine op_assign rfl ?_
 refine reg_nil ?_
 refine hK116 _ _ ?_
 refine seq_any fun K117 hK117 => ?_
 refine wp_block ?_
 refine seq_any fun K118 hK118 => ?_
 refine one_reg ?_
 refine op_move (ev_base hN rfl s0) ?_
 refine op_peq_none ptrt50 (ev_hit hN rfl) rfl ?_
 refine op_assign (ev_hit hN rfl) ?_
 refine reg_nil ?_
 refine hK118 _ _ ?_
 refine wp_cond_true (ev_hit hN rfl) ?_
 refine seq_any fun K119 hK119 => ?_
 refine one_reg ?_
 refine op_assign rfl ?_
 refine reg_nil ?_
 refine hK119 _ _ ?_
 refine wp_ret (blk_ret (then_ret ( ?_)))
 refine ret1 rfl hd (ev_hit hN rfl) ⟨_, rfl, ?_⟩
 -- path
 exact ⟨hb, rfl⟩

theorem CopyNil (w : World) : Ret Try.prog 47 #[(Value.pointer none)] w (fun v' w' => Below w.heap.size w w' ∧ v' = .pointer none) := by
 have hb := Below.refl w.heap.size w
 refine enter (N := 45) Try.func47 rfl rfl (by simp) fun a0 hN hd hA => ?_
 have s0 : a0.tmps.getD 0 undef = (Value.pointer none) := hA 0 (by simp)
 clear hA
 refine seq_any fun K120 hK120 => ?_
 refine one_reg ?_
 refine op_assign rfl ?_
 refine reg_nil ?_
 refine hK120 _ _ ?_
 refine seq_any fun K121 hK121 => ?_
 refine seq_any fun K122 hK122 => ?_
 refine one_reg ?_
 refine op_move (ev_base hN rfl s0) ?_
 refine op_peq_none ptrt50 (ev_hit hN rfl) rfl ?_
 refine reg_nil ?_
 refine hK122 _ _ ?_
 refine wp_cond_true (ev_hit hN rfl) ?_
 refine seq_any fun K123 hK123 => ?_
 refine one_reg ?_
 refine op_assign rfl ?_
 refine reg_nil ?_
 refine hK123 _ _ ?_
 refine wp_ret (then_ret ( ?_))
 refine ret1 rfl hd (ev_hit hN rfl) ⟨_, rfl, ?_⟩
 -- path
 exact ⟨hb, rfl⟩

end Go.Proofs.Ytmhdbphpmgjpcaa

/- Walks, written by a program: what each function of the translation hands back. -/
namespace Go.Proofs.Ytmhdbphpmgjpcaa
open Go.Gx Go.RowKit
attribute [local irreducible] wpList wpStill Code.wp Calls
open Go.Sort (bitsLen)
theorem rinW_ret (l : Lb) (x : UInt16) (v : Value) (w : World) (hz : l.length ≤ 1000000000000) (hl : RdC w 0 w.heap.size 1 v l.length (l.map u16v)) : Ret Try.prog 94 #[v, (Value.int .u16 (x.toNat : Int))] w (fun v' w' => v' = .bool (inL x l) ∧ w' = w) := by
 have hb := Below.refl w.heap.size w
 refine enter (N := 18) Try.func94 rfl rfl (by simp) fun a0 hN hd hA => ?_
 have s0 : a0.tmps.getD 0 undef = v := hA 0 (by simp)
 have s1 : a0.tmps.getD 1 undef = (Value.int .u16 (x.toNat : Int)) := hA 1 (by simp)
 clear hA
 refine seq_any fun K19 hK19 => ?_
 refine one_reg ?_
 refine op_assign rfl ?_
 refine reg_nil ?_
 refine hK19 _ _ ?_
 refine seq_any fun K20 hK20 => ?_
 refine seq_any fun K21 hK21 => ?_
 refine one_reg ?_
 refine op_assign rfl ?_
 refine reg_nil ?_
 refine hK21 _ _ ?_
 refine wp_block ?_
 refine loop_m (fun mz_ az_ w' => ∃ (i : Nat), mz_ = l.length - i ∧ (az_.tmps.getD 0 undef = v) ∧ (az_.tmps.getD 1 undef = (Value.int .u16 (x.toNat : Int))) ∧ (az_.tmps.getD 5 undef = (Value.int .i64 ((i : Nat) : Int))) ∧ (i ≤ l.length) ∧ (∀ j9, j9 < i → l.getD j9 0 ≠ x) ∧ w = w') _ hN hd ⟨0, rfl, (sl_base hN rfl s0), (sl_base hN rfl s1), (sl_hit hN rfl).trans (congrArg (Value.int .i64) (by omega)), Nat.zero_le _, (fun j9 h9 => absurd h9 (Nat.not_lt_zero _)), rfl⟩ ?_
 rintro _ a22 _ hN22 hd22 ⟨i, rfl, s22_0, s22_1, s22_5, hi, hno, rfl⟩
 refine seq_any fun K23 hK23 => ?_
 refine seq_any fun K24 hK24 => ?_
 refine one_reg ?_
 refine op_move (ev_base hN22 rfl s22_5) ?_
 refine op_move (ev_base hN22 rfl s22_0) ?_
 refine op_len_rd Try.underlying45 (ev_hit hN22 rfl) hl ?_
 refine op_lss (ev_hit hN22 rfl) (ev_hit hN22 rfl) (fun c9 => ?_) (fun c9 => ?_)
 · -- 9T
  refine reg_nil ?_
  refine hK24 _ _ ?_
  refine wp_cond_true (ev_hit hN22 rfl) ?_
  refine wp_skip ?_
  refine hK23 _ _ ?_
  refine seq_any fun K25 hK25 => ?_
  refine wp_block ?_
  refine seq_any fun K26 hK26 => ?_
  refine one_reg ?_
  refine op_move (ev_base hN22 rfl s22_0) ?_
  refine op_move (ev_base hN22 rfl s22_5) ?_
  refine op_index_rd slt45 (ev_hit hN22 rfl) hl (ev_hit hN22 rfl) (by omega) (by omega) ?_
  intro b27 o28 h0b27 h1b27 hc29
  refine op_load1 (v := (Value.int .u16 ((l.getD i 0).toNat : Int))) one46 (ev_hit hN22 rfl) (by have := hc29 0 (Value.int .u16 ((l.getD i 0).toNat : Int)) (by decide) (el_u16 (i := i) (by omega) (by omega)); simpa using this) ?_
  refine op_move (ev_base hN22 rfl s22_1) ?_
  refine op_eql (ev_hit hN22 rfl) (ev_hit hN22 rfl) (fun c17 => ?_) (fun c17 => ?_)
  · -- 17T
   refine reg_nil ?_
   refine hK26 _ _ ?_
   refine wp_cond_true (ev_hit hN22 rfl) ?_
   refine seq_any fun K30 hK30 => ?_
   refine one_reg ?_
   refine op_assign rfl ?_
   refine reg_nil ?_
   refine hK30 _ _ ?_
   refine wp_ret (blk_ret (then_ret (then_ret (blk_ret (then_ret ( ?_))))))
   refine ret1 rfl hd22 (ev_hit hN22 rfl) ⟨_, rfl, ?_⟩
   -- path 9T 17T
   exact ⟨congrArg Value.bool (in_t (i := i) (by omega) (u16_eq c17)).symm, rfl⟩
  · -- 17F
   refine reg_nil ?_
   refine hK26 _ _ ?_
   refine wp_cond_false (ev_hit hN22 rfl) ?_
   refine wp_skip ?_
   refine hK25 _ _ ?_
   refine one_reg ?_
   refine op_move (ev_base hN22 rfl s22_5) ?_
   refine op_add (ev_hit hN22 rfl) rfl (add64 (by omega)) ?_
   refine op_assign (ev_hit hN22 rfl) ?_
   refine reg_nil ?_
   -- round 9T 17F
   exact loop_next _ hN22 hd22 ⟨i + 1, rfl, (sl_base hN22 rfl s22_0), (sl_base hN22 rfl s22_1), (sl_hit hN22 rfl).trans (congrArg (Value.int .i64) (by omega)), (by omega), (no_step hno (fun e9 => c17 (by rw [e9]))), rfl⟩ (by omega)
 · -- 9F
  refine reg_nil ?_
  refine hK24 _ _ ?_
  refine wp_cond_false (ev_hit hN22 rfl) ?_
  refine wp_exit (then_exit (then_exit (blk_hit ?_)))
  refine hK20 _ _ ?_
  refine seq_any fun K31 hK31 => ?_
  refine one_reg ?_
  refine op_assign rfl ?_
  refine reg_nil ?_
  refine hK31 _ _ ?_
  refine wp_ret ?_
  refine ret1 rfl hd22 (ev_hit hN22 rfl) ⟨_, rfl, ?_⟩
  -- path 9F
  exact ⟨congrArg Value.bool (in_f (i := i) (by omega) hno).symm, rfl⟩

end Go.Proofs.Ytmhdbphpmgjpcaa

/- Walks, written by a program: what each function of the translation hands back. -/
namespace Go.Proofs.Ytmhdbphpmgjpcaa
open Go.Gx Go.RowKit
attribute [local irreducible] wpList wpStill Code.wp Calls
open Go.Sort (bitsLen)
theorem rflowsW_ret (l m : Lb) (v u : Value) (w : World) (hz : l.length ≤ 1000000000000) (hzm : m.length ≤ 1000000000000) (hl : RdC w 0 w.heap.size 1 v l.length (l.map u16v)) (hm : RdC w 0 w.heap.size 1 u m.length (m.map u16v)) : Ret Try.prog 50 #[v, u] w (fun v' w' => Below w.heap.size w w' ∧ v' = .bool (flowsL l m)) := by
 have hb := Below.refl w.heap.size w
 refine enter (N := 19) Try.func50 rfl rfl (by simp) fun a0 hN hd hA => ?_
 have s0 : a0.tmps.getD 0 undef = v := hA 0 (by simp)
 have s1 : a0.tmps.getD 1 undef = u := hA 1 (by simp)
 clear hA
 refine seq_any fun K1 hK1 => ?_
 refine one_reg ?_
 refine op_assign rfl ?_
 refine reg_nil ?_
 refine hK1 _ _ ?_
 refine seq_any fun K2 hK2 => ?_
 refine seq_any fun K3 hK3 => ?_
 refine one_reg ?_
 refine op_assign rfl ?_
 refine reg_nil ?_
 refine hK3 _ _ ?_
 refine wp_block ?_
 refine loop_m (fun mz_ az_ w' => ∃ (i : Nat), mz_ = l.length - i ∧ (az_.tmps.getD 0 undef = v) ∧ (az_.tmps.getD 1 undef = u) ∧ (az_.tmps.getD 5 undef = (Value.int .i64 ((i : Nat) : Int))) ∧ (i ≤ l.length) ∧ ((l.take i).all (fun x => inL x m) = true) ∧ w = w') _ hN hd ⟨0, rfl, (sl_base hN rfl s0), (sl_base hN rfl s1), (sl_hit hN rfl).trans (congrArg (Value.int .i64) (by omega)), Nat.zero_le _, rfl, rfl⟩ ?_
 rintro _ a4 _ hN4 hd4 ⟨i, rfl, s4_0, s4_1, s4_5, hi, hall, rfl⟩
 refine seq_any fun K5 hK5 => ?_
 refine seq_any fun K6 hK6 => ?_
 refine one_reg ?_
 refine op_move (ev_base hN4 rfl s4_5) ?_
 refine op_move (ev_base hN4 rfl s4_0) ?_
 refine op_len_rd Try.underlying54 (ev_hit hN4 rfl) hl ?_
 refine op_lss (ev_hit hN4 rfl) (ev_hit hN4 rfl) (fun c9 => ?_) (fun c9 => ?_)
 · -- 9T
  refine reg_nil ?_
  refine hK6 _ _ ?_
  refine wp_cond_true (ev_hit hN4 rfl) ?_
  refine wp_skip ?_
  refine hK5 _ _ ?_
  refine seq_any fun K7 hK7 => ?_
  refine wp_block ?_
  refine seq_any fun K8 hK8 => ?_
  refine one_reg ?_
  refine op_move (ev_base hN4 rfl s4_1) ?_
  refine op_move (ev_base hN4 rfl s4_0) ?_
  refine op_move (ev_base hN4 rfl s4_5) ?_
  refine op_index_rd slt54 (ev_hit hN4 rfl) hl (ev_hit hN4 rfl) (by omega) (by omega) ?_
  intro b9 o10 h0b9 h1b9 hc11
  refine op_load1 (v := (Value.int .u16 ((l.getD i 0).toNat : Int))) one46 (ev_hit hN4 rfl) (by have := hc11 0 (Value.int .u16 ((l.getD i 0).toNat : Int)) (by decide) (el_u16 (i := i) (by omega) (by omega)); simpa using this) ?_
  refine op_fn (vs := [u, (Value.int .u16 ((l.getD i 0).toNat : Int))]) ok94 ⟨(ev_hit hN4 rfl), ⟨(ev_hit hN4 rfl), trivial⟩⟩ (Ret.flip (rinW_ret m (l.getD i 0) _ _ (by omega) (show RdC w 0 w.heap.size 1 u m.length (m.map u16v) from by have hh : RdC w 0 w.heap.size 1 _ _ _ := (hm.mono (L' := 0) (B' := w.heap.size) (Nat.zero_le _) (by omega)); first | exact hh | exact hh.cast (by first | omega | (simp; try omega)) (by first | rfl | simp [u16v])))) ?_
  rintro _ _ ⟨rfl, rfl⟩
  rcases Bool.eq_false_or_eq_true ((inL (l.getD i 0) m)) with c17 | c17
  · -- 17T
   rw [c17]
   refine op_not (ev_hit hN4 rfl) ?_
   refine reg_nil ?_
   refine hK8 _ _ ?_
   refine wp_cond_false (ev_hit hN4 rfl) ?_
   refine wp_skip ?_
   refine hK7 _ _ ?_
   refine one_reg ?_
   refine op_move (ev_base hN4 rfl s4_5) ?_
   refine op_add (ev_hit hN4 rfl) rfl (add64 (by omega)) ?_
   refine op_assign (ev_hit hN4 rfl) ?_
   refine reg_nil ?_
   -- round 9T 17T
   exact loop_next _ hN4 hd4 ⟨i + 1, rfl, (sl_base hN4 rfl s4_0), (sl_base hN4 rfl s4_1), (sl_hit hN4 rfl).trans (congrArg (Value.int .i64) (by omega)), (by omega), (all_step (by omega) hall c17), rfl⟩ (by omega)
  · -- 17F
   rw [c17]
   refine op_not (ev_hit hN4 rfl) ?_
   refine reg_nil ?_
   refine hK8 _ _ ?_
   refine wp_cond_true (ev_hit hN4 rfl) ?_
   refine seq_any fun K12 hK12 => ?_
   refine one_reg ?_
   refine op_assign rfl ?_
   refine reg_nil ?_
   refine hK12 _ _ ?_
   refine wp_ret (blk_ret (then_ret (then_ret (blk_ret (then_ret ( ?_))))))
   refine ret1 rfl hd4 (ev_hit hN4 rfl) ⟨_, rfl, ?_⟩
   -- path 9T 17F
   exact ⟨hb, congrArg Value.bool (all_f (i := i) (by omega) c17).symm⟩
 · -- 9F
  refine reg_nil ?_
  refine hK6 _ _ ?_
  refine wp_cond_false (ev_hit hN4 rfl) ?_
  refine wp_exit (then_exit (then_exit (blk_hit ?_)))
  refine hK2 _ _ ?_
  refine seq_any fun K13 hK13 => ?_
  refine one_reg ?_
  refine op_assign rfl ?_
  refine reg_nil ?_
  refine hK13 _ _ ?_
  refine wp_ret ?_
  refine ret1 rfl hd4 (ev_hit hN4 rfl) ⟨_, rfl, ?_⟩
  -- path 9F
  exact ⟨hb, congrArg Value.bool (all_end (i := i) (by omega) hall).symm⟩

end Go.Proofs.Ytmhdbphpmgjpcaa

/- Walks, written by a program: what each function of the translation hands back. -/
namespace Go.Proofs.Ytmhdbphpmgjpcaa
open Go.Gx Go.RowKit
attribute [local irreducible] wpList wpStill Code.wp Calls
open Go.Sort (bitsLen)
set_option maxHeartbeats 2000000 in
theorem rallW_ret (l : Lb) (v : Value) (w : World) (hz : l.length ≤ 1000000000000) (hl : RdC w 0 w.heap.size 1 v l.length (l.map u16v)) : Ret Try.prog 92 #[v] w (fun v' w' => Below w.heap.size w w' ∧ Own w' w.heap.size 46 1 v' (nrm l).length ((nrm l).map u16v)) := by
 have hb := Below.refl w.heap.size w
 refine enter (N := 60) Try.func92 rfl rfl (by simp) fun a0 hN hd hA => ?_
 have s0 : a0.tmps.getD 0 undef = v := hA 0 (by simp)
 clear hA
 refine seq_any fun K1 hK1 => ?_
 refine one_reg ?_
 refine op_assign rfl ?_
 refine reg_nil ?_
 refine hK1 _ _ ?_
 refine seq_any fun K2 hK2 => ?_
 refine one_reg ?_
 refine op_assign rfl ?_
 refine reg_nil ?_
 refine hK2 _ _ ?_
 refine seq_any fun K3 hK3 => ?_
 refine seq_any fun K4 hK4 => ?_
 refine one_reg ?_
 refine op_assign rfl ?_
 refine reg_nil ?_
 refine hK4 _ _ ?_
 refine wp_block ?_
 refine loop_m (fun mz_ az_ w' => ∃ (i : Nat) (r : Value), mz_ = l.length - i ∧ (az_.tmps.getD 0 undef = v) ∧ (az_.tmps.getD 2 undef = (Value.slice none 0 0)) ∧ (az_.tmps.getD 4 undef = (Value.int .i64 ((i : Nat) : Int))) ∧ (az_.tmps.getD 3 undef = r) ∧ (i ≤ l.length) ∧ ((nrm (l.take i)).length ≤ i) ∧ (Below w.heap.size w w') ∧ (w.heap.size ≤ w'.heap.size) ∧ (RdC w' 0 w.heap.size 1 v l.length (l.map u16v)) ∧ (Own w' w.heap.size 46 1 r (nrm (l.take i)).length ((nrm (l.take i)).map u16v))) _ hN hd ⟨0, _, rfl, (sl_base hN rfl s0), (sl_hit hN rfl), (sl_hit hN rfl).trans (congrArg (Value.int .i64) (by omega)), (sl_hit hN rfl), Nat.zero_le _, (by simp [nrm]), hb, (Nat.le_refl _), hl, (Own.nil _ _ _ _)⟩ ?_
 rintro _ a5 w5 hN5 hd5 ⟨i, r, rfl, s5_0, s5_2, s5_4, s5_3, hi, hfl, hb, zl_w5, hl, hO6⟩
 have z_w5 := hb.size
 refine seq_any fun K7 hK7 => ?_
 refine seq_any fun K8 hK8 => ?_
 refine one_reg ?_
 refine op_move (ev_base hN5 rfl s5_4) ?_
 refine op_move (ev_base hN5 rfl s5_0) ?_
 refine op_len_rd Try.underlying45 (ev_hit hN5 rfl) hl ?_
 refine op_lss (ev_hit hN5 rfl) (ev_hit hN5 rfl) (fun c9 => ?_) (fun c9 => ?_)
 · -- 9T
  refine reg_nil ?_
  refine hK8 _ _ ?_
  refine wp_cond_true (ev_hit hN5 rfl) ?_
  refine wp_skip ?_
  refine hK7 _ _ ?_
  refine seq_any fun K9 hK9 => ?_
  refine wp_block ?_
  refine seq_any fun K10 hK10 => ?_
  refine one_reg ?_
  refine op_assign rfl ?_
  refine reg_nil ?_
  refine hK10 _ _ ?_
  refine seq_any fun K11 hK11 => ?_
  refine wp_block ?_
  refine loop_m (fun mz_ az_ w' => ∃ (jj : Nat), mz_ = (nrm (l.take i)).length - jj ∧ (az_.tmps.getD 0 undef = v) ∧ (az_.tmps.getD 2 undef = (Value.slice none 0 0)) ∧ (az_.tmps.getD 3 undef = r) ∧ (az_.tmps.getD 4 undef = (Value.int .i64 ((i : Nat) : Int))) ∧ (az_.tmps.getD 5 undef = (Value.int .i64 ((jj : Nat) : Int))) ∧ (jj ≤ (nrm (l.take i)).length) ∧ (∀ k9, k9 < jj → ((nrm (l.take i)).getD k9 0).toNat < (l.getD i 0).toNat) ∧ (Below w.heap.size w w') ∧ (w5.heap.size ≤ w'.heap.size) ∧ (RdC w' 0 w.heap.size 1 v l.length (l.map u16v)) ∧ (Own w' w.heap.size 46 1 r (nrm (l.take i)).length ((nrm (l.take i)).map u16v))) _ hN5 hd5 ⟨0, rfl, (sl_base hN5 rfl s5_0), (sl_base hN5 rfl s5_2), (sl_base hN5 rfl s5_3), (sl_base hN5 rfl s5_4), (sl_hit hN5 rfl).trans (congrArg (Value.int .i64) (by omega)), Nat.zero_le _, (fun k9 h9 => absurd h9 (Nat.not_lt_zero _)), hb, (Nat.le_refl _), hl, hO6⟩ ?_
  rintro _ a12 w12 hN12 hd12 ⟨jj, rfl, s12_0, s12_2, s12_3, s12_4, s12_5, hj, hlt, hb, zl_w12, hl, hO6⟩
  have z_w12 := hb.size
  refine seq_any fun K13 hK13 => ?_
  refine seq_any fun K14 hK14 => ?_
  refine reg_still mixed (by kernel_rfl) ?_
  intro w16 E15
  have z_w16 := E15.size
  have hl := hl.keep0 E15
  have hO6 := hO6.keep0 E15
  have hb := below_step0 hb E15 hb.size
  refine st_step rfl (fun _ h9 => op_move (ev_base hN12 rfl s12_5) h9) ?_
  refine st_step rfl (fun _ h9 => op_move (ev_base hN12 rfl s12_3) h9) ?_
  refine st_step rfl (fun _ h9 => op_len_rd Try.underlying54 (ev_hit hN12 rfl) hO6.rdw h9) ?_
  by_cases g15 : ((jj : Nat) : Int) < (((nrm (l.take i)).length : Nat) : Int)
  · -- 15T
   refine st_step rfl (fun _ h9 => op_cmp (b := true) (ev_hit hN12 rfl) (ev_hit hN12 rfl) (b_lss (decide_eq_true g15)) h9) ?_
   refine st_step rfl (fun _ h9 => op_move (ev_hit hN12 rfl) h9) ?_
   refine st_g_true (j := 4) (dj := 16) (b := true) rfl rfl rfl (ev_hit hN12 rfl) ?_
   refine st_step rfl (fun _ h9 => op_move (ev_base hN12 rfl s12_3) h9) ?_
   refine st_g_true (j := 4) (dj := 16) (b := true) rfl rfl rfl (ev_hit hN12 rfl) ?_
   refine st_step rfl (fun _ h9 => op_move (ev_base hN12 rfl s12_5) h9) ?_
   refine st_g_true (j := 4) (dj := 16) (b := true) rfl rfl rfl (ev_hit hN12 rfl) ?_
   refine st_index_rd slt54 (ev_hit hN12 rfl) hO6.rdw (ev_hit hN12 rfl) (by omega) (by omega) ?_
   intro b17 o18 h0b17 h1b17 hc19
   refine st_g_true (j := 4) (dj := 16) (b := true) rfl rfl rfl (ev_hit hN12 rfl) ?_
   refine st_step rfl (fun _ h9 => op_load1 (v := (Value.int .u16 (((nrm (l.take i)).getD jj 0).toNat : Int))) one46 (ev_hit hN12 rfl) (by have := hc19 0 (Value.int .u16 (((nrm (l.take i)).getD jj 0).toNat : Int)) (by decide) (el_u16 (i := jj) (by omega) (by omega)); simpa using this) h9) ?_
   refine st_g_true (j := 4) (dj := 16) (b := true) rfl rfl rfl (ev_hit hN12 rfl) ?_
   refine st_step rfl (fun _ h9 => op_move (ev_base hN12 rfl s12_0) h9) ?_
   refine st_g_true (j := 4) (dj := 16) (b := true) rfl rfl rfl (ev_hit hN12 rfl) ?_
   refine st_step rfl (fun _ h9 => op_move (ev_base hN12 rfl s12_4) h9) ?_
   refine st_g_true (j := 4) (dj := 16) (b := true) rfl rfl rfl (ev_hit hN12 rfl) ?_
   refine st_index_rd slt45 (ev_hit hN12 rfl) hl (ev_hit hN12 rfl) (by omega) (by omega) ?_
   intro b20 o21 h0b20 h1b20 hc22
   refine st_g_true (j := 4) (dj := 16) (b := true) rfl rfl rfl (ev_hit hN12 rfl) ?_
   refine st_step rfl (fun _ h9 => op_load1 (v := (Value.int .u16 ((l.getD i 0).toNat : Int))) one46 (ev_hit hN12 rfl) (by have := hc22 0 (Value.int .u16 ((l.getD i 0).toNat : Int)) (by decide) (el_u16 (i := i) (by omega) (by omega)); simpa using this) h9) ?_
   refine st_g_true (j := 4) (dj := 16) (b := true) rfl rfl rfl (ev_hit hN12 rfl) ?_
   refine st_step rfl (fun _ h9 => op_cmp (b := (decide ((((nrm (l.take i)).getD jj 0).toNat : Int) < ((l.getD i 0).toNat : Int)))) (ev_hit hN12 rfl) (ev_hit hN12 rfl) (b_lss rfl) h9) ?_
   refine st_step rfl (fun _ h9 => op_pick_t (ev_hit hN12 rfl) (ev_hit hN12 rfl) h9) ?_
   refine st_nil ?_
   refine hK14 _ _ ?_
   refine wp_cond_split (ev_hit hN12 rfl) (fun c26 => ?_) (fun c26 => ?_)
   · -- 26T
    have c26 := of_decide_eq_true c26
    refine wp_skip ?_
    refine hK13 _ _ ?_
    refine wp_block ?_
    refine one_reg ?_
    refine op_move (ev_base hN12 rfl s12_5) ?_
    refine op_add (ev_hit hN12 rfl) rfl (add64 (by omega)) ?_
    refine op_assign (ev_hit hN12 rfl) ?_
    refine reg_nil ?_
    refine blk_normal ?_
    -- round 9T 15T 26T
    exact loop_next _ hN12 hd12 ⟨jj + 1, rfl, (sl_base hN12 rfl s12_0), (sl_base hN12 rfl s12_2), (sl_base hN12 rfl s12_3), (sl_base hN12 rfl s12_4), (sl_hit hN12 rfl).trans (congrArg (Value.int .i64) (by omega)), (by omega), (lt_step hlt (by omega)), hb, (by omega), hl, hO6⟩ (by omega)
   · -- 26F
    have c26 := of_decide_eq_false c26
    refine wp_exit (then_exit (then_exit (blk_hit ?_)))
    refine hK11 _ _ ?_
    refine seq_any fun K23 hK23 => ?_
    refine reg_still mixed (by kernel_rfl) ?_
    intro w25 E24
    have z_w25 := E24.size
    have hl := hl.keep0 E24
    have hO6 := hO6.keep0 E24
    have hb := below_step0 hb E24 hb.size
    refine st_step rfl (fun _ h9 => op_move (ev_base hN12 rfl s12_5) h9) ?_
    refine st_step rfl (fun _ h9 => op_move (ev_base hN12 rfl s12_3) h9) ?_
    refine st_step rfl (fun _ h9 => op_len_rd Try.underlying54 (ev_hit hN12 rfl) hO6.rdw h9) ?_
    by_cases g32 : ((jj : Nat) : Int) = (((nrm (l.take i)).length : Nat) : Int)
    · -- 32T
     refine st_step rfl (fun _ h9 => op_cmp (b := true) (ev_hit hN12 rfl) (ev_hit hN12 rfl) (b_eql (decide_eq_true g32)) h9) ?_
     refine st_step rfl (fun _ h9 => op_move (ev_hit hN12 rfl) h9) ?_
     refine st_g_false (j := 4) (dj := 33) (b := false) rfl rfl rfl (ev_hit hN12 rfl) rfl rfl ?_
     refine st_g_false (j := 4) (dj := 33) (b := false) rfl rfl rfl (ev_hit hN12 rfl) rfl rfl ?_
     refine st_g_false (j := 4) (dj := 33) (b := false) rfl rfl rfl (ev_hit hN12 rfl) rfl rfl ?_
     refine st_g_false (j := 4) (dj := 33) (b := false) rfl rfl rfl (ev_hit hN12 rfl) rfl rfl ?_
     refine st_g_false (j := 4) (dj := 33) (b := false) rfl rfl rfl (ev_hit hN12 rfl) rfl rfl ?_
     refine st_g_false (j := 4) (dj := 33) (b := false) rfl rfl rfl (ev_hit hN12 rfl) rfl rfl ?_
     refine st_g_false (j := 4) (dj := 33) (b := false) rfl rfl rfl (ev_hit hN12 rfl) rfl rfl ?_
     refine st_g_false (j := 4) (dj := 33) (b := false) rfl rfl rfl (ev_hit hN12 rfl) rfl rfl ?_
     refine st_g_false (j := 4) (dj := 33) (b := false) rfl rfl rfl (ev_hit hN12 rfl) rfl rfl ?_
     refine st_step rfl (fun _ h9 => op_pick_t (ev_hit hN12 rfl) rfl h9) ?_
     refine st_nil ?_
     refine hK23 _ _ ?_
     refine wp_cond_true (ev_hit hN12 rfl) ?_
     have hO6_s := hO6
     refine reg_split (hd := [_, _, _, _, _, _, _, _, _, _, _, _, _, _]) (tl := _) 14 mixed (by kernel_rfl) rfl rfl ?_
     refine any_chain (Φ := phiC [chP 0, (fun _ _ uz _ => uz = r), (fun _ _ uz _ => uz = (Value.int .i64 ((jj : Nat) : Int))), (fun _ vz uz w' => ∃ (v30 : Value), uz = v30 ∧ RdC w' w.heap.size w25.heap.size 1 v30 jj ((((nrm (l.take i)).take jj)).map u16v) ∧ (w25.heap.size ≤ w'.heap.size ∧ ∀ k, vz.ownBlock = some k → w25.heap.size ≤ k)), chP 1, (fun _ _ uz _ => uz = v), (fun _ _ uz _ => uz = (Value.int .i64 ((i : Nat) : Int))), (fun _ vz uz w' => ∃ (b39 : (Nat)) (o40 : (Nat)), uz = (ptr b39 o40) ∧ PtC w' 0 w.heap.size b39 o40 [(Value.int .u16 ((l.getD i 0).toNat : Int))] ∧ (w.heap.size ≤ w'.heap.size ∧ ∀ k, vz.ownBlock = some k → w.heap.size ≤ k)), (fun _ _ uz _ => uz = (Value.int .u16 ((l.getD i 0).toNat : Int))), (fun _ vz uz w' => ∃ (b44 : Nat), uz = (Value.slice (some ⟨b44, 0, none⟩) 1 1) ∧ w25.heap.size ≤ b44 ∧ Bx w' b44 46 [(Value.int .u16 ((l.getD i 0).toNat : Int))] ∧ vz.ownBlock ≠ some b44), chP 2, (fun _ _ uz _ => uz = r), (fun _ _ uz _ => uz = (Value.int .i64 ((jj : Nat) : Int))), (fun _ vz uz w' => ∃ (v54 : Value), uz = v54 ∧ RdC w' w.heap.size w25.heap.size 1 v54 ((nrm (l.take i)).length - jj) ((((nrm (l.take i)).drop jj)).map u16v) ∧ (w25.heap.size ≤ w'.heap.size ∧ ∀ k, vz.ownBlock = some k → w25.heap.size ≤ k))]) (C := CL [(fun vz w' => Own w' w.heap.size 46 1 vz 0 ([])), (fun vz w' => Own w' w.heap.size 46 1 vz 0 ([])), (fun vz w' => Own w' w.heap.size 46 1 vz (0 + jj) ((((nrm (l.take i)).take jj)).map u16v)), (fun vz w' => Own w' w.heap.size 46 1 vz ((0 + jj) + 1) (((((nrm (l.take i)).take jj) ++ [(l.getD i 0)])).map u16v))]) ⟨[0, 4, 10], fun c => [60, 44, 48, 54].getD c 60⟩ (Value.slice none 0 0) (by kernel_rfl) (by kernel_rfl) (by kernel_rfl) (by kernel_rfl) hN12 (StK.get0 (n := 3) (StK.ch (StK.eq (StK.eq (StK.cons (fun c v u w1 w2 E h => by obtain ⟨x0, hv, f0, q0⟩ := h; exact ⟨x0, hv, f0.keep0 E, ⟨Nat.le_trans q0.1 E.size, q0.2⟩⟩) (fun c v v' u w1 w2 _ E h => by obtain ⟨x0, hv, f0, q0⟩ := h; exact ⟨x0, hv, f0.keep E.1 (fun k hk => .inr (q0.2 k hk)), ⟨Nat.le_trans q0.1 E.1.size, ge_step E q0.1 q0.2⟩⟩) (StK.ch (StK.eq (StK.eq (StK.cons (fun c v u w1 w2 E h => by obtain ⟨x0, x1, hv, f0, q0⟩ := h; exact ⟨x0, x1, hv, f0.keep0 E, ⟨Nat.le_trans q0.1 E.size, q0.2⟩⟩) (fun c v v' u w1 w2 _ E h => by obtain ⟨x0, x1, hv, f0, q0⟩ := h; exact ⟨x0, x1, hv, f0.keep E.1 (fun k hk => .inr (q0.2 k hk)), ⟨Nat.le_trans q0.1 E.1.size, ge_step E q0.1 q0.2⟩⟩) (StK.eq (StK.cons (fun c v u w1 w2 E h => by obtain ⟨x0, hv, l0, f0, q0⟩ := h; exact ⟨x0, hv, l0, f0.keep0 E, q0⟩) (fun c v v' u w1 w2 _ E h => by obtain ⟨x0, hv, l0, f0, q0⟩ := h; exact ⟨x0, hv, l0, f0.keep E.1 (fun hh => q0 hh.symm), ne_step E f0.lt q0⟩) (StK.ch (StK.eq (StK.eq (StK.cons (fun c v u w1 w2 E h => by obtain ⟨x0, hv, f0, q0⟩ := h; exact ⟨x0, hv, f0.keep0 E, ⟨Nat.le_trans q0.1 E.size, q0.2⟩⟩) (fun c v v' u w1 w2 _ E h => by obtain ⟨x0, hv, f0, q0⟩ := h; exact ⟨x0, hv, f0.keep E.1 (fun k hk => .inr (q0.2 k hk)), ⟨Nat.le_trans q0.1 E.1.size, ge_step E q0.1 q0.2⟩⟩) (StK.nil)))))))))))))))) (StK.get1 (n := 3) (StK.ch (StK.eq (StK.eq (StK.cons (fun c v u w1 w2 E h => by obtain ⟨x0, hv, f0, q0⟩ := h; exact ⟨x0, hv, f0.keep0 E, ⟨Nat.le_trans q0.1 E.size, q0.2⟩⟩) (fun c v v' u w1 w2 _ E h => by obtain ⟨x0, hv, f0, q0⟩ := h; exact ⟨x0, hv, f0.keep E.1 (fun k hk => .inr (q0.2 k hk)), ⟨Nat.le_trans q0.1 E.1.size, ge_step E q0.1 q0.2⟩⟩) (StK.ch (StK.eq (StK.eq (StK.cons (fun c v u w1 w2 E h => by obtain ⟨x0, x1, hv, f0, q0⟩ := h; exact ⟨x0, x1, hv, f0.keep0 E, ⟨Nat.le_trans q0.1 E.size, q0.2⟩⟩) (fun c v v' u w1 w2 _ E h => by obtain ⟨x0, x1, hv, f0, q0⟩ := h; exact ⟨x0, x1, hv, f0.keep E.1 (fun k hk => .inr (q0.2 k hk)), ⟨Nat.le_trans q0.1 E.1.size, ge_step E q0.1 q0.2⟩⟩) (StK.eq (StK.cons (fun c v u w1 w2 E h => by obtain ⟨x0, hv, l0, f0, q0⟩ := h; exact ⟨x0, hv, l0, f0.keep0 E, q0⟩) (fun c v v' u w1 w2 _ E h => by obtain ⟨x0, hv, l0, f0, q0⟩ := h; exact ⟨x0, hv, l0, f0.keep E.1 (fun hh => q0 hh.symm), ne_step E f0.lt q0⟩) (StK.ch (StK.eq (StK.eq (StK.cons (fun c v u w1 w2 E h => by obtain ⟨x0, hv, f0, q0⟩ := h; exact ⟨x0, hv, f0.keep0 E, ⟨Nat.le_trans q0.1 E.size, q0.2⟩⟩) (fun c v v' u w1 w2 _ E h => by obtain ⟨x0, hv, f0, q0⟩ := h; exact ⟨x0, hv, f0.keep E.1 (fun k hk => .inr (q0.2 k hk)), ⟨Nat.le_trans q0.1 E.1.size, ge_step E q0.1 q0.2⟩⟩) (StK.nil)))))))))))))))) (StL2.get0 (StL2.own (StL2.own (StL2.own (StL2.own (StL2.nil)))))) (StL2.get1 (StL2.own (StL2.own (StL2.own (StL2.own (StL2.nil)))))) (Own.nil w25 w.heap.size 46 1) (ObLn.get (ObLn.pass rfl (ObLn.cons ?_ (ObLn.cons ?_ (ObLn.cons ?_ (ObLn.pass rfl (ObLn.cons ?_ (ObLn.cons ?_ (ObLn.cons ?_ (ObLn.cons ?_ (ObLn.cons ?_ (ObLn.pass rfl (ObLn.cons ?_ (ObLn.cons ?_ (ObLn.cons ?_ (ObLn.nil)))))))))))))))) (ObLc.get (ObLc.cons ?_ (ObLc.cons ?_ (ObLc.cons ?_ (ObLc.nil))))) ?_
     ·
      intro aA wA ccA cvA hNA hclA hRA hltA hvoA hbsA hdpA
      have qA_3 := (hbsA 3 rfl).trans (sl_base hN12 rfl s12_3)
      refine op_move (ev_base hNA rfl qA_3) ?_
      exact obNc_end rfl rfl (grown_refl _ _)
     ·
      intro aA wA ccA cvA hNA hclA hRA hltA hvoA hbsA hdpA
      have qA_5 := (hbsA 5 rfl).trans (sl_base hN12 rfl s12_5)
      refine op_move (ev_base hNA rfl qA_5) ?_
      exact obNc_end rfl rfl (grown_refl _ _)
     ·
      intro aA wA ccA cvA hNA hclA hRA hltA hvoA hbsA hdpA
      have hRA : w25.grownBy wA (Value.slice none 0 0).ownBlock := hRA
      have hnil_o := (Own.nil w25 w.heap.size 46 1)
      have z_wA := hRA.size
      have hb := below_stepO hb (Own.nil w25 w.heap.size 46 1) hRA hb.size (by omega)
      have hl := hl.keep0 hRA
      have hO6 := hO6.keep0 hRA
      have qA_45 : Sl aA 45 r := hdpA 1 _ 45 (by kernel_rfl) rfl rfl
      have qA_46 : Sl aA 46 (Value.int .i64 ((jj : Nat) : Int)) := hdpA 2 _ 46 (by kernel_rfl) rfl rfl
      clear hbsA hdpA
      refine op_slice_rd (lo := 0) (hi := jj) slt54 (ev_base hNA rfl qA_45) (Own.rdB hO6 hO6_s) (.inl ⟨rfl, rfl⟩) (.inr ⟨_, _, rfl, (ev_base hNA rfl qA_46)⟩) (by omega) (by omega) ?_
      intro v26 hR27
      have hR27 : RdC wA w.heap.size w25.heap.size 1 v26 jj ((((nrm (l.take i)).take jj)).map u16v) := by simpa [List.map_drop, List.map_take] using hR27
      exact obNc_end rfl ⟨v26, rfl, hR27, ⟨by omega, ge_of hvoA (fun k hk => by simp [Value.ownBlock] at hk) (by omega)⟩⟩ (grown_refl _ _)
     ·
      intro aA wA ccA cvA hNA hclA hRA hltA hvoA hbsA hdpA
      have qA_0 := (hbsA 0 rfl).trans (sl_base hN12 rfl s12_0)
      refine op_move (ev_base hNA rfl qA_0) ?_
      exact obNc_end rfl rfl (grown_refl _ _)
     ·
      intro aA wA ccA cvA hNA hclA hRA hltA hvoA hbsA hdpA
      have qA_4 := (hbsA 4 rfl).trans (sl_base hN12 rfl s12_4)
      refine op_move (ev_base hNA rfl qA_4) ?_
      exact obNc_end rfl rfl (grown_refl _ _)
     ·
      intro aA wA ccA cvA hNA hclA hRA hltA hvoA hbsA hdpA
      have hRA : w25.grownBy wA (Value.slice none 0 0).ownBlock := hRA
      have hnil_o := (Own.nil w25 w.heap.size 46 1)
      have z_wA := hRA.size
      have hb := below_stepO hb (Own.nil w25 w.heap.size 46 1) hRA hb.size (by omega)
      have hl := hl.keep0 hRA
      have hO6 := hO6.keep0 hRA
      have qA_49 : Sl aA 49 v := hdpA 5 _ 49 (by kernel_rfl) rfl rfl
      have qA_50 : Sl aA 50 (Value.int .i64 ((i : Nat) : Int)) := hdpA 6 _ 50 (by kernel_rfl) rfl rfl
      clear hbsA hdpA
      refine op_index_rd slt45 (ev_base hNA rfl qA_49) hl (ev_base hNA rfl qA_50) (by omega) (by omega) ?_
      intro b28 o29 h0b28 h1b28 hc30
      have hp31 : PtC wA 0 w.heap.size b28 o29 [(Value.int .u16 ((l.getD i 0).toNat : Int))] := ⟨by omega, by omega, fun j u hu => hc30 j u (by have := (List.getElem?_eq_some_iff.1 hu).1; simpa using this) ((fun j u hu => one_at (el_u16 (i := i) (by omega) (by omega)) hu) j u hu)⟩
      exact obNc_end rfl ⟨b28, o29, rfl, hp31, ⟨by omega, ge_of hvoA (fun k hk => by simp [Value.ownBlock] at hk) (by omega)⟩⟩ (grown_refl _ _)
     ·
      intro aA wA ccA cvA hNA hclA hRA hltA hvoA hbsA hdpA
      have hRA : w25.grownBy wA (Value.slice none 0 0).ownBlock := hRA
      have hnil_o := (Own.nil w25 w.heap.size 46 1)
      have z_wA := hRA.size
      have hb := below_stepO hb (Own.nil w25 w.heap.size 46 1) hRA hb.size (by omega)
      have hl := hl.keep0 hRA
      have hO6 := hO6.keep0 hRA
      obtain ⟨b39, o40, qA_51, hp42, xqA_51_0⟩ := hdpA 7 _ 51 (by kernel_rfl) rfl rfl
      have hp42 : PtC wA 0 w.heap.size b39 o40 [(Value.int .u16 ((l.getD i 0).toNat : Int))] := hp42
      clear hbsA hdpA
      refine op_load1 (v := (Value.int .u16 ((l.getD i 0).toNat : Int))) one46 (ev_base hNA rfl qA_51) (hp42.2.2 0 _ rfl) ?_
      exact obNc_end rfl rfl (grown_refl _ _)
     ·
      intro aA wA ccA cvA hNA hclA hRA hltA hvoA hbsA hdpA
      have hRA : w25.grownBy wA (Value.slice none 0 0).ownBlock := hRA
      have hnil_o := (Own.nil w25 w.heap.size 46 1)
      have z_wA := hRA.size
      have hb := below_stepO hb (Own.nil w25 w.heap.size 46 1) hRA hb.size (by omega)
      have hl := hl.keep0 hRA
      have hO6 := hO6.keep0 hRA
      have qA_52 : Sl aA 52 (Value.int .u16 ((l.getD i 0).toNat : Int)) := hdpA 8 _ 52 (by kernel_rfl) rfl rfl
      clear hbsA hdpA
      refine op_bslice (e := 46) (pv := [(0, (Value.int .u16 ((l.getD i 0).toNat : Int)))]) (cs := [(Value.int .u16 ((l.getD i 0).toNat : Int))]) ⟨rfl, (ev_base hNA rfl qA_52), trivial⟩ (by kernel_rfl) ?_
      intro w32 b33 lo_b33 hi_b33 hB35 E34
      have ne_b33_r : r.ownBlock ≠ some b33 := fun hh => by have := (hO6.lt _ hh).2; omega
      have z_w32 := E34.size
      have hl := hl.keep0 E34
      have hO6 := hO6.keep0 E34
      have hb := below_step0 hb E34 hb.size
      exact obNc_end rfl ⟨b33, rfl, (by omega), hB35, (fun hh => by have := hltA _ hh; omega)⟩ (E34)
     ·
      intro aA wA ccA cvA hNA hclA hRA hltA hvoA hbsA hdpA
      have qA_3 := (hbsA 3 rfl).trans (sl_base hN12 rfl s12_3)
      refine op_move (ev_base hNA rfl qA_3) ?_
      exact obNc_end rfl rfl (grown_refl _ _)
     ·
      intro aA wA ccA cvA hNA hclA hRA hltA hvoA hbsA hdpA
      have qA_5 := (hbsA 5 rfl).trans (sl_base hN12 rfl s12_5)
      refine op_move (ev_base hNA rfl qA_5) ?_
      exact obNc_end rfl rfl (grown_refl _ _)
     ·
      intro aA wA ccA cvA hNA hclA hRA hltA hvoA hbsA hdpA
      have hRA : w25.grownBy wA (Value.slice none 0 0).ownBlock := hRA
      have hnil_o := (Own.nil w25 w.heap.size 46 1)
      have z_wA := hRA.size
      have hb := below_stepO hb (Own.nil w25 w.heap.size 46 1) hRA hb.size (by omega)
      have hl := hl.keep0 hRA
      have hO6 := hO6.keep0 hRA
      have qA_55 : Sl aA 55 r := hdpA 11 _ 55 (by kernel_rfl) rfl rfl
      have qA_56 : Sl aA 56 (Value.int .i64 ((jj : Nat) : Int)) := hdpA 12 _ 56 (by kernel_rfl) rfl rfl
      clear hbsA hdpA
      refine op_slice_rd (lo := jj) (hi := (nrm (l.take i)).length) slt54 (ev_base hNA rfl qA_55) (Own.rdB hO6 hO6_s) (.inr ⟨_, _, rfl, (ev_base hNA rfl qA_56)⟩) (.inl ⟨rfl, rfl⟩) (by omega) (by omega) ?_
      intro v36 hR37
      have hR37 : RdC wA w.heap.size w25.heap.size 1 v36 ((nrm (l.take i)).length - jj) ((((nrm (l.take i)).drop jj)).map u16v) := by simpa [List.map_drop, List.map_take, List.take_of_length_le] using hR37
      exact obNc_end rfl ⟨v36, rfl, hR37, ⟨by omega, ge_of hvoA (fun k hk => by simp [Value.ownBlock] at hk) (by omega)⟩⟩ (grown_refl _ _)
     ·
      intro o_ ho_; obtain rfl := Option.some.inj ho_; intro aA wA cvA hNA hRA hcv0A hbsA hdpA hCA
      have hRA : w25.grownBy wA (Value.slice none 0 0).ownBlock := hRA
      have hnil_o := (Own.nil w25 w.heap.size 46 1)
      have z_wA := hRA.size
      have hb := below_stepO hb (Own.nil w25 w.heap.size 46 1) hRA hb.size (by omega)
      have hl := hl.keep0 hRA
      have hO6 := hO6.keep0 hRA
      have hcvA : (Value.slice none 0 0) = cvA := (hcv0A rfl).symm
      subst hcvA
      have hCA : Own wA w.heap.size 46 1 (Value.slice none 0 0) 0 ([]) := hCA
      clear hbsA hdpA
      refine op_bslice (e := 46) (pv := []) (cs := []) trivial (by kernel_rfl) ?_
      intro w38 b39 lo_b39 hi_b39 hB41 E40
      have ne_b39_r : r.ownBlock ≠ some b39 := fun hh => by have := (hO6.lt _ hh).2; omega
      have z_w38 := E40.size
      have hl := hl.keep0 E40
      have hO6 := hO6.keep0 E40
      have hCA := hCA.keep0 E40
      have hb := below_step0 hb E40 hb.size
      exact obCc_end rfl rfl (chP_now (w := w38)) (Own.ofBx (base := w.heap.size) (sz := 1) (n := 0) hB41 rfl (by decide) (by omega)) ⟨E40, .inr (fun k hk => by simp [Value.ownBlock] at hk; omega)⟩
     ·
      intro o_ ho_; obtain rfl := Option.some.inj ho_; intro aA wA cvA hNA hRA hcv0A hbsA hdpA hCA
      have hRA : w25.grownBy wA (Value.slice none 0 0).ownBlock := hRA
      have hnil_o := (Own.nil w25 w.heap.size 46 1)
      have z_wA := hRA.size
      have hb := below_stepO hb (Own.nil w25 w.heap.size 46 1) hRA hb.size (by omega)
      have hl := hl.keep0 hRA
      have hO6 := hO6.keep0 hRA
      have hCA : Own wA w.heap.size 46 1 cvA 0 ([]) := hCA
      have qA_44 : aA.tmps.getD 44 undef = cvA := (show chP 0 1 cvA (aA.tmps.getD 44 undef) wA from hdpA 0 _ 44 (by kernel_rfl) rfl rfl).2 rfl
      obtain ⟨v30, qA_47, hR31, xqA_47_0⟩ := hdpA 3 _ 47 (by kernel_rfl) rfl rfl
      have hR31 : RdC wA w.heap.size w25.heap.size 1 v30 jj ((((nrm (l.take i)).take jj)).map u16v) := hR31
      clear hbsA hdpA
      have hP47 := hCA
      refine op_append slt54 (ev_base hNA rfl qA_44) hP47 (ev_base hNA rfl qA_47) (Src.ofRd Try.underlying54 (by decide) hR31 (one_u16 _)) (by unfold maxLen; omega) (by omega) hb.size ?_
      intro v42 w43 hO45 E44 hm46
      have z_w43 := E44.size
      have hl := hl.keepO hP47 E44 (by omega)
      have hR31 := hR31.keep E44 (fun k hk => .inr (xqA_47_0.2 k hk))
      have hb := below_stepO hb hP47 E44 hb.size (by omega)
      have hO45 : Own w43 w.heap.size 46 1 v42 (0 + jj) ((((nrm (l.take i)).take jj)).map u16v) := by simpa [u8v, u16v, cellsV] using hO45
      exact obCc_end rfl rfl (chP_now (w := w43)) hO45 ⟨E44, hm46⟩
     ·
      intro o_ ho_; obtain rfl := Option.some.inj ho_; intro aA wA cvA hNA hRA hcv0A hbsA hdpA hCA
      have hRA : w25.grownBy wA (Value.slice none 0 0).ownBlock := hRA
      have hnil_o := (Own.nil w25 w.heap.size 46 1)
      have z_wA := hRA.size
      have hb := below_stepO hb (Own.nil w25 w.heap.size 46 1) hRA hb.size (by omega)
      have hl := hl.keep0 hRA
      have hO6 := hO6.keep0 hRA
      have hCA : Own wA w.heap.size 46 1 cvA (0 + jj) ((((nrm (l.take i)).take jj)).map u16v) := hCA
      have qA_48 : aA.tmps.getD 48 undef = cvA := (show chP 1 2 cvA (aA.tmps.getD 48 undef) wA from hdpA 4 _ 48 (by kernel_rfl) rfl rfl).2 rfl
      obtain ⟨b44, qA_53, loA_0, hB46, xqA_53_0⟩ := hdpA 9 _ 53 (by kernel_rfl) rfl rfl
      have hB46 : Bx wA b44 46 [(Value.int .u16 ((l.getD i 0).toNat : Int))] := hB46
      clear hbsA hdpA
      have hP53 := hCA
      refine op_append slt54 (ev_base hNA rfl qA_48) hP53 (ev_base hNA rfl qA_53) (Src.ofRd Try.underlying54 (by decide) (RdC.ofBx (sz := 1) (n := 1) hB46 rfl (by decide)) (by simp [Value.oneCell', u8v])) (by unfold maxLen; omega) (by omega) hb.size ?_
      intro v48 w49 hO51 E50 hm52
      have z_w49 := E50.size
      have hl := hl.keepO hP53 E50 (by omega)
      have hB46 := hB46.keep E50 (fun hh => xqA_53_0 hh.symm)
      have hb := below_stepO hb hP53 E50 hb.size (by omega)
      have hO51 : Own w49 w.heap.size 46 1 v48 ((0 + jj) + 1) (((((nrm (l.take i)).take jj) ++ [(l.getD i 0)])).map u16v) := by simpa [u8v, u16v, cellsV] using hO51
      exact obCc_end rfl rfl (chP_now (w := w49)) hO51 ⟨E50, hm52⟩
     ·
      intro a54 w54 v47 hN54 hd54 hbs54 hph54 hC54 E54 hm54
      have hd54 := hd54.trans hd12
      have s54_0 := (hbs54 0 rfl).trans (sl_base hN12 rfl s12_0)
      have s54_2 := (hbs54 2 rfl).trans (sl_base hN12 rfl s12_2)
      have s54_3 := (hbs54 3 rfl).trans (sl_base hN12 rfl s12_3)
      have s54_4 := (hbs54 4 rfl).trans (sl_base hN12 rfl s12_4)
      have s54_54 : a54.tmps.getD 54 undef = v47 := (show chP 2 3 v47 (a54.tmps.getD 54 undef) w54 from hph54 10 _ 54 rfl rfl).2 rfl
      obtain ⟨v54, s54_57, hR55, xq54_57_0⟩ := hph54 13 _ 57 rfl rfl
      have hR55 : RdC w54 w.heap.size w25.heap.size 1 v54 ((nrm (l.take i)).length - jj) ((((nrm (l.take i)).drop jj)).map u16v) := hR55
      clear hbs54 hph54
      have E54 : w25.grownBy w54 (Value.slice none 0 0).ownBlock := E54
      have hC54 : Own w54 w.heap.size 46 1 v47 ((0 + jj) + 1) (((((nrm (l.take i)).take jj) ++ [(l.getD i 0)])).map u16v) := hC54
      have dj55 : DJ r v47 := fun k hk hg => by have q1 := (hO6.lt k hk).2; rcases hm54 with h7 | h7; (rw [h7] at hg; simp [Value.ownBlock] at hg); (have := h7 k hg; omega)
      have E54 : w25.grownBy w54 none := E54
      have z_w54 := E54.size
      have hl := hl.keep0 E54
      have hO6 := hO6.keep0 E54
      have hb := below_step0 hb E54 hb.size
      refine split_end ?_
      refine from_seq (tl := [_, _]) (by decide) (by kernel_rfl) rfl ?_
      have hP61 := hC54
      refine op_append slt54 (ev_base hN54 rfl s54_54) hP61 (ev_base hN54 rfl s54_57) (Src.ofRd Try.underlying54 (by decide) hR55 (one_u16 _)) (by unfold maxLen; omega) (by omega) hb.size ?_
      intro v56 w57 hO59 E58 hm60
      have dj62 : DJ r v56 := DJ.step hm60 (fun k hk => (hO6.lt k hk).2) dj55
      have z_w57 := E58.size
      have hl := hl.keepO hP61 E58 (by omega)
      have hO6 := hO6.keepD E58 dj55
      have hR55 := hR55.keep E58 (fun k hk => .inr (xq54_57_0.2 k hk))
      have hb := below_stepO hb hP61 E58 hb.size (by omega)
      have hO59 : Own w57 w.heap.size 46 1 v56 (((0 + jj) + 1) + ((nrm (l.take i)).length - jj)) ((((((nrm (l.take i)).take jj) ++ [(l.getD i 0)]) ++ ((nrm (l.take i)).drop jj))).map u16v) := by simpa [u8v, u16v, cellsV] using hO59
      refine op_assign (ev_hit hN54 rfl) ?_
      refine reg_nil ?_
      refine hK9 _ _ ?_
      refine one_reg ?_
      refine op_move (ev_base hN54 rfl s54_4) ?_
      refine op_add (ev_hit hN54 rfl) rfl (add64 (by omega)) ?_
      refine op_assign (ev_hit hN54 rfl) ?_
      refine reg_nil ?_
      -- round 9T 15T 26F 32T
      have hins := insT_at (x := l.getD i 0) (acc := (nrm (l.take i))) (j := jj) hlt (by omega) (by omega)
      exact loop_next _ hN54 hd54 ⟨i + 1, _, rfl, (sl_base hN54 rfl s54_0), (sl_base hN54 rfl s54_2), (sl_hit hN54 rfl).trans (congrArg (Value.int .i64) (by omega)), (sl_hit hN54 rfl), (by omega), (nrm_len (by omega)), hb, (by omega), hl, (hO59.cast (by rw [take_nrm (by omega), hins.2 (.inl (by omega))]; simp; omega) (by rw [take_nrm (by omega), hins.2 (.inl (by omega))]; try simp [u16v]))⟩ (by omega)
    · -- 32F
     refine st_step rfl (fun _ h9 => op_cmp (b := false) (ev_hit hN12 rfl) (ev_hit hN12 rfl) (b_eql (decide_eq_false g32)) h9) ?_
     refine st_step rfl (fun _ h9 => op_move (ev_hit hN12 rfl) h9) ?_
     refine st_g_true (j := 4) (dj := 33) (b := false) rfl rfl rfl (ev_hit hN12 rfl) ?_
     refine st_step rfl (fun _ h9 => op_move (ev_base hN12 rfl s12_3) h9) ?_
     refine st_g_true (j := 4) (dj := 33) (b := false) rfl rfl rfl (ev_hit hN12 rfl) ?_
     refine st_step rfl (fun _ h9 => op_move (ev_base hN12 rfl s12_5) h9) ?_
     refine st_g_true (j := 4) (dj := 33) (b := false) rfl rfl rfl (ev_hit hN12 rfl) ?_
     refine st_index_rd slt54 (ev_hit hN12 rfl) hO6.rdw (ev_hit hN12 rfl) (by omega) (by omega) ?_
     intro b63 o64 h0b63 h1b63 hc65
     refine st_g_true (j := 4) (dj := 33) (b := false) rfl rfl rfl (ev_hit hN12 rfl) ?_
     refine st_step rfl (fun _ h9 => op_load1 (v := (Value.int .u16 (((nrm (l.take i)).getD jj 0).toNat : Int))) one46 (ev_hit hN12 rfl) (by have := hc65 0 (Value.int .u16 (((nrm (l.take i)).getD jj 0).toNat : Int)) (by decide) (el_u16 (i := jj) (by omega) (by omega)); simpa using this) h9) ?_
     refine st_g_true (j := 4) (dj := 33) (b := false) rfl rfl rfl (ev_hit hN12 rfl) ?_
     refine st_step rfl (fun _ h9 => op_move (ev_base hN12 rfl s12_0) h9) ?_
     refine st_g_true (j := 4) (dj := 33) (b := false) rfl rfl rfl (ev_hit hN12 rfl) ?_
     refine st_step rfl (fun _ h9 => op_move (ev_base hN12 rfl s12_4) h9) ?_
     refine st_g_true (j := 4) (dj := 33) (b := false) rfl rfl rfl (ev_hit hN12 rfl) ?_
     refine st_index_rd slt45 (ev_hit hN12 rfl) hl (ev_hit hN12 rfl) (by omega) (by omega) ?_
     intro b66 o67 h0b66 h1b66 hc68
     refine st_g_true (j := 4) (dj := 33) (b := false) rfl rfl rfl (ev_hit hN12 rfl) ?_
     refine st_step rfl (fun _ h9 => op_load1 (v := (Value.int .u16 ((l.getD i 0).toNat : Int))) one46 (ev_hit hN12 rfl) (by have := hc68 0 (Value.int .u16 ((l.getD i 0).toNat : Int)) (by decide) (el_u16 (i := i) (by omega) (by omega)); simpa using this) h9) ?_
     refine st_g_true (j := 4) (dj := 33) (b := false) rfl rfl rfl (ev_hit hN12 rfl) ?_
     refine st_step rfl (fun _ h9 => op_cmp (b := (decide ((((nrm (l.take i)).getD jj 0).toNat : Int) ≠ ((l.getD i 0).toNat : Int)))) (ev_hit hN12 rfl) (ev_hit hN12 rfl) (b_neq rfl) h9) ?_
     refine st_step rfl (fun _ h9 => op_pick_f (ev_hit hN12 rfl) (ev_hit hN12 rfl) h9) ?_
     refine st_nil ?_
     refine hK23 _ _ ?_
     refine wp_cond_split (ev_hit hN12 rfl) (fun c43 => ?_) (fun c43 => ?_)
     · -- 43T
      have c43 := of_decide_eq_true c43
      have hO6_s := hO6
      refine reg_split (hd := [_, _, _, _, _, _, _, _, _, _, _, _, _, _]) (tl := _) 14 mixed (by kernel_rfl) rfl rfl ?_
      refine any_chain (Φ := phiC [chP 0, (fun _ _ uz _ => uz = r), (fun _ _ uz _ => uz = (Value.int .i64 ((jj : Nat) : Int))), (fun _ vz uz w' => ∃ (v73 : Value), uz = v73 ∧ RdC w' w.heap.size w25.heap.size 1 v73 jj ((((nrm (l.take i)).take jj)).map u16v) ∧ (w25.heap.size ≤ w'.heap.size ∧ ∀ k, vz.ownBlock = some k → w25.heap.size ≤ k)), chP 1, (fun _ _ uz _ => uz = v), (fun _ _ uz _ => uz = (Value.int .i64 ((i : Nat) : Int))), (fun _ vz uz w' => ∃ (b82 : (Nat)) (o83 : (Nat)), uz = (ptr b82 o83) ∧ PtC w' 0 w.heap.size b82 o83 [(Value.int .u16 ((l.getD i 0).toNat : Int))] ∧ (w.heap.size ≤ w'.heap.size ∧ ∀ k, vz.ownBlock = some k → w.heap.size ≤ k)), (fun _ _ uz _ => uz = (Value.int .u16 ((l.getD i 0).toNat : Int))), (fun _ vz uz w' => ∃ (b87 : Nat), uz = (Value.slice (some ⟨b87, 0, none⟩) 1 1) ∧ w25.heap.size ≤ b87 ∧ Bx w' b87 46 [(Value.int .u16 ((l.getD i 0).toNat : Int))] ∧ vz.ownBlock ≠ some b87), chP 2, (fun _ _ uz _ => uz = r), (fun _ _ uz _ => uz = (Value.int .i64 ((jj : Nat) : Int))), (fun _ vz uz w' => ∃ (v97 : Value), uz = v97 ∧ RdC w' w.heap.size w25.heap.size 1 v97 ((nrm (l.take i)).length - jj) ((((nrm (l.take i)).drop jj)).map u16v) ∧ (w25.heap.size ≤ w'.heap.size ∧ ∀ k, vz.ownBlock = some k → w25.heap.size ≤ k))]) (C := CL [(fun vz w' => Own w' w.heap.size 46 1 vz 0 ([])), (fun vz w' => Own w' w.heap.size 46 1 vz 0 ([])), (fun vz w' => Own w' w.heap.size 46 1 vz (0 + jj) ((((nrm (l.take i)).take jj)).map u16v)), (fun vz w' => Own w' w.heap.size 46 1 vz ((0 + jj) + 1) (((((nrm (l.take i)).take jj) ++ [(l.getD i 0)])).map u16v))]) ⟨[0, 4, 10], fun c => [60, 44, 48, 54].getD c 60⟩ (Value.slice none 0 0) (by kernel_rfl) (by kernel_rfl) (by kernel_rfl) (by kernel_rfl) hN12 (StK.get0 (n := 3) (StK.ch (StK.eq (StK.eq (StK.cons (fun c v u w1 w2 E h => by obtain ⟨x0, hv, f0, q0⟩ := h; exact ⟨x0, hv, f0.keep0 E, ⟨Nat.le_trans q0.1 E.size, q0.2⟩⟩) (fun c v v' u w1 w2 _ E h => by obtain ⟨x0, hv, f0, q0⟩ := h; exact ⟨x0, hv, f0.keep E.1 (fun k hk => .inr (q0.2 k hk)), ⟨Nat.le_trans q0.1 E.1.size, ge_step E q0.1 q0.2⟩⟩) (StK.ch (StK.eq (StK.eq (StK.cons (fun c v u w1 w2 E h => by obtain ⟨x0, x1, hv, f0, q0⟩ := h; exact ⟨x0, x1, hv, f0.keep0 E, ⟨Nat.le_trans q0.1 E.size, q0.2⟩⟩) (fun c v v' u w1 w2 _ E h => by obtain ⟨x0, x1, hv, f0, q0⟩ := h; exact ⟨x0, x1, hv, f0.keep E.1 (fun k hk => .inr (q0.2 k hk)), ⟨Nat.le_trans q0.1 E.1.size, ge_step E q0.1 q0.2⟩⟩) (StK.eq (StK.cons (fun c v u w1 w2 E h => by obtain ⟨x0, hv, l0, f0, q0⟩ := h; exact ⟨x0, hv, l0, f0.keep0 E, q0⟩) (fun c v v' u w1 w2 _ E h => by obtain ⟨x0, hv, l0, f0, q0⟩ := h; exact ⟨x0, hv, l0, f0.keep E.1 (fun hh => q0 hh.symm), ne_step E f0.lt q0⟩) (StK.ch (StK.eq (StK.eq (StK.cons (fun c v u w1 w2 E h => by obtain ⟨x0, hv, f0, q0⟩ := h; exact ⟨x0, hv, f0.keep0 E, ⟨Nat.le_trans q0.1 E.size, q0.2⟩⟩) (fun c v v' u w1 w2 _ E h => by obtain ⟨x0, hv, f0, q0⟩ := h; exact ⟨x0, hv, f0.keep E.1 (fun k hk => .inr (q0.2 k hk)), ⟨Nat.le_trans q0.1 E.1.size, ge_step E q0.1 q0.2⟩⟩) (StK.nil)))))))))))))))) (StK.get1 (n := 3) (StK.ch (StK.eq (StK.eq (StK.cons (fun c v u w1 w2 E h => by obtain ⟨x0, hv, f0, q0⟩ := h; exact ⟨x0, hv, f0.keep0 E, ⟨Nat.le_trans q0.1 E.size, q0.2⟩⟩) (fun c v v' u w1 w2 _ E h => by obtain ⟨x0, hv, f0, q0⟩ := h; exact ⟨x0, hv, f0.keep E.1 (fun k hk => .inr (q0.2 k hk)), ⟨Nat.le_trans q0.1 E.1.size, ge_step E q0.1 q0.2⟩⟩) (StK.ch (StK.eq (StK.eq (StK.cons (fun c v u w1 w2 E h => by obtain ⟨x0, x1, hv, f0, q0⟩ := h; exact ⟨x0, x1, hv, f0.keep0 E, ⟨Nat.le_trans q0.1 E.size, q0.2⟩⟩) (fun c v v' u w1 w2 _ E h => by obtain ⟨x0, x1, hv, f0, q0⟩ := h; exact ⟨x0, x1, hv, f0.keep E.1 (fun k hk => .inr (q0.2 k hk)), ⟨Nat.le_trans q0.1 E.1.size, ge_step E q0.1 q0.2⟩⟩) (StK.eq (StK.cons (fun c v u w1 w2 E h => by obtain ⟨x0, hv, l0, f0, q0⟩ := h; exact ⟨x0, hv, l0, f0.keep0 E, q0⟩) (fun c v v' u w1 w2 _ E h => by obtain ⟨x0, hv, l0, f0, q0⟩ := h; exact ⟨x0, hv, l0, f0.keep E.1 (fun hh => q0 hh.symm), ne_step E f0.lt q0⟩) (StK.ch (StK.eq (StK.eq (StK.cons (fun c v u w1 w2 E h => by obtain ⟨x0, hv, f0, q0⟩ := h; exact ⟨x0, hv, f0.keep0 E, ⟨Nat.le_trans q0.1 E.size, q0.2⟩⟩) (fun c v v' u w1 w2 _ E h => by obtain ⟨x0, hv, f0, q0⟩ := h; exact ⟨x0, hv, f0.keep E.1 (fun k hk => .inr (q0.2 k hk)), ⟨Nat.le_trans q0.1 E.1.size, ge_step E q0.1 q0.2⟩⟩) (StK.nil)))))))))))))))) (StL2.get0 (StL2.own (StL2.own (StL2.own (StL2.own (StL2.nil)))))) (StL2.get1 (StL2.own (StL2.own (StL2.own (StL2.own (StL2.nil)))))) (Own.nil w25 w.heap.size 46 1) (ObLn.get (ObLn.pass rfl (ObLn.cons ?_ (ObLn.cons ?_ (ObLn.cons ?_ (ObLn.pass rfl (ObLn.cons ?_ (ObLn.cons ?_ (ObLn.cons ?_ (ObLn.cons ?_ (ObLn.cons ?_ (ObLn.pass rfl (ObLn.cons ?_ (ObLn.cons ?_ (ObLn.cons ?_ (ObLn.nil)))))))))))))))) (ObLc.get (ObLc.cons ?_ (ObLc.cons ?_ (ObLc.cons ?_ (ObLc.nil))))) ?_
      ·
       intro aA wA ccA cvA hNA hclA hRA hltA hvoA hbsA hdpA
       have qA_3 := (hbsA 3 rfl).trans (sl_base hN12 rfl s12_3)
       refine op_move (ev_base hNA rfl qA_3) ?_
       exact obNc_end rfl rfl (grown_refl _ _)
      ·
       intro aA wA ccA cvA hNA hclA hRA hltA hvoA hbsA hdpA
       have qA_5 := (hbsA 5 rfl).trans (sl_base hN12 rfl s12_5)
       refine op_move (ev_base hNA rfl qA_5) ?_
       exact obNc_end rfl rfl (grown_refl _ _)
      ·
       intro aA wA ccA cvA hNA hclA hRA hltA hvoA hbsA hdpA
       have hRA : w25.grownBy wA (Value.slice none 0 0).ownBlock := hRA
       have hnil_o := (Own.nil w25 w.heap.size 46 1)
       have z_wA := hRA.size
       have hb := below_stepO hb (Own.nil w25 w.heap.size 46 1) hRA hb.size (by omega)
       have hl := hl.keep0 hRA
       have hO6 := hO6.keep0 hRA
       have qA_45 : Sl aA 45 r := hdpA 1 _ 45 (by kernel_rfl) rfl rfl
       have qA_46 : Sl aA 46 (Value.int .i64 ((jj : Nat) : Int)) := hdpA 2 _ 46 (by kernel_rfl) rfl rfl
       clear hbsA hdpA
       refine op_slice_rd (lo := 0) (hi := jj) slt54 (ev_base hNA rfl qA_45) (Own.rdB hO6 hO6_s) (.inl ⟨rfl, rfl⟩) (.inr ⟨_, _, rfl, (ev_base hNA rfl qA_46)⟩) (by omega) (by omega) ?_
       intro v69 hR70
       have hR70 : RdC wA w.heap.size w25.heap.size 1 v69 jj ((((nrm (l.take i)).take jj)).map u16v) := by simpa [List.map_drop, List.map_take] using hR70
       exact obNc_end rfl ⟨v69, rfl, hR70, ⟨by omega, ge_of hvoA (fun k hk => by simp [Value.ownBlock] at hk) (by omega)⟩⟩ (grown_refl _ _)
      ·
       intro aA wA ccA cvA hNA hclA hRA hltA hvoA hbsA hdpA
       have qA_0 := (hbsA 0 rfl).trans (sl_base hN12 rfl s12_0)
       refine op_move (ev_base hNA rfl qA_0) ?_
       exact obNc_end rfl rfl (grown_refl _ _)
      ·
       intro aA wA ccA cvA hNA hclA hRA hltA hvoA hbsA hdpA
       have qA_4 := (hbsA 4 rfl).trans (sl_base hN12 rfl s12_4)
       refine op_move (ev_base hNA rfl qA_4) ?_
       exact obNc_end rfl rfl (grown_refl _ _)
      ·
       intro aA wA ccA cvA hNA hclA hRA hltA hvoA hbsA hdpA
       have hRA : w25.grownBy wA (Value.slice none 0 0).ownBlock := hRA
       have hnil_o := (Own.nil w25 w.heap.size 46 1)
       have z_wA := hRA.size
       have hb := below_stepO hb (Own.nil w25 w.heap.size 46 1) hRA hb.size (by omega)
       have hl := hl.keep0 hRA
       have hO6 := hO6.keep0 hRA
       have qA_49 : Sl aA 49 v := hdpA 5 _ 49 (by kernel_rfl) rfl rfl
       have qA_50 : Sl aA 50 (Value.int .i64 ((i : Nat) : Int)) := hdpA 6 _ 50 (by kernel_rfl) rfl rfl
       clear hbsA hdpA
       refine op_index_rd slt45 (ev_base hNA rfl qA_49) hl (ev_base hNA rfl qA_50) (by omega) (by omega) ?_
       intro b71 o72 h0b71 h1b71 hc73
       have hp74 : PtC wA 0 w.heap.size b71 o72 [(Value.int .u16 ((l.getD i 0).toNat : Int))] := ⟨by omega, by omega, fun j u hu => hc73 j u (by have := (List.getElem?_eq_some_iff.1 hu).1; simpa using this) ((fun j u hu => one_at (el_u16 (i := i) (by omega) (by omega)) hu) j u hu)⟩
       exact obNc_end rfl ⟨b71, o72, rfl, hp74, ⟨by omega, ge_of hvoA (fun k hk => by simp [Value.ownBlock] at hk) (by omega)⟩⟩ (grown_refl _ _)
      ·
       intro aA wA ccA cvA hNA hclA hRA hltA hvoA hbsA hdpA
       have hRA : w25.grownBy wA (Value.slice none 0 0).ownBlock := hRA
       have hnil_o := (Own.nil w25 w.heap.size 46 1)
       have z_wA := hRA.size
       have hb := below_stepO hb (Own.nil w25 w.heap.size 46 1) hRA hb.size (by omega)
       have hl := hl.keep0 hRA
       have hO6 := hO6.keep0 hRA
       obtain ⟨b82, o83, qA_51, hp85, xqA_51_0⟩ := hdpA 7 _ 51 (by kernel_rfl) rfl rfl
       have hp85 : PtC wA 0 w.heap.size b82 o83 [(Value.int .u16 ((l.getD i 0).toNat : Int))] := hp85
       clear hbsA hdpA
       refine op_load1 (v := (Value.int .u16 ((l.getD i 0).toNat : Int))) one46 (ev_base hNA rfl qA_51) (hp85.2.2 0 _ rfl) ?_
       exact obNc_end rfl rfl (grown_refl _ _)
      ·
       intro aA wA ccA cvA hNA hclA hRA hltA hvoA hbsA hdpA
       have hRA : w25.grownBy wA (Value.slice none 0 0).ownBlock := hRA
       have hnil_o := (Own.nil w25 w.heap.size 46 1)
       have z_wA := hRA.size
       have hb := below_stepO hb (Own.nil w25 w.heap.size 46 1) hRA hb.size (by omega)
       have hl := hl.keep0 hRA
       have hO6 := hO6.keep0 hRA
       have qA_52 : Sl aA 52 (Value.int .u16 ((l.getD i 0).toNat : Int)) := hdpA 8 _ 52 (by kernel_rfl) rfl rfl
       clear hbsA hdpA
       refine op_bslice (e := 46) (pv := [(0, (Value.int .u16 ((l.getD i 0).toNat : Int)))]) (cs := [(Value.int .u16 ((l.getD i 0).toNat : Int))]) ⟨rfl, (ev_base hNA rfl qA_52), trivial⟩ (by kernel_rfl) ?_
       intro w75 b76 lo_b76 hi_b76 hB78 E77
       have ne_b76_r : r.ownBlock ≠ some b76 := fun hh => by have := (hO6.lt _ hh).2; omega
       have z_w75 := E77.size
       have hl := hl.keep0 E77
       have hO6 := hO6.keep0 E77
       have hb := below_step0 hb E77 hb.size
       exact obNc_end rfl ⟨b76, rfl, (by omega), hB78, (fun hh => by have := hltA _ hh; omega)⟩ (E77)
      ·
       intro aA wA ccA cvA hNA hclA hRA hltA hvoA hbsA hdpA
       have qA_3 := (hbsA 3 rfl).trans (sl_base hN12 rfl s12_3)
       refine op_move (ev_base hNA rfl qA_3) ?_
       exact obNc_end rfl rfl (grown_refl _ _)
      ·
       intro aA wA ccA cvA hNA hclA hRA hltA hvoA hbsA hdpA
       have qA_5 := (hbsA 5 rfl).trans (sl_base hN12 rfl s12_5)
       refine op_move (ev_base hNA rfl qA_5) ?_
       exact obNc_end rfl rfl (grown_refl _ _)
      ·
       intro aA wA ccA cvA hNA hclA hRA hltA hvoA hbsA hdpA
       have hRA : w25.grownBy wA (Value.slice none 0 0).ownBlock := hRA
       have hnil_o := (Own.nil w25 w.heap.size 46 1)
       have z_wA := hRA.size
       have hb := below_stepO hb (Own.nil w25 w.heap.size 46 1) hRA hb.size (by omega)
       have hl := hl.keep0 hRA
       have hO6 := hO6.keep0 hRA
       have qA_55 : Sl aA 55 r := hdpA 11 _ 55 (by kernel_rfl) rfl rfl
       have qA_56 : Sl aA 56 (Value.int .i64 ((jj : Nat) : Int)) := hdpA 12 _ 56 (by kernel_rfl) rfl rfl
       clear hbsA hdpA
       refine op_slice_rd (lo := jj) (hi := (nrm (l.take i)).length) slt54 (ev_base hNA rfl qA_55) (Own.rdB hO6 hO6_s) (.inr ⟨_, _, rfl, (ev_base hNA rfl qA_56)⟩) (.inl ⟨rfl, rfl⟩) (by omega) (by omega) ?_
       intro v79 hR80
       have hR80 : RdC wA w.heap.size w25.heap.size 1 v79 ((nrm (l.take i)).length - jj) ((((nrm (l.take i)).drop jj)).map u16v) := by simpa [List.map_drop, List.map_take, List.take_of_length_le] using hR80
       exact obNc_end rfl ⟨v79, rfl, hR80, ⟨by omega, ge_of hvoA (fun k hk => by simp [Value.ownBlock] at hk) (by omega)⟩⟩ (grown_refl _ _)
      ·
       intro o_ ho_; obtain rfl := Option.some.inj ho_; intro aA wA cvA hNA hRA hcv0A hbsA hdpA hCA
       have hRA : w25.grownBy wA (Value.slice none 0 0).ownBlock := hRA
       have hnil_o := (Own.nil w25 w.heap.size 46 1)
       have z_wA := hRA.size
       have hb := below_stepO hb (Own.nil w25 w.heap.size 46 1) hRA hb.size (by omega)
       have hl := hl.keep0 hRA
       have hO6 := hO6.keep0 hRA
       have hcvA : (Value.slice none 0 0) = cvA := (hcv0A rfl).symm
       subst hcvA
       have hCA : Own wA w.heap.size 46 1 (Value.slice none 0 0) 0 ([]) := hCA
       clear hbsA hdpA
       refine op_bslice (e := 46) (pv := []) (cs := []) trivial (by kernel_rfl) ?_
       intro w81 b82 lo_b82 hi_b82 hB84 E83
       have ne_b82_r : r.ownBlock ≠ some b82 := fun hh => by have := (hO6.lt _ hh).2; omega
       have z_w81 := E83.size
       have hl := hl.keep0 E83
       have hO6 := hO6.keep0 E83
       have hCA := hCA.keep0 E83
       have hb := below_step0 hb E83 hb.size
       exact obCc_end rfl rfl (chP_now (w := w81)) (Own.ofBx (base := w.heap.size) (sz := 1) (n := 0) hB84 rfl (by decide) (by omega)) ⟨E83, .inr (fun k hk => by simp [Value.ownBlock] at hk; omega)⟩
      ·
       intro o_ ho_; obtain rfl := Option.some.inj ho_; intro aA wA cvA hNA hRA hcv0A hbsA hdpA hCA
       have hRA : w25.grownBy wA (Value.slice none 0 0).ownBlock := hRA
       have hnil_o := (Own.nil w25 w.heap.size 46 1)
       have z_wA := hRA.size
       have hb := below_stepO hb (Own.nil w25 w.heap.size 46 1) hRA hb.size (by omega)
       have hl := hl.keep0 hRA
       have hO6 := hO6.keep0 hRA
       have hCA : Own wA w.heap.size 46 1 cvA 0 ([]) := hCA
       have qA_44 : aA.tmps.getD 44 undef = cvA := (show chP 0 1 cvA (aA.tmps.getD 44 undef) wA from hdpA 0 _ 44 (by kernel_rfl) rfl rfl).2 rfl
       obtain ⟨v73, qA_47, hR74, xqA_47_0⟩ := hdpA 3 _ 47 (by kernel_rfl) rfl rfl
       have hR74 : RdC wA w.heap.size w25.heap.size 1 v73 jj ((((nrm (l.take i)).take jj)).map u16v) := hR74
       clear hbsA hdpA
       have hP90 := hCA
       refine op_append slt54 (ev_base hNA rfl qA_44) hP90 (ev_base hNA rfl qA_47) (Src.ofRd Try.underlying54 (by decide) hR74 (one_u16 _)) (by unfold maxLen; omega) (by omega) hb.size ?_
       intro v85 w86 hO88 E87 hm89
       have z_w86 := E87.size
       have hl := hl.keepO hP90 E87 (by omega)
       have hR74 := hR74.keep E87 (fun k hk => .inr (xqA_47_0.2 k hk))
       have hb := below_stepO hb hP90 E87 hb.size (by omega)
       have hO88 : Own w86 w.heap.size 46 1 v85 (0 + jj) ((((nrm (l.take i)).take jj)).map u16v) := by simpa [u8v, u16v, cellsV] using hO88
       exact obCc_end rfl rfl (chP_now (w := w86)) hO88 ⟨E87, hm89⟩
      ·
       intro o_ ho_; obtain rfl := Option.some.inj ho_; intro aA wA cvA hNA hRA hcv0A hbsA hdpA hCA
       have hRA : w25.grownBy wA (Value.slice none 0 0).ownBlock := hRA
       have hnil_o := (Own.nil w25 w.heap.size 46 1)
       have z_wA := hRA.size
       have hb := below_stepO hb (Own.nil w25 w.heap.size 46 1) hRA hb.size (by omega)
       have hl := hl.keep0 hRA
       have hO6 := hO6.keep0 hRA
       have hCA : Own wA w.heap.size 46 1 cvA (0 + jj) ((((nrm (l.take i)).take jj)).map u16v) := hCA
       have qA_48 : aA.tmps.getD 48 undef = cvA := (show chP 1 2 cvA (aA.tmps.getD 48 undef) wA from hdpA 4 _ 48 (by kernel_rfl) rfl rfl).2 rfl
       obtain ⟨b87, qA_53, loA_0, hB89, xqA_53_0⟩ := hdpA 9 _ 53 (by kernel_rfl) rfl rfl
       have hB89 : Bx wA b87 46 [(Value.int .u16 ((l.getD i 0).toNat : Int))] := hB89
       clear hbsA hdpA
       have hP96 := hCA
       refine op_append slt54 (ev_base hNA rfl qA_48) hP96 (ev_base hNA rfl qA_53) (Src.ofRd Try.underlying54 (by decide) (RdC.ofBx (sz := 1) (n := 1) hB89 rfl (by decide)) (by simp [Value.oneCell', u8v])) (by unfold maxLen; omega) (by omega) hb.size ?_
       intro v91 w92 hO94 E93 hm95
       have z_w92 := E93.size
       have hl := hl.keepO hP96 E93 (by omega)
       have hB89 := hB89.keep E93 (fun hh => xqA_53_0 hh.symm)
       have hb := below_stepO hb hP96 E93 hb.size (by omega)
       have hO94 : Own w92 w.heap.size 46 1 v91 ((0 + jj) + 1) (((((nrm (l.take i)).take jj) ++ [(l.getD i 0)])).map u16v) := by simpa [u8v, u16v, cellsV] using hO94
       exact obCc_end rfl rfl (chP_now (w := w92)) hO94 ⟨E93, hm95⟩
      ·
       intro a97 w97 v90 hN97 hd97 hbs97 hph97 hC97 E97 hm97
       have hd97 := hd97.trans hd12
       have s97_0 := (hbs97 0 rfl).trans (sl_base hN12 rfl s12_0)
       have s97_2 := (hbs97 2 rfl).trans (sl_base hN12 rfl s12_2)
       have s97_3 := (hbs97 3 rfl).trans (sl_base hN12 rfl s12_3)
       have s97_4 := (hbs97 4 rfl).trans (sl_base hN12 rfl s12_4)
       have s97_54 : a97.tmps.getD 54 undef = v90 := (show chP 2 3 v90 (a97.tmps.getD 54 undef) w97 from hph97 10 _ 54 rfl rfl).2 rfl
       obtain ⟨v97, s97_57, hR98, xq97_57_0⟩ := hph97 13 _ 57 rfl rfl
       have hR98 : RdC w97 w.heap.size w25.heap.size 1 v97 ((nrm (l.take i)).length - jj) ((((nrm (l.take i)).drop jj)).map u16v) := hR98
       clear hbs97 hph97
       have E97 : w25.grownBy w97 (Value.slice none 0 0).ownBlock := E97
       have hC97 : Own w97 w.heap.size 46 1 v90 ((0 + jj) + 1) (((((nrm (l.take i)).take jj) ++ [(l.getD i 0)])).map u16v) := hC97
       have dj98 : DJ r v90 := fun k hk hg => by have q1 := (hO6.lt k hk).2; rcases hm97 with h7 | h7; (rw [h7] at hg; simp [Value.ownBlock] at hg); (have := h7 k hg; omega)
       have E97 : w25.grownBy w97 none := E97
       have z_w97 := E97.size
       have hl := hl.keep0 E97
       have hO6 := hO6.keep0 E97
       have hb := below_step0 hb E97 hb.size
       refine split_end ?_
       refine from_seq (tl := [_, _]) (by decide) (by kernel_rfl) rfl ?_
       have hP104 := hC97
       refine op_append slt54 (ev_base hN97 rfl s97_54) hP104 (ev_base hN97 rfl s97_57) (Src.ofRd Try.underlying54 (by decide) hR98 (one_u16 _)) (by unfold maxLen; omega) (by omega) hb.size ?_
       intro v99 w100 hO102 E101 hm103
       have dj105 : DJ r v99 := DJ.step hm103 (fun k hk => (hO6.lt k hk).2) dj98
       have z_w100 := E101.size
       have hl := hl.keepO hP104 E101 (by omega)
       have hO6 := hO6.keepD E101 dj98
       have hR98 := hR98.keep E101 (fun k hk => .inr (xq97_57_0.2 k hk))
       have hb := below_stepO hb hP104 E101 hb.size (by omega)
       have hO102 : Own w100 w.heap.size 46 1 v99 (((0 + jj) + 1) + ((nrm (l.take i)).length - jj)) ((((((nrm (l.take i)).take jj) ++ [(l.getD i 0)]) ++ ((nrm (l.take i)).drop jj))).map u16v) := by simpa [u8v, u16v, cellsV] using hO102
       refine op_assign (ev_hit hN97 rfl) ?_
       refine reg_nil ?_
       refine hK9 _ _ ?_
       refine one_reg ?_
       refine op_move (ev_base hN97 rfl s97_4) ?_
       refine op_add (ev_hit hN97 rfl) rfl (add64 (by omega)) ?_
       refine op_assign (ev_hit hN97 rfl) ?_
       refine reg_nil ?_
       -- round 9T 15T 26F 32F 43T
       have hins := insT_at (x := l.getD i 0) (acc := (nrm (l.take i))) (j := jj) hlt (by omega) (by omega)
       exact loop_next _ hN97 hd97 ⟨i + 1, _, rfl, (sl_base hN97 rfl s97_0), (sl_base hN97 rfl s97_2), (sl_hit hN97 rfl).trans (congrArg (Value.int .i64) (by omega)), (sl_hit hN97 rfl), (by omega), (nrm_len (by omega)), hb, (by omega), hl, (hO102.cast (by rw [take_nrm (by omega), hins.2 (.inr (fun e => c43 (by rw [e])))]; simp; omega) (by rw [take_nrm (by omega), hins.2 (.inr (fun e => c43 (by rw [e])))]; try simp [u16v]))⟩ (by omega)
     · -- 43F
      have c43 := of_decide_eq_false c43
      refine wp_skip ?_
      refine hK9 _ _ ?_
      refine one_reg ?_
      refine op_move (ev_base hN12 rfl s12_4) ?_
      refine op_add (ev_hit hN12 rfl) rfl (add64 (by omega)) ?_
      refine op_assign (ev_hit hN12 rfl) ?_
      refine reg_nil ?_
      -- round 9T 15T 26F 32F 43F
      have hins := insT_at (x := l.getD i 0) (acc := (nrm (l.take i))) (j := jj) hlt (by omega) (by omega)
      exact loop_next _ hN12 hd12 ⟨i + 1, _, rfl, (sl_base hN12 rfl s12_0), (sl_base hN12 rfl s12_2), (sl_hit hN12 rfl).trans (congrArg (Value.int .i64) (by omega)), (sl_base hN12 rfl s12_3), (by omega), (nrm_len (by omega)), hb, (by omega), hl, (hO6.cast (by rw [take_nrm (by omega), hins.1 ⟨by omega, u16_eq (by omega)⟩]) (by rw [take_nrm (by omega), hins.1 ⟨by omega, u16_eq (by omega)⟩]))⟩ (by omega)
  · -- 15F
   refine st_step rfl (fun _ h9 => op_cmp (b := false) (ev_hit hN12 rfl) (ev_hit hN12 rfl) (b_lss (decide_eq_false g15)) h9) ?_
   refine st_step rfl (fun _ h9 => op_move (ev_hit hN12 rfl) h9) ?_
   refine st_g_false (j := 4) (dj := 16) (b := true) rfl rfl rfl (ev_hit hN12 rfl) rfl rfl ?_
   refine st_g_false (j := 4) (dj := 16) (b := true) rfl rfl rfl (ev_hit hN12 rfl) rfl rfl ?_
   refine st_g_false (j := 4) (dj := 16) (b := true) rfl rfl rfl (ev_hit hN12 rfl) rfl rfl ?_
   refine st_g_false (j := 4) (dj := 16) (b := true) rfl rfl rfl (ev_hit hN12 rfl) rfl rfl ?_
   refine st_g_false (j := 4) (dj := 16) (b := true) rfl rfl rfl (ev_hit hN12 rfl) rfl rfl ?_
   refine st_g_false (j := 4) (dj := 16) (b := true) rfl rfl rfl (ev_hit hN12 rfl) rfl rfl ?_
   refine st_g_false (j := 4) (dj := 16) (b := true) rfl rfl rfl (ev_hit hN12 rfl) rfl rfl ?_
   refine st_g_false (j := 4) (dj := 16) (b := true) rfl rfl rfl (ev_hit hN12 rfl) rfl rfl ?_
   refine st_g_false (j := 4) (dj := 16) (b := true) rfl rfl rfl (ev_hit hN12 rfl) rfl rfl ?_
   refine st_step rfl (fun _ h9 => op_pick_f (ev_hit hN12 rfl) rfl h9) ?_
   refine st_nil ?_
   refine hK14 _ _ ?_
   refine wp_cond_false (ev_hit hN12 rfl) ?_
   refine wp_exit (then_exit (then_exit (blk_hit ?_)))
   refine hK11 _ _ ?_
   refine seq_any fun K106 hK106 => ?_
   refine reg_still mixed (by kernel_rfl) ?_
   intro w108 E107
   have z_w108 := E107.size
   have hl := hl.keep0 E107
   have hO6 := hO6.keep0 E107
   have hb := below_step0 hb E107 hb.size
   refine st_step rfl (fun _ h9 => op_move (ev_base hN12 rfl s12_5) h9) ?_
   refine st_step rfl (fun _ h9 => op_move (ev_base hN12 rfl s12_3) h9) ?_
   refine st_step rfl (fun _ h9 => op_len_rd Try.underlying54 (ev_hit hN12 rfl) hO6.rdw h9) ?_
   by_cases g32 : ((jj : Nat) : Int) = (((nrm (l.take i)).length : Nat) : Int)
   · -- 32T
    refine st_step rfl (fun _ h9 => op_cmp (b := true) (ev_hit hN12 rfl) (ev_hit hN12 rfl) (b_eql (decide_eq_true g32)) h9) ?_
    refine st_step rfl (fun _ h9 => op_move (ev_hit hN12 rfl) h9) ?_
    refine st_g_false (j := 4) (dj := 33) (b := false) rfl rfl rfl (ev_hit hN12 rfl) rfl rfl ?_
    refine st_g_false (j := 4) (dj := 33) (b := false) rfl rfl rfl (ev_hit hN12 rfl) rfl rfl ?_
    refine st_g_false (j := 4) (dj := 33) (b := false) rfl rfl rfl (ev_hit hN12 rfl) rfl rfl ?_
    refine st_g_false (j := 4) (dj := 33) (b := false) rfl rfl rfl (ev_hit hN12 rfl) rfl rfl ?_
    refine st_g_false (j := 4) (dj := 33) (b := false) rfl rfl rfl (ev_hit hN12 rfl) rfl rfl ?_
    refine st_g_false (j := 4) (dj := 33) (b := false) rfl rfl rfl (ev_hit hN12 rfl) rfl rfl ?_
    refine st_g_false (j := 4) (dj := 33) (b := false) rfl rfl rfl (ev_hit hN12 rfl) rfl rfl ?_
    refine st_g_false (j := 4) (dj := 33) (b := false) rfl rfl rfl (ev_hit hN12 rfl) rfl rfl ?_
    refine st_g_false (j := 4) (dj := 33) (b := false) rfl rfl rfl (ev_hit hN12 rfl) rfl rfl ?_
    refine st_step rfl (fun _ h9 => op_pick_t (ev_hit hN12 rfl) rfl h9) ?_
    refine st_nil ?_
    refine hK106 _ _ ?_
    refine wp_cond_true (ev_hit hN12 rfl) ?_
    have hO6_s := hO6
    refine reg_split (hd := [_, _, _, _, _, _, _, _, _, _, _, _, _, _]) (tl := _) 14 mixed (by kernel_rfl) rfl rfl ?_
    refine any_chain (Φ := phiC [chP 0, (fun _ _ uz _ => uz = r), (fun _ _ uz _ => uz = (Value.int .i64 ((jj : Nat) : Int))), (fun _ vz uz w' => ∃ (v113 : Value), uz = v113 ∧ RdC w' w.heap.size w108.heap.size 1 v113 jj ((((nrm (l.take i)).take jj)).map u16v) ∧ (w108.heap.size ≤ w'.heap.size ∧ ∀ k, vz.ownBlock = some k → w108.heap.size ≤ k)), chP 1, (fun _ _ uz _ => uz = v), (fun _ _ uz _ => uz = (Value.int .i64 ((i : Nat) : Int))), (fun _ vz uz w' => ∃ (b122 : (Nat)) (o123 : (Nat)), uz = (ptr b122 o123) ∧ PtC w' 0 w.heap.size b122 o123 [(Value.int .u16 ((l.getD i 0).toNat : Int))] ∧ (w.heap.size ≤ w'.heap.size ∧ ∀ k, vz.ownBlock = some k → w.heap.size ≤ k)), (fun _ _ uz _ => uz = (Value.int .u16 ((l.getD i 0).toNat : Int))), (fun _ vz uz w' => ∃ (b127 : Nat), uz = (Value.slice (some ⟨b127, 0, none⟩) 1 1) ∧ w108.heap.size ≤ b127 ∧ Bx w' b127 46 [(Value.int .u16 ((l.getD i 0).toNat : Int))] ∧ vz.ownBlock ≠ some b127), chP 2, (fun _ _ uz _ => uz = r), (fun _ _ uz _ => uz = (Value.int .i64 ((jj : Nat) : Int))), (fun _ vz uz w' => ∃ (v137 : Value), uz = v137 ∧ RdC w' w.heap.size w108.heap.size 1 v137 ((nrm (l.take i)).length - jj) ((((nrm (l.take i)).drop jj)).map u16v) ∧ (w108.heap.size ≤ w'.heap.size ∧ ∀ k, vz.ownBlock = some k → w108.heap.size ≤ k))]) (C := CL [(fun vz w' => Own w' w.heap.size 46 1 vz 0 ([])), (fun vz w' => Own w' w.heap.size 46 1 vz 0 ([])), (fun vz w' => Own w' w.heap.size 46 1 vz (0 + jj) ((((nrm (l.take i)).take jj)).map u16v)), (fun vz w' => Own w' w.heap.size 46 1 vz ((0 + jj) + 1) (((((nrm (l.take i)).take jj) ++ [(l.getD i 0)])).map u16v))]) ⟨[0, 4, 10], fun c => [60, 44, 48, 54].getD c 60⟩ (Value.slice none 0 0) (by kernel_rfl) (by kernel_rfl) (by kernel_rfl) (by kernel_rfl) hN12 (StK.get0 (n := 3) (StK.ch (StK.eq (StK.eq (StK.cons (fun c v u w1 w2 E h => by obtain ⟨x0, hv, f0, q0⟩ := h; exact ⟨x0, hv, f0.keep0 E, ⟨Nat.le_trans q0.1 E.size, q0.2⟩⟩) (fun c v v' u w1 w2 _ E h => by obtain ⟨x0, hv, f0, q0⟩ := h; exact ⟨x0, hv, f0.keep E.1 (fun k hk => .inr (q0.2 k hk)), ⟨Nat.le_trans q0.1 E.1.size, ge_step E q0.1 q0.2⟩⟩) (StK.ch (StK.eq (StK.eq (StK.cons (fun c v u w1 w2 E h => by obtain ⟨x0, x1, hv, f0, q0⟩ := h; exact ⟨x0, x1, hv, f0.keep0 E, ⟨Nat.le_trans q0.1 E.size, q0.2⟩⟩) (fun c v v' u w1 w2 _ E h => by obtain ⟨x0, x1, hv, f0, q0⟩ := h; exact ⟨x0, x1, hv, f0.keep E.1 (fun k hk => .inr (q0.2 k hk)), ⟨Nat.le_trans q0.1 E.1.size, ge_step E q0.1 q0.2⟩⟩) (StK.eq (StK.cons (fun c v u w1 w2 E h => by obtain ⟨x0, hv, l0, f0, q0⟩ := h; exact ⟨x0, hv, l0, f0.keep0 E, q0⟩) (fun c v v' u w1 w2 _ E h => by obtain ⟨x0, hv, l0, f0, q0⟩ := h; exact ⟨x0, hv, l0, f0.keep E.1 (fun hh => q0 hh.symm), ne_step E f0.lt q0⟩) (StK.ch (StK.eq (StK.eq (StK.cons (fun c v u w1 w2 E h => by obtain ⟨x0, hv, f0, q0⟩ := h; exact ⟨x0, hv, f0.keep0 E, ⟨Nat.le_trans q0.1 E.size, q0.2⟩⟩) (fun c v v' u w1 w2 _ E h => by obtain ⟨x0, hv, f0, q0⟩ := h; exact ⟨x0, hv, f0.keep E.1 (fun k hk => .inr (q0.2 k hk)), ⟨Nat.le_trans q0.1 E.1.size, ge_step E q0.1 q0.2⟩⟩) (StK.nil)))))))))))))))) (StK.get1 (n := 3) (StK.ch (StK.eq (StK.eq (StK.cons (fun c v u w1 w2 E h => by obtain ⟨x0, hv, f0, q0⟩ := h; exact ⟨x0, hv, f0.keep0 E, ⟨Nat.le_trans q0.1 E.size, q0.2⟩⟩) (fun c v v' u w1 w2 _ E h => by obtain ⟨x0, hv, f0, q0⟩ := h; exact ⟨x0, hv, f0.keep E.1 (fun k hk => .inr (q0.2 k hk)), ⟨Nat.le_trans q0.1 E.1.size, ge_step E q0.1 q0.2⟩⟩) (StK.ch (StK.eq (StK.eq (StK.cons (fun c v u w1 w2 E h => by obtain ⟨x0, x1, hv, f0, q0⟩ := h; exact ⟨x0, x1, hv, f0.keep0 E, ⟨Nat.le_trans q0.1 E.size, q0.2⟩⟩) (fun c v v' u w1 w2 _ E h => by obtain ⟨x0, x1, hv, f0, q0⟩ := h; exact ⟨x0, x1, hv, f0.keep E.1 (fun k hk => .inr (q0.2 k hk)), ⟨Nat.le_trans q0.1 E.1.size, ge_step E q0.1 q0.2⟩⟩) (StK.eq (StK.cons (fun c v u w1 w2 E h => by obtain ⟨x0, hv, l0, f0, q0⟩ := h; exact ⟨x0, hv, l0, f0.keep0 E, q0⟩) (fun c v v' u w1 w2 _ E h => by obtain ⟨x0, hv, l0, f0, q0⟩ := h; exact ⟨x0, hv, l0, f0.keep E.1 (fun hh => q0 hh.symm), ne_step E f0.lt q0⟩) (StK.ch (StK.eq (StK.eq (StK.cons (fun c v u w1 w2 E h => by obtain ⟨x0, hv, f0, q0⟩ := h; exact ⟨x0, hv, f0.keep0 E, ⟨Nat.le_trans q0.1 E.size, q0.2⟩⟩) (fun c v v' u w1 w2 _ E h => by obtain ⟨x0, hv, f0, q0⟩ := h; exact ⟨x0, hv, f0.keep E.1 (fun k hk => .inr (q0.2 k hk)), ⟨Nat.le_trans q0.1 E.1.size, ge_step E q0.1 q0.2⟩⟩) (StK.nil)))))))))))))))) (StL2.get0 (StL2.own (StL2.own (StL2.own (StL2.own (StL2.nil)))))) (StL2.get1 (StL2.own (StL2.own (StL2.own (StL2.own (StL2.nil)))))) (Own.nil w108 w.heap.size 46 1) (ObLn.get (ObLn.pass rfl (ObLn.cons ?_ (ObLn.cons ?_ (ObLn.cons ?_ (ObLn.pass rfl (ObLn.cons ?_ (ObLn.cons ?_ (ObLn.cons ?_ (ObLn.cons ?_ (ObLn.cons ?_ (ObLn.pass rfl (ObLn.cons ?_ (ObLn.cons ?_ (ObLn.cons ?_ (ObLn.nil)))))))))))))))) (ObLc.get (ObLc.cons ?_ (ObLc.cons ?_ (ObLc.cons ?_ (ObLc.nil))))) ?_
    ·
     intro aA wA ccA cvA hNA hclA hRA hltA hvoA hbsA hdpA
     have qA_3 := (hbsA 3 rfl).trans (sl_base hN12 rfl s12_3)
     refine op_move (ev_base hNA rfl qA_3) ?_
     exact obNc_end rfl rfl (grown_refl _ _)
    ·
     intro aA wA ccA cvA hNA hclA hRA hltA hvoA hbsA hdpA
     have qA_5 := (hbsA 5 rfl).trans (sl_base hN12 rfl s12_5)
     refine op_move (ev_base hNA rfl qA_5) ?_
     exact obNc_end rfl rfl (grown_refl _ _)
    ·
     intro aA wA ccA cvA hNA hclA hRA hltA hvoA hbsA hdpA
     have hRA : w108.grownBy wA (Value.slice none 0 0).ownBlock := hRA
     have hnil_o := (Own.nil w108 w.heap.size 46 1)
     have z_wA := hRA.size
     have hb := below_stepO hb (Own.nil w108 w.heap.size 46 1) hRA hb.size (by omega)
     have hl := hl.keep0 hRA
     have hO6 := hO6.keep0 hRA
     have qA_45 : Sl aA 45 r := hdpA 1 _ 45 (by kernel_rfl) rfl rfl
     have qA_46 : Sl aA 46 (Value.int .i64 ((jj : Nat) : Int)) := hdpA 2 _ 46 (by kernel_rfl) rfl rfl
     clear hbsA hdpA
     refine op_slice_rd (lo := 0) (hi := jj) slt54 (ev_base hNA rfl qA_45) (Own.rdB hO6 hO6_s) (.inl ⟨rfl, rfl⟩) (.inr ⟨_, _, rfl, (ev_base hNA rfl qA_46)⟩) (by omega) (by omega) ?_
     intro v109 hR110
     have hR110 : RdC wA w.heap.size w108.heap.size 1 v109 jj ((((nrm (l.take i)).take jj)).map u16v) := by simpa [List.map_drop, List.map_take] using hR110
     exact obNc_end rfl ⟨v109, rfl, hR110, ⟨by omega, ge_of hvoA (fun k hk => by simp [Value.ownBlock] at hk) (by omega)⟩⟩ (grown_refl _ _)
    ·
     intro aA wA ccA cvA hNA hclA hRA hltA hvoA hbsA hdpA
     have qA_0 := (hbsA 0 rfl).trans (sl_base hN12 rfl s12_0)
     refine op_move (ev_base hNA rfl qA_0) ?_
     exact obNc_end rfl rfl (grown_refl _ _)
    ·
     intro aA wA ccA cvA hNA hclA hRA hltA hvoA hbsA hdpA
     have qA_4 := (hbsA 4 rfl).trans (sl_base hN12 rfl s12_4)
     refine op_move (ev_base hNA rfl qA_4) ?_
     exact obNc_end rfl rfl (grown_refl _ _)
    ·
     intro aA wA ccA cvA hNA hclA hRA hltA hvoA hbsA hdpA
     have hRA : w108.grownBy wA (Value.slice none 0 0).ownBlock := hRA
     have hnil_o := (Own.nil w108 w.heap.size 46 1)
     have z_wA := hRA.size
     have hb := below_stepO hb (Own.nil w108 w.heap.size 46 1) hRA hb.size (by omega)
     have hl := hl.keep0 hRA
     have hO6 := hO6.keep0 hRA
     have qA_49 : Sl aA 49 v := hdpA 5 _ 49 (by kernel_rfl) rfl rfl
     have qA_50 : Sl aA 50 (Value.int .i64 ((i : Nat) : Int)) := hdpA 6 _ 50 (by kernel_rfl) rfl rfl
     clear hbsA hdpA
     refine op_index_rd slt45 (ev_base hNA rfl qA_49) hl (ev_base hNA rfl qA_50) (by omega) (by omega) ?_
     intro b111 o112 h0b111 h1b111 hc113
     have hp114 : PtC wA 0 w.heap.size b111 o112 [(Value.int .u16 ((l.getD i 0).toNat : Int))] := ⟨by omega, by omega, fun j u hu => hc113 j u (by have := (List.getElem?_eq_some_iff.1 hu).1; simpa using this) ((fun j u hu => one_at (el_u16 (i := i) (by omega) (by omega)) hu) j u hu)⟩
     exact obNc_end rfl ⟨b111, o112, rfl, hp114, ⟨by omega, ge_of hvoA (fun k hk => by simp [Value.ownBlock] at hk) (by omega)⟩⟩ (grown_refl _ _)
    ·
     intro aA wA ccA cvA hNA hclA hRA hltA hvoA hbsA hdpA
     have hRA : w108.grownBy wA (Value.slice none 0 0).ownBlock := hRA
     have hnil_o := (Own.nil w108 w.heap.size 46 1)
     have z_wA := hRA.size
     have hb := below_stepO hb (Own.nil w108 w.heap.size 46 1) hRA hb.size (by omega)
     have hl := hl.keep0 hRA
     have hO6 := hO6.keep0 hRA
     obtain ⟨b122, o123, qA_51, hp125, xqA_51_0⟩ := hdpA 7 _ 51 (by kernel_rfl) rfl rfl
     have hp125 : PtC wA 0 w.heap.size b122 o123 [(Value.int .u16 ((l.getD i 0).toNat : Int))] := hp125
     clear hbsA hdpA
     refine op_load1 (v := (Value.int .u16 ((l.getD i 0).toNat : Int))) one46 (ev_base hNA rfl qA_51) (hp125.2.2 0 _ rfl) ?_
     exact obNc_end rfl rfl (grown_refl _ _)
    ·
     intro aA wA ccA cvA hNA hclA hRA hltA hvoA hbsA hdpA
     have hRA : w108.grownBy wA (Value.slice none 0 0).ownBlock := hRA
     have hnil_o := (Own.nil w108 w.heap.size 46 1)
     have z_wA := hRA.size
     have hb := below_stepO hb (Own.nil w108 w.heap.size 46 1) hRA hb.size (by omega)
     have hl := hl.keep0 hRA
     have hO6 := hO6.keep0 hRA
     have qA_52 : Sl aA 52 (Value.int .u16 ((l.getD i 0).toNat : Int)) := hdpA 8 _ 52 (by kernel_rfl) rfl rfl
     clear hbsA hdpA
     refine op_bslice (e := 46) (pv := [(0, (Value.int .u16 ((l.getD i 0).toNat : Int)))]) (cs := [(Value.int .u16 ((l.getD i 0).toNat : Int))]) ⟨rfl, (ev_base hNA rfl qA_52), trivial⟩ (by kernel_rfl) ?_
     intro w115 b116 lo_b116 hi_b116 hB118 E117
     have ne_b116_r : r.ownBlock ≠ some b116 := fun hh => by have := (hO6.lt _ hh).2; omega
     have z_w115 := E117.size
     have hl := hl.keep0 E117
     have hO6 := hO6.keep0 E117
     have hb := below_step0 hb E117 hb.size
     exact obNc_end rfl ⟨b116, rfl, (by omega), hB118, (fun hh => by have := hltA _ hh; omega)⟩ (E117)
    ·
     intro aA wA ccA cvA hNA hclA hRA hltA hvoA hbsA hdpA
     have qA_3 := (hbsA 3 rfl).trans (sl_base hN12 rfl s12_3)
     refine op_move (ev_base hNA rfl qA_3) ?_
     exact obNc_end rfl rfl (grown_refl _ _)
    ·
     intro aA wA ccA cvA hNA hclA hRA hltA hvoA hbsA hdpA
     have qA_5 := (hbsA 5 rfl).trans (sl_base hN12 rfl s12_5)
     refine op_move (ev_base hNA rfl qA_5) ?_
     exact obNc_end rfl rfl (grown_refl _ _)
    ·
     intro aA wA ccA cvA hNA hclA hRA hltA hvoA hbsA hdpA
     have hRA : w108.grownBy wA (Value.slice none 0 0).ownBlock := hRA
     have hnil_o := (Own.nil w108 w.heap.size 46 1)
     have z_wA := hRA.size
     have hb := below_stepO hb (Own.nil w108 w.heap.size 46 1) hRA hb.size (by omega)
     have hl := hl.keep0 hRA
     have hO6 := hO6.keep0 hRA
     have qA_55 : Sl aA 55 r := hdpA 11 _ 55 (by kernel_rfl) rfl rfl
     have qA_56 : Sl aA 56 (Value.int .i64 ((jj : Nat) : Int)) := hdpA 12 _ 56 (by kernel_rfl) rfl rfl
     clear hbsA hdpA
     refine op_slice_rd (lo := jj) (hi := (nrm (l.take i)).length) slt54 (ev_base hNA rfl qA_55) (Own.rdB hO6 hO6_s) (.inr ⟨_, _, rfl, (ev_base hNA rfl qA_56)⟩) (.inl ⟨rfl, rfl⟩) (by omega) (by omega) ?_
     intro v119 hR120
     have hR120 : RdC wA w.heap.size w108.heap.size 1 v119 ((nrm (l.take i)).length - jj) ((((nrm (l.take i)).drop jj)).map u16v) := by simpa [List.map_drop, List.map_take, List.take_of_length_le] using hR120
     exact obNc_end rfl ⟨v119, rfl, hR120, ⟨by omega, ge_of hvoA (fun k hk => by simp [Value.ownBlock] at hk) (by omega)⟩⟩ (grown_refl _ _)
    ·
     intro o_ ho_; obtain rfl := Option.some.inj ho_; intro aA wA cvA hNA hRA hcv0A hbsA hdpA hCA
     have hRA : w108.grownBy wA (Value.slice none 0 0).ownBlock := hRA
     have hnil_o := (Own.nil w108 w.heap.size 46 1)
     have z_wA := hRA.size
     have hb := below_stepO hb (Own.nil w108 w.heap.size 46 1) hRA hb.size (by omega)
     have hl := hl.keep0 hRA
     have hO6 := hO6.keep0 hRA
     have hcvA : (Value.slice none 0 0) = cvA := (hcv0A rfl).symm
     subst hcvA
     have hCA : Own wA w.heap.size 46 1 (Value.slice none 0 0) 0 ([]) := hCA
     clear hbsA hdpA
     refine op_bslice (e := 46) (pv := []) (cs := []) trivial (by kernel_rfl) ?_
     intro w121 b122 lo_b122 hi_b122 hB124 E123
     have ne_b122_r : r.ownBlock ≠ some b122 := fun hh => by have := (hO6.lt _ hh).2; omega
     have z_w121 := E123.size
     have hl := hl.keep0 E123
     have hO6 := hO6.keep0 E123
     have hCA := hCA.keep0 E123
     have hb := below_step0 hb E123 hb.size
     exact obCc_end rfl rfl (chP_now (w := w121)) (Own.ofBx (base := w.heap.size) (sz := 1) (n := 0) hB124 rfl (by decide) (by omega)) ⟨E123, .inr (fun k hk => by simp [Value.ownBlock] at hk; omega)⟩
    ·
     intro o_ ho_; obtain rfl := Option.some.inj ho_; intro aA wA cvA hNA hRA hcv0A hbsA hdpA hCA
     have hRA : w108.grownBy wA (Value.slice none 0 0).ownBlock := hRA
     have hnil_o := (Own.nil w108 w.heap.size 46 1)
     have z_wA := hRA.size
     have hb := below_stepO hb (Own.nil w108 w.heap.size 46 1) hRA hb.size (by omega)
     have hl := hl.keep0 hRA
     have hO6 := hO6.keep0 hRA
     have hCA : Own wA w.heap.size 46 1 cvA 0 ([]) := hCA
     have qA_44 : aA.tmps.getD 44 undef = cvA := (show chP 0 1 cvA (aA.tmps.getD 44 undef) wA from hdpA 0 _ 44 (by kernel_rfl) rfl rfl).2 rfl
     obtain ⟨v113, qA_47, hR114, xqA_47_0⟩ := hdpA 3 _ 47 (by kernel_rfl) rfl rfl
     have hR114 : RdC wA w.heap.size w108.heap.size 1 v113 jj ((((nrm (l.take i)).take jj)).map u16v) := hR114
     clear hbsA hdpA
     have hP130 := hCA
     refine op_append slt54 (ev_base hNA rfl qA_44) hP130 (ev_base hNA rfl qA_47) (Src.ofRd Try.underlying54 (by decide) hR114 (one_u16 _)) (by unfold maxLen; omega) (by omega) hb.size ?_
     intro v125 w126 hO128 E127 hm129
     have z_w126 := E127.size
     have hl := hl.keepO hP130 E127 (by omega)
     have hR114 := hR114.keep E127 (fun k hk => .inr (xqA_47_0.2 k hk))
     have hb := below_stepO hb hP130 E127 hb.size (by omega)
     have hO128 : Own w126 w.heap.size 46 1 v125 (0 + jj) ((((nrm (l.take i)).take jj)).map u16v) := by simpa [u8v, u16v, cellsV] using hO128
     exact obCc_end rfl rfl (chP_now (w := w126)) hO128 ⟨E127, hm129⟩
    ·
     intro o_ ho_; obtain rfl := Option.some.inj ho_; intro aA wA cvA hNA hRA hcv0A hbsA hdpA hCA
     have hRA : w108.grownBy wA (Value.slice none 0 0).ownBlock := hRA
     have hnil_o := (Own.nil w108 w.heap.size 46 1)
     have z_wA := hRA.size
     have hb := below_stepO hb (Own.nil w108 w.heap.size 46 1) hRA hb.size (by omega)
     have hl := hl.keep0 hRA
     have hO6 := hO6.keep0 hRA
     have hCA : Own wA w.heap.size 46 1 cvA (0 + jj) ((((nrm (l.take i)).take jj)).map u16v) := hCA
     have qA_48 : aA.tmps.getD 48 undef = cvA := (show chP 1 2 cvA (aA.tmps.getD 48 undef) wA from hdpA 4 _ 48 (by kernel_rfl) rfl rfl).2 rfl
     obtain ⟨b127, qA_53, loA_0, hB129, xqA_53_0⟩ := hdpA 9 _ 53 (by kernel_rfl) rfl rfl
     have hB129 : Bx wA b127 46 [(Value.int .u16 ((l.getD i 0).toNat : Int))] := hB129
     clear hbsA hdpA
     have hP136 := hCA
     refine op_append slt54 (ev_base hNA rfl qA_48) hP136 (ev_base hNA rfl qA_53) (Src.ofRd Try.underlying54 (by decide) (RdC.ofBx (sz := 1) (n := 1) hB129 rfl (by decide)) (by simp [Value.oneCell', u8v])) (by unfold maxLen; omega) (by omega) hb.size ?_
     intro v131 w132 hO134 E133 hm135
     have z_w132 := E133.size
     have hl := hl.keepO hP136 E133 (by omega)
     have hB129 := hB129.keep E133 (fun hh => xqA_53_0 hh.symm)
     have hb := below_stepO hb hP136 E133 hb.size (by omega)
     have hO134 : Own w132 w.heap.size 46 1 v131 ((0 + jj) + 1) (((((nrm (l.take i)).take jj) ++ [(l.getD i 0)])).map u16v) := by simpa [u8v, u16v, cellsV] using hO134
     exact obCc_end rfl rfl (chP_now (w := w132)) hO134 ⟨E133, hm135⟩
    ·
     intro a137 w137 v130 hN137 hd137 hbs137 hph137 hC137 E137 hm137
     have hd137 := hd137.trans hd12
     have s137_0 := (hbs137 0 rfl).trans (sl_base hN12 rfl s12_0)
     have s137_2 := (hbs137 2 rfl).trans (sl_base hN12 rfl s12_2)
     have s137_3 := (hbs137 3 rfl).trans (sl_base hN12 rfl s12_3)
     have s137_4 := (hbs137 4 rfl).trans (sl_base hN12 rfl s12_4)
     have s137_54 : a137.tmps.getD 54 undef = v130 := (show chP 2 3 v130 (a137.tmps.getD 54 undef) w137 from hph137 10 _ 54 rfl rfl).2 rfl
     obtain ⟨v137, s137_57, hR138, xq137_57_0⟩ := hph137 13 _ 57 rfl rfl
     have hR138 : RdC w137 w.heap.size w108.heap.size 1 v137 ((nrm (l.take i)).length - jj) ((((nrm (l.take i)).drop jj)).map u16v) := hR138
     clear hbs137 hph137
     have E137 : w108.grownBy w137 (Value.slice none 0 0).ownBlock := E137
     have hC137 : Own w137 w.heap.size 46 1 v130 ((0 + jj) + 1) (((((nrm (l.take i)).take jj) ++ [(l.getD i 0)])).map u16v) := hC137
     have dj138 : DJ r v130 := fun k hk hg => by have q1 := (hO6.lt k hk).2; rcases hm137 with h7 | h7; (rw [h7] at hg; simp [Value.ownBlock] at hg); (have := h7 k hg; omega)
     have E137 : w108.grownBy w137 none := E137
     have z_w137 := E137.size
     have hl := hl.keep0 E137
     have hO6 := hO6.keep0 E137
     have hb := below_step0 hb E137 hb.size
     refine split_end ?_
     refine from_seq (tl := [_, _]) (by decide) (by kernel_rfl) rfl ?_
     have hP144 := hC137
     refine op_append slt54 (ev_base hN137 rfl s137_54) hP144 (ev_base hN137 rfl s137_57) (Src.ofRd Try.underlying54 (by decide) hR138 (one_u16 _)) (by unfold maxLen; omega) (by omega) hb.size ?_
     intro v139 w140 hO142 E141 hm143
     have dj145 : DJ r v139 := DJ.step hm143 (fun k hk => (hO6.lt k hk).2) dj138
     have z_w140 := E141.size
     have hl := hl.keepO hP144 E141 (by omega)
     have hO6 := hO6.keepD E141 dj138
     have hR138 := hR138.keep E141 (fun k hk => .inr (xq137_57_0.2 k hk))
     have hb := below_stepO hb hP144 E141 hb.size (by omega)
     have hO142 : Own w140 w.heap.size 46 1 v139 (((0 + jj) + 1) + ((nrm (l.take i)).length - jj)) ((((((nrm (l.take i)).take jj) ++ [(l.getD i 0)]) ++ ((nrm (l.take i)).drop jj))).map u16v) := by simpa [u8v, u16v, cellsV] using hO142
     refine op_assign (ev_hit hN137 rfl) ?_
     refine reg_nil ?_
     refine hK9 _ _ ?_
     refine one_reg ?_
     refine op_move (ev_base hN137 rfl s137_4) ?_
     refine op_add (ev_hit hN137 rfl) rfl (add64 (by omega)) ?_
     refine op_assign (ev_hit hN137 rfl) ?_
     refine reg_nil ?_
     -- round 9T 15F 32T
     have hins := insT_at (x := l.getD i 0) (acc := (nrm (l.take i))) (j := jj) hlt (by omega) (by omega)
     exact loop_next _ hN137 hd137 ⟨i + 1, _, rfl, (sl_base hN137 rfl s137_0), (sl_base hN137 rfl s137_2), (sl_hit hN137 rfl).trans (congrArg (Value.int .i64) (by omega)), (sl_hit hN137 rfl), (by omega), (nrm_len (by omega)), hb, (by omega), hl, (hO142.cast (by rw [take_nrm (by omega), hins.2 (.inl (by omega))]; simp; omega) (by rw [take_nrm (by omega), hins.2 (.inl (by omega))]; try simp [u16v]))⟩ (by omega)
   · -- 32F
    refine st_step rfl (fun _ h9 => op_cmp (b := false) (ev_hit hN12 rfl) (ev_hit hN12 rfl) (b_eql (decide_eq_false g32)) h9) ?_
    refine st_step rfl (fun _ h9 => op_move (ev_hit hN12 rfl) h9) ?_
    refine st_g_true (j := 4) (dj := 33) (b := false) rfl rfl rfl (ev_hit hN12 rfl) ?_
    refine st_step rfl (fun _ h9 => op_move (ev_base hN12 rfl s12_3) h9) ?_
    refine st_g_true (j := 4) (dj := 33) (b := false) rfl rfl rfl (ev_hit hN12 rfl) ?_
    refine st_step rfl (fun _ h9 => op_move (ev_base hN12 rfl s12_5) h9) ?_
    refine st_g_true (j := 4) (dj := 33) (b := false) rfl rfl rfl (ev_hit hN12 rfl) ?_
    refine st_index_rd slt54 (ev_hit hN12 rfl) hO6.rdw (ev_hit hN12 rfl) (by omega) (by omega) ?_
    intro b146 o147 h0b146 h1b146 hc148
    refine st_g_true (j := 4) (dj := 33) (b := false) rfl rfl rfl (ev_hit hN12 rfl) ?_
    refine st_step rfl (fun _ h9 => op_load1 (v := (Value.int .u16 (((nrm (l.take i)).getD jj 0).toNat : Int))) one46 (ev_hit hN12 rfl) (by have := hc148 0 (Value.int .u16 (((nrm (l.take i)).getD jj 0).toNat : Int)) (by decide) (el_u16 (i := jj) (by omega) (by omega)); simpa using this) h9) ?_
    refine st_g_true (j := 4) (dj := 33) (b := false) rfl rfl rfl (ev_hit hN12 rfl) ?_
    refine st_step rfl (fun _ h9 => op_move (ev_base hN12 rfl s12_0) h9) ?_
    refine st_g_true (j := 4) (dj := 33) (b := false) rfl rfl rfl (ev_hit hN12 rfl) ?_
    refine st_step rfl (fun _ h9 => op_move (ev_base hN12 rfl s12_4) h9) ?_
    refine st_g_true (j := 4) (dj := 33) (b := false) rfl rfl rfl (ev_hit hN12 rfl) ?_
    refine st_index_rd slt45 (ev_hit hN12 rfl) hl (ev_hit hN12 rfl) (by omega) (by omega) ?_
    intro b149 o150 h0b149 h1b149 hc151
    refine st_g_true (j := 4) (dj := 33) (b := false) rfl rfl rfl (ev_hit hN12 rfl) ?_
    refine st_step rfl (fun _ h9 => op_load1 (v := (Value.int .u16 ((l.getD i 0).toNat : Int))) one46 (ev_hit hN12 rfl) (by have := hc151 0 (Value.int .u16 ((l.getD i 0).toNat : Int)) (by decide) (el_u16 (i := i) (by omega) (by omega)); simpa using this) h9) ?_
    refine st_g_true (j := 4) (dj := 33) (b := false) rfl rfl rfl (ev_hit hN12 rfl) ?_
    refine st_step rfl (fun _ h9 => op_cmp (b := (decide ((((nrm (l.take i)).getD jj 0).toNat : Int) ≠ ((l.getD i 0).toNat : Int)))) (ev_hit hN12 rfl) (ev_hit hN12 rfl) (b_neq rfl) h9) ?_
    refine st_step rfl (fun _ h9 => op_pick_f (ev_hit hN12 rfl) (ev_hit hN12 rfl) h9) ?_
    refine st_nil ?_
    refine hK106 _ _ ?_
    refine wp_cond_split (ev_hit hN12 rfl) (fun c43 => ?_) (fun c43 => ?_)
    · -- 43T
     have c43 := of_decide_eq_true c43
     have hO6_s := hO6
     refine reg_split (hd := [_, _, _, _, _, _, _, _, _, _, _, _, _, _]) (tl := _) 14 mixed (by kernel_rfl) rfl rfl ?_
     refine any_chain (Φ := phiC [chP 0, (fun _ _ uz _ => uz = r), (fun _ _ uz _ => uz = (Value.int .i64 ((jj : Nat) : Int))), (fun _ vz uz w' => ∃ (v156 : Value), uz = v156 ∧ RdC w' w.heap.size w108.heap.size 1 v156 jj ((((nrm (l.take i)).take jj)).map u16v) ∧ (w108.heap.size ≤ w'.heap.size ∧ ∀ k, vz.ownBlock = some k → w108.heap.size ≤ k)), chP 1, (fun _ _ uz _ => uz = v), (fun _ _ uz _ => uz = (Value.int .i64 ((i : Nat) : Int))), (fun _ vz uz w' => ∃ (b165 : (Nat)) (o166 : (Nat)), uz = (ptr b165 o166) ∧ PtC w' 0 w.heap.size b165 o166 [(Value.int .u16 ((l.getD i 0).toNat : Int))] ∧ (w.heap.size ≤ w'.heap.size ∧ ∀ k, vz.ownBlock = some k → w.heap.size ≤ k)), (fun _ _ uz _ => uz = (Value.int .u16 ((l.getD i 0).toNat : Int))), (fun _ vz uz w' => ∃ (b170 : Nat), uz = (Value.slice (some ⟨b170, 0, none⟩) 1 1) ∧ w108.heap.size ≤ b170 ∧ Bx w' b170 46 [(Value.int .u16 ((l.getD i 0).toNat : Int))] ∧ vz.ownBlock ≠ some b170), chP 2, (fun _ _ uz _ => uz = r), (fun _ _ uz _ => uz = (Value.int .i64 ((jj : Nat) : Int))), (fun _ vz uz w' => ∃ (v180 : Value), uz = v180 ∧ RdC w' w.heap.size w108.heap.size 1 v180 ((nrm (l.take i)).length - jj) ((((nrm (l.take i)).drop jj)).map u16v) ∧ (w108.heap.size ≤ w'.heap.size ∧ ∀ k, vz.ownBlock = some k → w108.heap.size ≤ k))]) (C := CL [(fun vz w' => Own w' w.heap.size 46 1 vz 0 ([])), (fun vz w' => Own w' w.heap.size 46 1 vz 0 ([])), (fun vz w' => Own w' w.heap.size 46 1 vz (0 + jj) ((((nrm (l.take i)).take jj)).map u16v)), (fun vz w' => Own w' w.heap.size 46 1 vz ((0 + jj) + 1) (((((nrm (l.take i)).take jj) ++ [(l.getD i 0)])).map u16v))]) ⟨[0, 4, 10], fun c => [60, 44, 48, 54].getD c 60⟩ (Value.slice none 0 0) (by kernel_rfl) (by kernel_rfl) (by kernel_rfl) (by kernel_rfl) hN12 (StK.get0 (n := 3) (StK.ch (StK.eq (StK.eq (StK.cons (fun c v u w1 w2 E h => by obtain ⟨x0, hv, f0, q0⟩ := h; exact ⟨x0, hv, f0.keep0 E, ⟨Nat.le_trans q0.1 E.size, q0.2⟩⟩) (fun c v v' u w1 w2 _ E h => by obtain ⟨x0, hv, f0, q0⟩ := h; exact ⟨x0, hv, f0.keep E.1 (fun k hk => .inr (q0.2 k hk)), ⟨Nat.le_trans q0.1 E.1.size, ge_step E q0.1 q0.2⟩⟩) (StK.ch (StK.eq (StK.eq (StK.cons (fun c v u w1 w2 E h => by obtain ⟨x0, x1, hv, f0, q0⟩ := h; exact ⟨x0, x1, hv, f0.keep0 E, ⟨Nat.le_trans q0.1 E.size, q0.2⟩⟩) (fun c v v' u w1 w2 _ E h => by obtain ⟨x0, x1, hv, f0, q0⟩ := h; exact ⟨x0, x1, hv, f0.keep E.1 (fun k hk => .inr (q0.2 k hk)), ⟨Nat.le_trans q0.1 E.1.size, ge_step E q0.1 q0.2⟩⟩) (StK.eq (StK.cons (fun c v u w1 w2 E h => by obtain ⟨x0, hv, l0, f0, q0⟩ := h; exact ⟨x0, hv, l0, f0.keep0 E, q0⟩) (fun c v v' u w1 w2 _ E h => by obtain ⟨x0, hv, l0, f0, q0⟩ := h; exact ⟨x0, hv, l0, f0.keep E.1 (fun hh => q0 hh.symm), ne_step E f0.lt q0⟩) (StK.ch (StK.eq (StK.eq (StK.cons (fun c v u w1 w2 E h => by obtain ⟨x0, hv, f0, q0⟩ := h; exact ⟨x0, hv, f0.keep0 E, ⟨Nat.le_trans q0.1 E.size, q0.2⟩⟩) (fun c v v' u w1 w2 _ E h => by obtain ⟨x0, hv, f0, q0⟩ := h; exact ⟨x0, hv, f0.keep E.1 (fun k hk => .inr (q0.2 k hk)), ⟨Nat.le_trans q0.1 E.1.size, ge_step E q0.1 q0.2⟩⟩) (StK.nil)))))))))))))))) (StK.get1 (n := 3) (StK.ch (StK.eq (StK.eq (StK.cons (fun c v u w1 w2 E h => by obtain ⟨x0, hv, f0, q0⟩ := h; exact ⟨x0, hv, f0.keep0 E, ⟨Nat.le_trans q0.1 E.size, q0.2⟩⟩) (fun c v v' u w1 w2 _ E h => by obtain ⟨x0, hv, f0, q0⟩ := h; exact ⟨x0, hv, f0.keep E.1 (fun k hk => .inr (q0.2 k hk)), ⟨Nat.le_trans q0.1 E.1.size, ge_step E q0.1 q0.2⟩⟩) (StK.ch (StK.eq (StK.eq (StK.cons (fun c v u w1 w2 E h => by obtain ⟨x0, x1, hv, f0, q0⟩ := h; exact ⟨x0, x1, hv, f0.keep0 E, ⟨Nat.le_trans q0.1 E.size, q0.2⟩⟩) (fun c v v' u w1 w2 _ E h => by obtain ⟨x0, x1, hv, f0, q0⟩ := h; exact ⟨x0, x1, hv, f0.keep E.1 (fun k hk => .inr (q0.2 k hk)), ⟨Nat.le_trans q0.1 E.1.size, ge_step E q0.1 q0.2⟩⟩) (StK.eq (StK.cons (fun c v u w1 w2 E h => by obtain ⟨x0, hv, l0, f0, q0⟩ := h; exact ⟨x0, hv, l0, f0.keep0 E, q0⟩) (fun c v v' u w1 w2 _ E h => by obtain ⟨x0, hv, l0, f0, q0⟩ := h; exact ⟨x0, hv, l0, f0.keep E.1 (fun hh => q0 hh.symm), ne_step E f0.lt q0⟩) (StK.ch (StK.eq (StK.eq (StK.cons (fun c v u w1 w2 E h => by obtain ⟨x0, hv, f0, q0⟩ := h; exact ⟨x0, hv, f0.keep0 E, ⟨Nat.le_trans q0.1 E.size, q0.2⟩⟩) (fun c v v' u w1 w2 _ E h => by obtain ⟨x0, hv, f0, q0⟩ := h; exact ⟨x0, hv, f0.keep E.1 (fun k hk => .inr (q0.2 k hk)), ⟨Nat.le_trans q0.1 E.1.size, ge_step E q0.1 q0.2⟩⟩) (StK.nil)))))))))))))))) (StL2.get0 (StL2.own (StL2.own (StL2.own (StL2.own (StL2.nil)))))) (StL2.get1 (StL2.own (StL2.own (StL2.own (StL2.own (StL2.nil)))))) (Own.nil w108 w.heap.size 46 1) (ObLn.get (ObLn.pass rfl (ObLn.cons ?_ (ObLn.cons ?_ (ObLn.cons ?_ (ObLn.pass rfl (ObLn.cons ?_ (ObLn.cons ?_ (ObLn.cons ?_ (ObLn.cons ?_ (ObLn.cons ?_ (ObLn.pass rfl (ObLn.cons ?_ (ObLn.cons ?_ (ObLn.cons ?_ (ObLn.nil)))))))))))))))) (ObLc.get (ObLc.cons ?_ (ObLc.cons ?_ (ObLc.cons ?_ (ObLc.nil))))) ?_
     ·
      intro aA wA ccA cvA hNA hclA hRA hltA hvoA hbsA hdpA
      have qA_3 := (hbsA 3 rfl).trans (sl_base hN12 rfl s12_3)
      refine op_move (ev_base hNA rfl qA_3) ?_
      exact obNc_end rfl rfl (grown_refl _ _)
     ·
      intro aA wA ccA cvA hNA hclA hRA hltA hvoA hbsA hdpA
      have qA_5 := (hbsA 5 rfl).trans (sl_base hN12 rfl s12_5)
      refine op_move (ev_base hNA rfl qA_5) ?_
      exact obNc_end rfl rfl (grown_refl _ _)
     ·
      intro aA wA ccA cvA hNA hclA hRA hltA hvoA hbsA hdpA
      have hRA : w108.grownBy wA (Value.slice none 0 0).ownBlock := hRA
      have hnil_o := (Own.nil w108 w.heap.size 46 1)
      have z_wA := hRA.size
      have hb := below_stepO hb (Own.nil w108 w.heap.size 46 1) hRA hb.size (by omega)
      have hl := hl.keep0 hRA
      have hO6 := hO6.keep0 hRA
      have qA_45 : Sl aA 45 r := hdpA 1 _ 45 (by kernel_rfl) rfl rfl
      have qA_46 : Sl aA 46 (Value.int .i64 ((jj : Nat) : Int)) := hdpA 2 _ 46 (by kernel_rfl) rfl rfl
      clear hbsA hdpA
      refine op_slice_rd (lo := 0) (hi := jj) slt54 (ev_base hNA rfl qA_45) (Own.rdB hO6 hO6_s) (.inl ⟨rfl, rfl⟩) (.inr ⟨_, _, rfl, (ev_base hNA rfl qA_46)⟩) (by omega) (by omega) ?_
      intro v152 hR153
      have hR153 : RdC wA w.heap.size w108.heap.size 1 v152 jj ((((nrm (l.take i)).take jj)).map u16v) := by simpa [List.map_drop, List.map_take] using hR153
      exact obNc_end rfl ⟨v152, rfl, hR153, ⟨by omega, ge_of hvoA (fun k hk => by simp [Value.ownBlock] at hk) (by omega)⟩⟩ (grown_refl _ _)
     ·
      intro aA wA ccA cvA hNA hclA hRA hltA hvoA hbsA hdpA
      have qA_0 := (hbsA 0 rfl).trans (sl_base hN12 rfl s12_0)
      refine op_move (ev_base hNA rfl qA_0) ?_
      exact obNc_end rfl rfl (grown_refl _ _)
     ·
      intro aA wA ccA cvA hNA hclA hRA hltA hvoA hbsA hdpA
      have qA_4 := (hbsA 4 rfl).trans (sl_base hN12 rfl s12_4)
      refine op_move (ev_base hNA rfl qA_4) ?_
      exact obNc_end rfl rfl (grown_refl _ _)
     ·
      intro aA wA ccA cvA hNA hclA hRA hltA hvoA hbsA hdpA
      have hRA : w108.grownBy wA (Value.slice none 0 0).ownBlock := hRA
      have hnil_o := (Own.nil w108 w.heap.size 46 1)
      have z_wA := hRA.size
      have hb := below_stepO hb (Own.nil w108 w.heap.size 46 1) hRA hb.size (by omega)
      have hl := hl.keep0 hRA
      have hO6 := hO6.keep0 hRA
      have qA_49 : Sl aA 49 v := hdpA 5 _ 49 (by kernel_rfl) rfl rfl
      have qA_50 : Sl aA 50 (Value.int .i64 ((i : Nat) : Int)) := hdpA 6 _ 50 (by kernel_rfl) rfl rfl
      clear hbsA hdpA
      refine op_index_rd slt45 (ev_base hNA rfl qA_49) hl (ev_base hNA rfl qA_50) (by omega) (by omega) ?_
      intro b154 o155 h0b154 h1b154 hc156
      have hp157 : PtC wA 0 w.heap.size b154 o155 [(Value.int .u16 ((l.getD i 0).toNat : Int))] := ⟨by omega, by omega, fun j u hu => hc156 j u (by have := (List.getElem?_eq_some_iff.1 hu).1; simpa using this) ((fun j u hu => one_at (el_u16 (i := i) (by omega) (by omega)) hu) j u hu)⟩
      exact obNc_end rfl ⟨b154, o155, rfl, hp157, ⟨by omega, ge_of hvoA (fun k hk => by simp [Value.ownBlock] at hk) (by omega)⟩⟩ (grown_refl _ _)
     ·
      intro aA wA ccA cvA hNA hclA hRA hltA hvoA hbsA hdpA
      have hRA : w108.grownBy wA (Value.slice none 0 0).ownBlock := hRA
      have hnil_o := (Own.nil w108 w.heap.size 46 1)
      have z_wA := hRA.size
      have hb := below_stepO hb (Own.nil w108 w.heap.size 46 1) hRA hb.size (by omega)
      have hl := hl.keep0 hRA
      have hO6 := hO6.keep0 hRA
      obtain ⟨b165, o166, qA_51, hp168, xqA_51_0⟩ := hdpA 7 _ 51 (by kernel_rfl) rfl rfl
      have hp168 : PtC wA 0 w.heap.size b165 o166 [(Value.int .u16 ((l.getD i 0).toNat : Int))] := hp168
      clear hbsA hdpA
      refine op_load1 (v := (Value.int .u16 ((l.getD i 0).toNat : Int))) one46 (ev_base hNA rfl qA_51) (hp168.2.2 0 _ rfl) ?_
      exact obNc_end rfl rfl (grown_refl _ _)
     ·
      intro aA wA ccA cvA hNA hclA hRA hltA hvoA hbsA hdpA
      have hRA : w108.grownBy wA (Value.slice none 0 0).ownBlock := hRA
      have hnil_o := (Own.nil w108 w.heap.size 46 1)
      have z_wA := hRA.size
      have hb := below_stepO hb (Own.nil w108 w.heap.size 46 1) hRA hb.size (by omega)
      have hl := hl.keep0 hRA
      have hO6 := hO6.keep0 hRA
      have qA_52 : Sl aA 52 (Value.int .u16 ((l.getD i 0).toNat : Int)) := hdpA 8 _ 52 (by kernel_rfl) rfl rfl
      clear hbsA hdpA
      refine op_bslice (e := 46) (pv := [(0, (Value.int .u16 ((l.getD i 0).toNat : Int)))]) (cs := [(Value.int .u16 ((l.getD i 0).toNat : Int))]) ⟨rfl, (ev_base hNA rfl qA_52), trivial⟩ (by kernel_rfl) ?_
      intro w158 b159 lo_b159 hi_b159 hB161 E160
      have ne_b159_r : r.ownBlock ≠ some b159 := fun hh => by have := (hO6.lt _ hh).2; omega
      have z_w158 := E160.size
      have hl := hl.keep0 E160
      have hO6 := hO6.keep0 E160
      have hb := below_step0 hb E160 hb.size
      exact obNc_end rfl ⟨b159, rfl, (by omega), hB161, (fun hh => by have := hltA _ hh; omega)⟩ (E160)
     ·
      intro aA wA ccA cvA hNA hclA hRA hltA hvoA hbsA hdpA
      have qA_3 := (hbsA 3 rfl).trans (sl_base hN12 rfl s12_3)
      refine op_move (ev_base hNA rfl qA_3) ?_
      exact obNc_end rfl rfl (grown_refl _ _)
     ·
      intro aA wA ccA cvA hNA hclA hRA hltA hvoA hbsA hdpA
      have qA_5 := (hbsA 5 rfl).trans (sl_base hN12 rfl s12_5)
      refine op_move (ev_base hNA rfl qA_5) ?_
      exact obNc_end rfl rfl (grown_refl _ _)
     ·
      intro aA wA ccA cvA hNA hclA hRA hltA hvoA hbsA hdpA
      have hRA : w108.grownBy wA (Value.slice none 0 0).ownBlock := hRA
      have hnil_o := (Own.nil w108 w.heap.size 46 1)
      have z_wA := hRA.size
      have hb := below_stepO hb (Own.nil w108 w.heap.size 46 1) hRA hb.size (by omega)
      have hl := hl.keep0 hRA
      have hO6 := hO6.keep0 hRA
      have qA_55 : Sl aA 55 r := hdpA 11 _ 55 (by kernel_rfl) rfl rfl
      have qA_56 : Sl aA 56 (Value.int .i64 ((jj : Nat) : Int)) := hdpA 12 _ 56 (by kernel_rfl) rfl rfl
      clear hbsA hdpA
      refine op_slice_rd (lo := jj) (hi := (nrm (l.take i)).length) slt54 (ev_base hNA rfl qA_55) (Own.rdB hO6 hO6_s) (.inr ⟨_, _, rfl, (ev_base hNA rfl qA_56)⟩) (.inl ⟨rfl, rfl⟩) (by omega) (by omega) ?_
      intro v162 hR163
      have hR163 : RdC wA w.heap.size w108.heap.size 1 v162 ((nrm (l.take i)).length - jj) ((((nrm (l.take i)).drop jj)).map u16v) := by simpa [List.map_drop, List.map_take, List.take_of_length_le] using hR163
      exact obNc_end rfl ⟨v162, rfl, hR163, ⟨by omega, ge_of hvoA (fun k hk => by simp [Value.ownBlock] at hk) (by omega)⟩⟩ (grown_refl _ _)
     ·
      intro o_ ho_; obtain rfl := Option.some.inj ho_; intro aA wA cvA hNA hRA hcv0A hbsA hdpA hCA
      have hRA : w108.grownBy wA (Value.slice none 0 0).ownBlock := hRA
      have hnil_o := (Own.nil w108 w.heap.size 46 1)
      have z_wA := hRA.size
      have hb := below_stepO hb (Own.nil w108 w.heap.size 46 1) hRA hb.size (by omega)
      have hl := hl.keep0 hRA
      have hO6 := hO6.keep0 hRA
      have hcvA : (Value.slice none 0 0) = cvA := (hcv0A rfl).symm
      subst hcvA
      have hCA : Own wA w.heap.size 46 1 (Value.slice none 0 0) 0 ([]) := hCA
      clear hbsA hdpA
      refine op_bslice (e := 46) (pv := []) (cs := []) trivial (by kernel_rfl) ?_
      intro w164 b165 lo_b165 hi_b165 hB167 E166
      have ne_b165_r : r.ownBlock ≠ some b165 := fun hh => by have := (hO6.lt _ hh).2; omega
      have z_w164 := E166.size
      have hl := hl.keep0 E166
      have hO6 := hO6.keep0 E166
      have hCA := hCA.keep0 E166
      have hb := below_step0 hb E166 hb.size
      exact obCc_end rfl rfl (chP_now (w := w164)) (Own.ofBx (base := w.heap.size) (sz := 1) (n := 0) hB167 rfl (by decide) (by omega)) ⟨E166, .inr (fun k hk => by simp [Value.ownBlock] at hk; omega)⟩
     ·
      intro o_ ho_; obtain rfl := Option.some.inj ho_; intro aA wA cvA hNA hRA hcv0A hbsA hdpA hCA
      have hRA : w108.grownBy wA (Value.slice none 0 0).ownBlock := hRA
      have hnil_o := (Own.nil w108 w.heap.size 46 1)
      have z_wA := hRA.size
      have hb := below_stepO hb (Own.nil w108 w.heap.size 46 1) hRA hb.size (by omega)
      have hl := hl.keep0 hRA
      have hO6 := hO6.keep0 hRA
      have hCA : Own wA w.heap.size 46 1 cvA 0 ([]) := hCA
      have qA_44 : aA.tmps.getD 44 undef = cvA := (show chP 0 1 cvA (aA.tmps.getD 44 undef) wA from hdpA 0 _ 44 (by kernel_rfl) rfl rfl).2 rfl
      obtain ⟨v156, qA_47, hR157, xqA_47_0⟩ := hdpA 3 _ 47 (by kernel_rfl) rfl rfl
      have hR157 : RdC wA w.heap.size w108.heap.size 1 v156 jj ((((nrm (l.take i)).take jj)).map u16v) := hR157
      clear hbsA hdpA
      have hP173 := hCA
      refine op_append slt54 (ev_base hNA rfl qA_44) hP173 (ev_base hNA rfl qA_47) (Src.ofRd Try.underlying54 (by decide) hR157 (one_u16 _)) (by unfold maxLen; omega) (by omega) hb.size ?_
      intro v168 w169 hO171 E170 hm172
      have z_w169 := E170.size
      have hl := hl.keepO hP173 E170 (by omega)
      have hR157 := hR157.keep E170 (fun k hk => .inr (xqA_47_0.2 k hk))
      have hb := below_stepO hb hP173 E170 hb.size (by omega)
      have hO171 : Own w169 w.heap.size 46 1 v168 (0 + jj) ((((nrm (l.take i)).take jj)).map u16v) := by simpa [u8v, u16v, cellsV] using hO171
      exact obCc_end rfl rfl (chP_now (w := w169)) hO171 ⟨E170, hm172⟩
     ·
      intro o_ ho_; obtain rfl := Option.some.inj ho_; intro aA wA cvA hNA hRA hcv0A hbsA hdpA hCA
      have hRA : w108.grownBy wA (Value.slice none 0 0).ownBlock := hRA
      have hnil_o := (Own.nil w108 w.heap.size 46 1)
      have z_wA := hRA.size
      have hb := below_stepO hb (Own.nil w108 w.heap.size 46 1) hRA hb.size (by omega)
      have hl := hl.keep0 hRA
      have hO6 := hO6.keep0 hRA
      have hCA : Own wA w.heap.size 46 1 cvA (0 + jj) ((((nrm (l.take i)).take jj)).map u16v) := hCA
      have qA_48 : aA.tmps.getD 48 undef = cvA := (show chP 1 2 cvA (aA.tmps.getD 48 undef) wA from hdpA 4 _ 48 (by kernel_rfl) rfl rfl).2 rfl
      obtain ⟨b170, qA_53, loA_0, hB172, xqA_53_0⟩ := hdpA 9 _ 53 (by kernel_rfl) rfl rfl
      have hB172 : Bx wA b170 46 [(Value.int .u16 ((l.getD i 0).toNat : Int))] := hB172
      clear hbsA hdpA
      have hP179 := hCA
      refine op_append slt54 (ev_base hNA rfl qA_48) hP179 (ev_base hNA rfl qA_53) (Src.ofRd Try.underlying54 (by decide) (RdC.ofBx (sz := 1) (n := 1) hB172 rfl (by decide)) (by simp [Value.oneCell', u8v])) (by unfold maxLen; omega) (by omega) hb.size ?_
      intro v174 w175 hO177 E176 hm178
      have z_w175 := E176.size
      have hl := hl.keepO hP179 E176 (by omega)
      have hB172 := hB172.keep E176 (fun hh => xqA_53_0 hh.symm)
      have hb := below_stepO hb hP179 E176 hb.size (by omega)
      have hO177 : Own w175 w.heap.size 46 1 v174 ((0 + jj) + 1) (((((nrm (l.take i)).take jj) ++ [(l.getD i 0)])).map u16v) := by simpa [u8v, u16v, cellsV] using hO177
      exact obCc_end rfl rfl (chP_now (w := w175)) hO177 ⟨E176, hm178⟩
     ·
      intro a180 w180 v173 hN180 hd180 hbs180 hph180 hC180 E180 hm180
      have hd180 := hd180.trans hd12
      have s180_0 := (hbs180 0 rfl).trans (sl_base hN12 rfl s12_0)
      have s180_2 := (hbs180 2 rfl).trans (sl_base hN12 rfl s12_2)
      have s180_3 := (hbs180 3 rfl).trans (sl_base hN12 rfl s12_3)
      have s180_4 := (hbs180 4 rfl).trans (sl_base hN12 rfl s12_4)
      have s180_54 : a180.tmps.getD 54 undef = v173 := (show chP 2 3 v173 (a180.tmps.getD 54 undef) w180 from hph180 10 _ 54 rfl rfl).2 rfl
      obtain ⟨v180, s180_57, hR181, xq180_57_0⟩ := hph180 13 _ 57 rfl rfl
      have hR181 : RdC w180 w.heap.size w108.heap.size 1 v180 ((nrm (l.take i)).length - jj) ((((nrm (l.take i)).drop jj)).map u16v) := hR181
      clear hbs180 hph180
      have E180 : w108.grownBy w180 (Value.slice none 0 0).ownBlock := E180
      have hC180 : Own w180 w.heap.size 46 1 v173 ((0 + jj) + 1) (((((nrm (l.take i)).take jj) ++ [(l.getD i 0)])).map u16v) := hC180
      have dj181 : DJ r v173 := fun k hk hg => by have q1 := (hO6.lt k hk).2; rcases hm180 with h7 | h7; (rw [h7] at hg; simp [Value.ownBlock] at hg); (have := h7 k hg; omega)
      have E180 : w108.grownBy w180 none := E180
      have z_w180 := E180.size
      have hl := hl.keep0 E180
      have hO6 := hO6.keep0 E180
      have hb := below_step0 hb E180 hb.size
      refine split_end ?_
      refine from_seq (tl := [_, _]) (by decide) (by kernel_rfl) rfl ?_
      have hP187 := hC180
      refine op_append slt54 (ev_base hN180 rfl s180_54) hP187 (ev_base hN180 rfl s180_57) (Src.ofRd Try.underlying54 (by decide) hR181 (one_u16 _)) (by unfold maxLen; omega) (by omega) hb.size ?_
      intro v182 w183 hO185 E184 hm186
      have dj188 : DJ r v182 := DJ.step hm186 (fun k hk => (hO6.lt k hk).2) dj181
      have z_w183 := E184.size
      have hl := hl.keepO hP187 E184 (by omega)
      have hO6 := hO6.keepD E184 dj181
      have hR181 := hR181.keep E184 (fun k hk => .inr (xq180_57_0.2 k hk))
      have hb := below_stepO hb hP187 E184 hb.size (by omega)
      have hO185 : Own w183 w.heap.size 46 1 v182 (((0 + jj) + 1) + ((nrm (l.take i)).length - jj)) ((((((nrm (l.take i)).take jj) ++ [(l.getD i 0)]) ++ ((nrm (l.take i)).drop jj))).map u16v) := by simpa [u8v, u16v, cellsV] using hO185
      refine op_assign (ev_hit hN180 rfl) ?_
      refine reg_nil ?_
      refine hK9 _ _ ?_
      refine one_reg ?_
      refine op_move (ev_base hN180 rfl s180_4) ?_
      refine op_add (ev_hit hN180 rfl) rfl (add64 (by omega)) ?_
      refine op_assign (ev_hit hN180 rfl) ?_
      refine reg_nil ?_
      -- round 9T 15F 32F 43T
      have hins := insT_at (x := l.getD i 0) (acc := (nrm (l.take i))) (j := jj) hlt (by omega) (by omega)
      exact loop_next _ hN180 hd180 ⟨i + 1, _, rfl, (sl_base hN180 rfl s180_0), (sl_base hN180 rfl s180_2), (sl_hit hN180 rfl).trans (congrArg (Value.int .i64) (by omega)), (sl_hit hN180 rfl), (by omega), (nrm_len (by omega)), hb, (by omega), hl, (hO185.cast (by rw [take_nrm (by omega), hins.2 (.inr (fun e => c43 (by rw [e])))]; simp; omega) (by rw [take_nrm (by omega), hins.2 (.inr (fun e => c43 (by rw [e])))]; try simp [u16v]))⟩ (by omega)
    · -- 43F
     have c43 := of_decide_eq_false c43
     refine wp_skip ?_
     refine hK9 _ _ ?_
     refine one_reg ?_
     refine op_move (ev_base hN12 rfl s12_4) ?_
     refine op_add (ev_hit hN12 rfl) rfl (add64 (by omega)) ?_
     refine op_assign (ev_hit hN12 rfl) ?_
     refine reg_nil ?_
     -- round 9T 15F 32F 43F
     have hins := insT_at (x := l.getD i 0) (acc := (nrm (l.take i))) (j := jj) hlt (by omega) (by omega)
     exact loop_next _ hN12 hd12 ⟨i + 1, _, rfl, (sl_base hN12 rfl s12_0), (sl_base hN12 rfl s12_2), (sl_hit hN12 rfl).trans (congrArg (Value.int .i64) (by omega)), (sl_base hN12 rfl s12_3), (by omega), (nrm_len (by omega)), hb, (by omega), hl, (hO6.cast (by rw [take_nrm (by omega), hins.1 ⟨by omega, u16_eq (by omega)⟩]) (by rw [take_nrm (by omega), hins.1 ⟨by omega, u16_eq (by omega)⟩]))⟩ (by omega)
 · -- 9F
  refine reg_nil ?_
  refine hK8 _ _ ?_
  refine wp_cond_false (ev_hit hN5 rfl) ?_
  refine wp_exit (then_exit (then_exit (blk_hit ?_)))
  refine hK3 _ _ ?_
  refine seq_any fun K189 hK189 => ?_
  refine one_reg ?_
  refine op_move (ev_base hN5 rfl s5_3) ?_
  refine op_assign (ev_hit hN5 rfl) ?_
  refine reg_nil ?_
  refine hK189 _ _ ?_
  refine wp_ret ?_
  refine ret1 rfl hd5 (ev_hit hN5 rfl) ⟨_, rfl, ?_⟩
  -- path 9F
  rw [take_all l (by omega)] at hO6
  exact ⟨hb, hO6⟩

end Go.Proofs.Ytmhdbphpmgjpcaa

/- Plain laws of rows: what is written is read, cut off it is short, with more behind it is none, and what is read is what is written. -/
namespace Go.Proofs.Ytmhdbphpmgjpcaa
open Go.Gx
end Go.Proofs.Ytmhdbphpmgjpcaa

/- Plain laws of labels' bytes and of index keys. -/
namespace Go.Proofs.Ytmhdbphpmgjpcaa
open Go.Gx
theorem flat_be2_get : ∀ (l : Lb) (r : List UInt8) (i : Nat), i < l.length → (l.flatMap be2 ++ r).getD (2 * i) 0 = UInt8.ofNat ((l.getD i 0).toNat / 256) ∧ (l.flatMap be2 ++ r).getD (2 * i + 1) 0 = UInt8.ofNat (l.getD i 0).toNat
  | [], r, i, h => by simp at h
  | a :: l, r, 0, _ => ⟨rfl, rfl⟩
  | a :: l, r, i + 1, h => by
    have := flat_be2_get l r i (by simpa using h)
    rw [show 2 * (i + 1) = 2 * i + 1 + 1 by omega]
    exact this
theorem of_be2 (t : UInt16) : UInt16.ofNat ((UInt8.ofNat (t.toNat / 256)).toNat * 256 + (UInt8.ofNat t.toNat).toNat) = t := by
  apply UInt16.toNat_inj.1
  have := t.toNat_lt
  rw [UInt16.toNat_ofNat', UInt8.toNat_ofNat', UInt8.toNat_ofNat']; omega
theorem tags_put (l : Lb) (r : List UInt8) : tagsL l.length (putL l ++ r) = l := by
  apply List.ext_getElem
  · rw [tags_len]
  · intro i h1 h2
    obtain ⟨g1, g2⟩ := flat_be2_get l r i h2
    have e1 : (putL l ++ r).getD (1 + 2 * i) 0 = (l.flatMap be2 ++ r).getD (2 * i) 0 := by rw [show 1 + 2 * i = 2 * i + 1 by omega]; rfl
    have e2 : (putL l ++ r).getD (2 + 2 * i) 0 = (l.flatMap be2 ++ r).getD (2 * i + 1) 0 := by rw [show 2 + 2 * i = 2 * i + 1 + 1 by omega]; rfl
    simp only [tagsL, List.getElem_map, List.getElem_range]
    rw [e1, e2, g1, g2, of_be2]
    simp [List.getD_eq_getElem?_getD, h2]
theorem putL_head {l : Lb} (h : l.length ≤ 255) (r : List UInt8) : ((putL l ++ r).getD 0 0).toNat = l.length := by
  show (UInt8.ofNat l.length).toNat = l.length
  rw [UInt8.toNat_ofNat']; omega
theorem takeL_put {l : Lb} (h : mayL l = true) (r : List UInt8) : takeL (putL l ++ r) = (l, (((putL l).length : Nat) : Int), 0) := by
  have h8 := mayL_len h
  have hn := putL_head (l := l) (by omega) r
  have hl : (putL l ++ r).length = 1 + l.length * 2 + r.length := by rw [List.length_append, putL_len]
  rw [takeL, if_neg (by omega), if_neg (by omega), if_neg (by omega), hn, tags_put, if_pos (mayL_rise h), putL_len, Nat.mul_comm]
/-! how keys stand -/
end Go.Proofs.Ytmhdbphpmgjpcaa

/- Walks, written by a program: what each function of the translation hands back. -/
namespace Go.Proofs.Ytmhdbphpmgjpcaa
open Go.Gx Go.RowKit
attribute [local irreducible] wpList wpStill Code.wp Calls

theorem refMay_ret (l : Lb) (v : Value) (w : World) (hl : l.length ≤ 9223372036854775807) (h : RdC w 0 w.heap.size 1 v l.length (l.map u16v)) : Ret Try.prog 33 #[v] w (fun v' w' => Below w.heap.size w w' ∧ v' = .bool (mayL l)) := by
 have hb := Below.refl w.heap.size w
 refine enter (N := 23) Try.func33 rfl rfl (by simp) fun a0 hN hd hA => ?_
 have s0 : a0.tmps.getD 0 undef = v := hA 0 (by simp)
 clear hA
 refine seq_any fun K1 hK1 => ?_
 refine one_reg ?_
 refine op_assign rfl ?_
 refine reg_nil ?_
 refine hK1 _ _ ?_
 refine seq_any fun K2 hK2 => ?_
 refine seq_any fun K3 hK3 => ?_
 refine one_reg ?_
 refine op_assign rfl ?_
 refine reg_nil ?_
 refine hK3 _ _ ?_
 refine wp_block ?_
 refine loop_m (fun mz_ az_ w' => ∃ (i : Nat), mz_ = l.length - i ∧ (az_.tmps.getD 0 undef = v) ∧ (az_.tmps.getD 3 undef = (Value.int .i64 ((i : Nat) : Int))) ∧ (1 ≤ i ∧ (i ≤ l.length ∨ i = 1)) ∧ (Rise (l.take i)) ∧ (Below w.heap.size w w') ∧ (w.heap.size ≤ w'.heap.size) ∧ (RdC w' 0 w.heap.size 1 v l.length (l.map u16v))) _ hN hd ⟨1, rfl, (sl_base hN rfl s0), (sl_hit hN rfl).trans (congrArg (Value.int .i64) (by omega)), ⟨Nat.le_refl _, .inr rfl⟩, rise_one, hb, (Nat.le_refl _), h⟩ ?_
 rintro _ a4 w4 hN4 hd4 ⟨i, rfl, s4_0, s4_3, hi, hr, hb, zl_w4, h⟩
 have z_w4 := hb.size
 refine seq_any fun K5 hK5 => ?_
 refine seq_any fun K6 hK6 => ?_
 refine one_reg ?_
 refine op_move (ev_base hN4 rfl s4_3) ?_
 refine op_move (ev_base hN4 rfl s4_0) ?_
 refine op_len_rd Try.underlying54 (ev_hit hN4 rfl) h ?_
 refine op_lss (ev_hit hN4 rfl) (ev_hit hN4 rfl) (fun c7 => ?_) (fun c7 => ?_)
 · -- 7T
  refine reg_nil ?_
  refine hK6 _ _ ?_
  refine wp_cond_true (ev_hit hN4 rfl) ?_
  refine wp_skip ?_
  refine hK5 _ _ ?_
  refine seq_any fun K7 hK7 => ?_
  refine wp_block ?_
  refine seq_any fun K8 hK8 => ?_
  refine reg_still mixed (by kernel_rfl) ?_
  intro w10 E9
  have z_w10 := E9.size
  have h := h.keep0 E9
  have hb := below_step0 hb E9 hb.size
  refine st_step rfl (fun _ h9 => op_move (ev_base hN4 rfl s4_0) h9) ?_
  refine st_step rfl (fun _ h9 => op_move (ev_base hN4 rfl s4_3) h9) ?_
  refine st_step rfl (fun _ h9 => op_sub (ev_hit hN4 rfl) rfl (sub64 (by omega)) h9) ?_
  refine st_index_rd slt54 (ev_hit hN4 rfl) h (ev_hit hN4 rfl) (by omega) (by omega) ?_
  intro b11 o12 h0b11 h1b11 hc13
  refine st_step rfl (fun _ h9 => op_load1 (v := (Value.int .u16 ((l.getD (i - 1) 0).toNat : Int))) one46 (ev_hit hN4 rfl) (by have := hc13 0 (Value.int .u16 ((l.getD (i - 1) 0).toNat : Int)) (by decide) (el_u16 (i := (i - 1)) (by omega) (by omega)); simpa using this) h9) ?_
  refine st_step rfl (fun _ h9 => op_move (ev_base hN4 rfl s4_0) h9) ?_
  refine st_step rfl (fun _ h9 => op_move (ev_base hN4 rfl s4_3) h9) ?_
  refine st_index_rd slt54 (ev_hit hN4 rfl) h (ev_hit hN4 rfl) (by omega) (by omega) ?_
  intro b14 o15 h0b14 h1b14 hc16
  refine st_step rfl (fun _ h9 => op_load1 (v := (Value.int .u16 ((l.getD i 0).toNat : Int))) one46 (ev_hit hN4 rfl) (by have := hc16 0 (Value.int .u16 ((l.getD i 0).toNat : Int)) (by decide) (el_u16 (i := i) (by omega) (by omega)); simpa using this) h9) ?_
  refine st_step rfl (fun _ h9 => op_cmp (b := (decide (((l.getD i 0).toNat : Int) ≤ ((l.getD (i - 1) 0).toNat : Int)))) (ev_hit hN4 rfl) (ev_hit hN4 rfl) (b_geq rfl) h9) ?_
  refine st_nil ?_
  refine hK8 _ _ ?_
  refine wp_cond_split (ev_hit hN4 rfl) (fun c19 => ?_) (fun c19 => ?_)
  · -- 19T
   have c19 := of_decide_eq_true c19
   refine seq_any fun K17 hK17 => ?_
   refine one_reg ?_
   refine op_assign rfl ?_
   refine reg_nil ?_
   refine hK17 _ _ ?_
   refine wp_ret (blk_ret (then_ret (then_ret (blk_ret (then_ret ( ?_))))))
   refine ret1 rfl hd4 (ev_hit hN4 rfl) ⟨_, rfl, ?_⟩
   -- path 7T 19T
   exact ⟨hb, congrArg Value.bool (by rw [mayL, decide_eq_false (rise_bad (i := i) (by omega) (by omega) (by omega)), Bool.false_and])⟩
  · -- 19F
   have c19 := of_decide_eq_false c19
   refine wp_skip ?_
   refine hK7 _ _ ?_
   refine one_reg ?_
   refine op_move (ev_base hN4 rfl s4_3) ?_
   refine op_add (ev_hit hN4 rfl) rfl (add64 (by omega)) ?_
   refine op_assign (ev_hit hN4 rfl) ?_
   refine reg_nil ?_
   -- round 7T 19F
   exact loop_next _ hN4 hd4 ⟨i + 1, rfl, (sl_base hN4 rfl s4_0), (sl_hit hN4 rfl).trans (congrArg (Value.int .i64) (by omega)), (by omega), (rise_step (by omega) (by omega) hr (by omega)), hb, (by omega), h⟩ (by omega)
 · -- 7F
  refine reg_nil ?_
  refine hK6 _ _ ?_
  refine wp_cond_false (ev_hit hN4 rfl) ?_
  refine wp_exit (then_exit (then_exit (blk_hit ?_)))
  refine hK2 _ _ ?_
  refine seq_any fun K18 hK18 => ?_
  refine one_reg ?_
  refine op_move (ev_base hN4 rfl s4_0) ?_
  refine op_len_rd Try.underlying54 (ev_hit hN4 rfl) h ?_
  refine op_leq (ev_hit hN4 rfl) rfl (fun c22 => ?_) (fun c22 => ?_)
  · -- 22T
   refine op_assign (ev_hit hN4 rfl) ?_
   refine reg_nil ?_
   refine hK18 _ _ ?_
   refine wp_ret ?_
   refine ret1 rfl hd4 (ev_hit hN4 rfl) ⟨_, rfl, ?_⟩
   -- path 7F 22T
   have hr2 : Rise l := by rwa [List.take_of_length_le (by omega)] at hr
   exact ⟨hb, congrArg Value.bool (by rw [mayL, decide_eq_true hr2, Bool.true_and]; exact (decide_eq_true (by omega)).symm)⟩
  · -- 22F
   refine op_assign (ev_hit hN4 rfl) ?_
   refine reg_nil ?_
   refine hK18 _ _ ?_
   refine wp_ret ?_
   refine ret1 rfl hd4 (ev_hit hN4 rfl) ⟨_, rfl, ?_⟩
   -- path 7F 22F
   have hr2 : Rise l := by rwa [List.take_of_length_le (by omega)] at hr
   exact ⟨hb, congrArg Value.bool (by rw [mayL, decide_eq_true hr2, Bool.true_and]; exact (decide_eq_false (by omega)).symm)⟩

theorem rises_ret (l : Lb) (v : Value) (w : World) (hl : l.length ≤ 9223372036854775807) (h : RdC w 0 w.heap.size 1 v l.length (l.map u16v)) : Ret Try.prog 115 #[v] w (fun v' w' => Below w.heap.size w w' ∧ v' = .bool (decide (Rise l))) := by
 have hb := Below.refl w.heap.size w
 refine enter (N := 20) Try.func115 rfl rfl (by simp) fun a0 hN hd hA => ?_
 have s0 : a0.tmps.getD 0 undef = v := hA 0 (by simp)
 clear hA
 refine seq_any fun K19 hK19 => ?_
 refine one_reg ?_
 refine op_assign rfl ?_
 refine reg_nil ?_
 refine hK19 _ _ ?_
 refine seq_any fun K20 hK20 => ?_
 refine seq_any fun K21 hK21 => ?_
 refine one_reg ?_
 refine op_assign rfl ?_
 refine reg_nil ?_
 refine hK21 _ _ ?_
 refine wp_block ?_
 refine loop_m (fun mz_ az_ w' => ∃ (i : Nat), mz_ = l.length - i ∧ (az_.tmps.getD 0 undef = v) ∧ (az_.tmps.getD 3 undef = (Value.int .i64 ((i : Nat) : Int))) ∧ (1 ≤ i ∧ (i ≤ l.length ∨ i = 1)) ∧ (Rise (l.take i)) ∧ (Below w.heap.size w w') ∧ (w.heap.size ≤ w'.heap.size) ∧ (RdC w' 0 w.heap.size 1 v l.length (l.map u16v))) _ hN hd ⟨1, rfl, (sl_base hN rfl s0), (sl_hit hN rfl).trans (congrArg (Value.int .i64) (by omega)), ⟨Nat.le_refl _, .inr rfl⟩, rise_one, hb, (Nat.le_refl _), h⟩ ?_
 rintro _ a22 w22 hN22 hd22 ⟨i, rfl, s22_0, s22_3, hi, hr, hb, zl_w22, h⟩
 have z_w22 := hb.size
 refine seq_any fun K23 hK23 => ?_
 refine seq_any fun K24 hK24 => ?_
 refine one_reg ?_
 refine op_move (ev_base hN22 rfl s22_3) ?_
 refine op_move (ev_base hN22 rfl s22_0) ?_
 refine op_len_rd Try.underlying45 (ev_hit hN22 rfl) h ?_
 refine op_lss (ev_hit hN22 rfl) (ev_hit hN22 rfl) (fun c7 => ?_) (fun c7 => ?_)
 · -- 7T
  refine reg_nil ?_
  refine hK24 _ _ ?_
  refine wp_cond_true (ev_hit hN22 rfl) ?_
  refine wp_skip ?_
  refine hK23 _ _ ?_
  refine seq_any fun K25 hK25 => ?_
  refine wp_block ?_
  refine seq_any fun K26 hK26 => ?_
  refine reg_still mixed (by kernel_rfl) ?_
  intro w28 E27
  have z_w28 := E27.size
  have h := h.keep0 E27
  have hb := below_step0 hb E27 hb.size
  refine st_step rfl (fun _ h9 => op_move (ev_base hN22 rfl s22_0) h9) ?_
  refine st_step rfl (fun _ h9 => op_move (ev_base hN22 rfl s22_3) h9) ?_
  refine st_step rfl (fun _ h9 => op_sub (ev_hit hN22 rfl) rfl (sub64 (by omega)) h9) ?_
  refine st_index_rd slt45 (ev_hit hN22 rfl) h (ev_hit hN22 rfl) (by omega) (by omega) ?_
  intro b29 o30 h0b29 h1b29 hc31
  refine st_step rfl (fun _ h9 => op_load1 (v := (Value.int .u16 ((l.getD (i - 1) 0).toNat : Int))) one46 (ev_hit hN22 rfl) (by have := hc31 0 (Value.int .u16 ((l.getD (i - 1) 0).toNat : Int)) (by decide) (el_u16 (i := (i - 1)) (by omega) (by omega)); simpa using this) h9) ?_
  refine st_step rfl (fun _ h9 => op_move (ev_base hN22 rfl s22_0) h9) ?_
  refine st_step rfl (fun _ h9 => op_move (ev_base hN22 rfl s22_3) h9) ?_
  refine st_index_rd slt45 (ev_hit hN22 rfl) h (ev_hit hN22 rfl) (by omega) (by omega) ?_
  intro b32 o33 h0b32 h1b32 hc34
  refine st_step rfl (fun _ h9 => op_load1 (v := (Value.int .u16 ((l.getD i 0).toNat : Int))) one46 (ev_hit hN22 rfl) (by have := hc34 0 (Value.int .u16 ((l.getD i 0).toNat : Int)) (by decide) (el_u16 (i := i) (by omega) (by omega)); simpa using this) h9) ?_
  refine st_step rfl (fun _ h9 => op_cmp (b := (decide (((l.getD i 0).toNat : Int) ≤ ((l.getD (i - 1) 0).toNat : Int)))) (ev_hit hN22 rfl) (ev_hit hN22 rfl) (b_geq rfl) h9) ?_
  refine st_nil ?_
  refine hK26 _ _ ?_
  refine wp_cond_split (ev_hit hN22 rfl) (fun c19 => ?_) (fun c19 => ?_)
  · -- 19T
   have c19 := of_decide_eq_true c19
   refine seq_any fun K35 hK35 => ?_
   refine one_reg ?_
   refine op_assign rfl ?_
   refine reg_nil ?_
   refine hK35 _ _ ?_
   refine wp_ret (blk_ret (then_ret (then_ret (blk_ret (then_ret ( ?_))))))
   refine ret1 rfl hd22 (ev_hit hN22 rfl) ⟨_, rfl, ?_⟩
   -- path 7T 19T
   exact ⟨hb, congrArg Value.bool (by rw [decide_eq_false (rise_bad (i := i) (by omega) (by omega) (by omega))])⟩
  · -- 19F
   have c19 := of_decide_eq_false c19
   refine wp_skip ?_
   refine hK25 _ _ ?_
   refine one_reg ?_
   refine op_move (ev_base hN22 rfl s22_3) ?_
   refine op_add (ev_hit hN22 rfl) rfl (add64 (by omega)) ?_
   refine op_assign (ev_hit hN22 rfl) ?_
   refine reg_nil ?_
   -- round 7T 19F
   exact loop_next _ hN22 hd22 ⟨i + 1, rfl, (sl_base hN22 rfl s22_0), (sl_hit hN22 rfl).trans (congrArg (Value.int .i64) (by omega)), (by omega), (rise_step (by omega) (by omega) hr (by omega)), hb, (by omega), h⟩ (by omega)
 · -- 7F
  refine reg_nil ?_
  refine hK24 _ _ ?_
  refine wp_cond_false (ev_hit hN22 rfl) ?_
  refine wp_exit (then_exit (then_exit (blk_hit ?_)))
  refine hK20 _ _ ?_
  refine seq_any fun K36 hK36 => ?_
  refine one_reg ?_
  refine op_assign rfl ?_
  refine reg_nil ?_
  refine hK36 _ _ ?_
  refine wp_ret ?_
  refine ret1 rfl hd22 (ev_hit hN22 rfl) ⟨_, rfl, ?_⟩
  -- path 7F
  have hr2 : Rise l := by rwa [List.take_of_length_le (by omega)] at hr
  exact ⟨hb, congrArg Value.bool (by rw [decide_eq_true hr2])⟩

theorem cmpL_ret (l m : Lb) (v u : Value) (w : World) (hl : l.length ≤ 9223372036854775807) (hm : m.length ≤ 9223372036854775807) (h : RdC w 0 w.heap.size 1 v l.length (l.map u16v)) (h2 : RdC w 0 w.heap.size 1 u m.length (m.map u16v)) : Ret Try.prog 78 #[v, u] w (fun v' w' => Below w.heap.size w w' ∧ v' = .int .i64 (cmpL l m)) := by
 have hb := Below.refl w.heap.size w
 refine enter (N := 40) Try.func78 rfl rfl (by simp) fun a0 hN hd hA => ?_
 have s0 : a0.tmps.getD 0 undef = v := hA 0 (by simp)
 have s1 : a0.tmps.getD 1 undef = u := hA 1 (by simp)
 clear hA
 refine seq_any fun K37 hK37 => ?_
 refine one_reg ?_
 refine op_assign rfl ?_
 refine reg_nil ?_
 refine hK37 _ _ ?_
 refine seq_any fun K38 hK38 => ?_
 refine seq_any fun K39 hK39 => ?_
 refine one_reg ?_
 refine op_move (ev_base hN rfl s0) ?_
 refine op_len_rd Try.underlying54 (ev_hit hN rfl) h ?_
 refine op_move (ev_base hN rfl s1) ?_
 refine op_len_rd Try.underlying54 (ev_hit hN rfl) h2 ?_
 refine op_neq (ev_hit hN rfl) (ev_hit hN rfl) (fun c10 => ?_) (fun c10 => ?_)
 · -- 10T
  refine reg_nil ?_
  refine hK39 _ _ ?_
  refine wp_cond_true (ev_hit hN rfl) ?_
  refine seq_any fun K40 hK40 => ?_
  refine seq_any fun K41 hK41 => ?_
  refine one_reg ?_
  refine op_move (ev_base hN rfl s0) ?_
  refine op_len_rd Try.underlying54 (ev_hit hN rfl) h ?_
  refine op_move (ev_base hN rfl s1) ?_
  refine op_len_rd Try.underlying54 (ev_hit hN rfl) h2 ?_
  refine op_lss (ev_hit hN rfl) (ev_hit hN rfl) (fun c15 => ?_) (fun c15 => ?_)
  · -- 15T
   refine reg_nil ?_
   refine hK41 _ _ ?_
   refine wp_cond_true (ev_hit hN rfl) ?_
   refine seq_any fun K42 hK42 => ?_
   refine one_reg ?_
   refine op_assign rfl ?_
   refine reg_nil ?_
   refine hK42 _ _ ?_
   refine wp_ret (then_ret (then_ret ( ?_)))
   refine ret1 rfl hd (ev_hit hN rfl) ⟨_, rfl, ?_⟩
   -- path 10T 15T
   exact ⟨hb, congrArg (Value.int .i64) (by rw [cmpL, if_pos (by omega)])⟩
  · -- 15F
   refine reg_nil ?_
   refine hK41 _ _ ?_
   refine wp_cond_false (ev_hit hN rfl) ?_
   refine wp_skip ?_
   refine hK40 _ _ ?_
   refine seq_any fun K43 hK43 => ?_
   refine one_reg ?_
   refine op_assign rfl ?_
   refine reg_nil ?_
   refine hK43 _ _ ?_
   refine wp_ret (then_ret ( ?_))
   refine ret1 rfl hd (ev_hit hN rfl) ⟨_, rfl, ?_⟩
   -- path 10T 15F
   exact ⟨hb, congrArg (Value.int .i64) (by rw [cmpL, if_neg (by omega), if_pos (by omega)])⟩
 · -- 10F
  refine reg_nil ?_
  refine hK39 _ _ ?_
  refine wp_cond_false (ev_hit hN rfl) ?_
  refine wp_skip ?_
  refine hK38 _ _ ?_
  refine seq_any fun K44 hK44 => ?_
  refine seq_any fun K45 hK45 => ?_
  refine one_reg ?_
  refine op_assign rfl ?_
  refine reg_nil ?_
  refine hK45 _ _ ?_
  refine wp_block ?_
  refine loop_m (fun mz_ az_ w' => ∃ (i : Nat), mz_ = l.length - i ∧ (az_.tmps.getD 0 undef = v) ∧ (az_.tmps.getD 1 undef = u) ∧ (az_.tmps.getD 5 undef = (Value.int .i64 ((i : Nat) : Int))) ∧ (i ≤ l.length) ∧ (cmpG l m = cmpG (l.drop i) (m.drop i)) ∧ (Below w.heap.size w w') ∧ (w.heap.size ≤ w'.heap.size) ∧ (RdC w' 0 w.heap.size 1 v l.length (l.map u16v)) ∧ (RdC w' 0 w.heap.size 1 u m.length (m.map u16v))) _ hN hd ⟨0, rfl, (sl_base hN rfl s0), (sl_base hN rfl s1), (sl_hit hN rfl), Nat.zero_le _, rfl, hb, (Nat.le_refl _), h, h2⟩ ?_
  rintro _ a46 w46 hN46 hd46 ⟨i, rfl, s46_0, s46_1, s46_5, hi, he, hb, zl_w46, h, h2⟩
  have z_w46 := hb.size
  refine seq_any fun K47 hK47 => ?_
  refine seq_any fun K48 hK48 => ?_
  refine one_reg ?_
  refine op_move (ev_base hN46 rfl s46_5) ?_
  refine op_move (ev_base hN46 rfl s46_0) ?_
  refine op_len_rd Try.underlying54 (ev_hit hN46 rfl) h ?_
  refine op_lss (ev_hit hN46 rfl) (ev_hit hN46 rfl) (fun c19 => ?_) (fun c19 => ?_)
  · -- 19T
   refine reg_nil ?_
   refine hK48 _ _ ?_
   refine wp_cond_true (ev_hit hN46 rfl) ?_
   refine wp_skip ?_
   refine hK47 _ _ ?_
   refine seq_any fun K49 hK49 => ?_
   refine wp_block ?_
   refine seq_any fun K50 hK50 => ?_
   refine seq_any fun K51 hK51 => ?_
   refine reg_still mixed (by kernel_rfl) ?_
   intro w53 E52
   have z_w53 := E52.size
   have h := h.keep0 E52
   have h2 := h2.keep0 E52
   have hb := below_step0 hb E52 hb.size
   refine st_step rfl (fun _ h9 => op_move (ev_base hN46 rfl s46_0) h9) ?_
   refine st_step rfl (fun _ h9 => op_move (ev_base hN46 rfl s46_5) h9) ?_
   refine st_index_rd slt54 (ev_hit hN46 rfl) h (ev_hit hN46 rfl) (by omega) (by omega) ?_
   intro b54 o55 h0b54 h1b54 hc56
   refine st_step rfl (fun _ h9 => op_load1 (v := (Value.int .u16 ((l.getD i 0).toNat : Int))) one46 (ev_hit hN46 rfl) (by have := hc56 0 (Value.int .u16 ((l.getD i 0).toNat : Int)) (by decide) (el_u16 (i := i) (by omega) (by omega)); simpa using this) h9) ?_
   refine st_step rfl (fun _ h9 => op_move (ev_base hN46 rfl s46_1) h9) ?_
   refine st_step rfl (fun _ h9 => op_move (ev_base hN46 rfl s46_5) h9) ?_
   refine st_index_rd slt54 (ev_hit hN46 rfl) h2 (ev_hit hN46 rfl) (by omega) (by omega) ?_
   intro b57 o58 h0b57 h1b57 hc59
   refine st_step rfl (fun _ h9 => op_load1 (v := (Value.int .u16 ((m.getD i 0).toNat : Int))) one46 (ev_hit hN46 rfl) (by have := hc59 0 (Value.int .u16 ((m.getD i 0).toNat : Int)) (by decide) (el_u16 (i := i) (by omega) (by omega)); simpa using this) h9) ?_
   refine st_step rfl (fun _ h9 => op_cmp (b := (decide (((l.getD i 0).toNat : Int) < ((m.getD i 0).toNat : Int)))) (ev_hit hN46 rfl) (ev_hit hN46 rfl) (b_lss rfl) h9) ?_
   refine st_nil ?_
   refine hK51 _ _ ?_
   refine wp_cond_split (ev_hit hN46 rfl) (fun c30 => ?_) (fun c30 => ?_)
   · -- 30T
    have c30 := of_decide_eq_true c30
    refine seq_any fun K60 hK60 => ?_
    refine one_reg ?_
    refine op_assign rfl ?_
    refine reg_nil ?_
    refine hK60 _ _ ?_
    refine wp_ret (then_ret (blk_ret (then_ret (then_ret (blk_ret (then_ret ( ?_)))))))
    refine ret1 rfl hd46 (ev_hit hN46 rfl) ⟨_, rfl, ?_⟩
    -- path 10F 19T 30T
    exact ⟨hb, congrArg (Value.int .i64) (by rw [cmpL, if_neg (by omega), if_neg (by omega), he, cmpG_step (by omega) (by omega), if_pos (by omega)])⟩
   · -- 30F
    have c30 := of_decide_eq_false c30
    refine wp_skip ?_
    refine hK50 _ _ ?_
    refine seq_any fun K61 hK61 => ?_
    refine reg_still mixed (by kernel_rfl) ?_
    intro w63 E62
    have z_w63 := E62.size
    have h := h.keep0 E62
    have h2 := h2.keep0 E62
    have hb := below_step0 hb E62 hb.size
    refine st_step rfl (fun _ h9 => op_move (ev_base hN46 rfl s46_0) h9) ?_
    refine st_step rfl (fun _ h9 => op_move (ev_base hN46 rfl s46_5) h9) ?_
    refine st_index_rd slt54 (ev_hit hN46 rfl) h (ev_hit hN46 rfl) (by omega) (by omega) ?_
    intro b64 o65 h0b64 h1b64 hc66
    refine st_step rfl (fun _ h9 => op_load1 (v := (Value.int .u16 ((l.getD i 0).toNat : Int))) one46 (ev_hit hN46 rfl) (by have := hc66 0 (Value.int .u16 ((l.getD i 0).toNat : Int)) (by decide) (el_u16 (i := i) (by omega) (by omega)); simpa using this) h9) ?_
    refine st_step rfl (fun _ h9 => op_move (ev_base hN46 rfl s46_1) h9) ?_
    refine st_step rfl (fun _ h9 => op_move (ev_base hN46 rfl s46_5) h9) ?_
    refine st_index_rd slt54 (ev_hit hN46 rfl) h2 (ev_hit hN46 rfl) (by omega) (by omega) ?_
    intro b67 o68 h0b67 h1b67 hc69
    refine st_step rfl (fun _ h9 => op_load1 (v := (Value.int .u16 ((m.getD i 0).toNat : Int))) one46 (ev_hit hN46 rfl) (by have := hc69 0 (Value.int .u16 ((m.getD i 0).toNat : Int)) (by decide) (el_u16 (i := i) (by omega) (by omega)); simpa using this) h9) ?_
    refine st_step rfl (fun _ h9 => op_cmp (b := (decide (((m.getD i 0).toNat : Int) < ((l.getD i 0).toNat : Int)))) (ev_hit hN46 rfl) (ev_hit hN46 rfl) (b_gtr rfl) h9) ?_
    refine st_nil ?_
    refine hK61 _ _ ?_
    refine wp_cond_split (ev_hit hN46 rfl) (fun c39 => ?_) (fun c39 => ?_)
    · -- 39T
     have c39 := of_decide_eq_true c39
     refine seq_any fun K70 hK70 => ?_
     refine one_reg ?_
     refine op_assign rfl ?_
     refine reg_nil ?_
     refine hK70 _ _ ?_
     refine wp_ret (blk_ret (then_ret (then_ret (blk_ret (then_ret ( ?_))))))
     refine ret1 rfl hd46 (ev_hit hN46 rfl) ⟨_, rfl, ?_⟩
     -- path 10F 19T 30F 39T
     exact ⟨hb, congrArg (Value.int .i64) (by rw [cmpL, if_neg (by omega), if_neg (by omega), he, cmpG_step (by omega) (by omega), if_neg (by omega), if_pos (by omega)])⟩
    · -- 39F
     have c39 := of_decide_eq_false c39
     refine wp_skip ?_
     refine hK49 _ _ ?_
     refine one_reg ?_
     refine op_move (ev_base hN46 rfl s46_5) ?_
     refine op_add (ev_hit hN46 rfl) rfl (add64 (by omega)) ?_
     refine op_assign (ev_hit hN46 rfl) ?_
     refine reg_nil ?_
     -- round 10F 19T 30F 39F
     exact loop_next _ hN46 hd46 ⟨i + 1, rfl, (sl_base hN46 rfl s46_0), (sl_base hN46 rfl s46_1), (sl_hit hN46 rfl).trans (congrArg (Value.int .i64) (by omega)), (by omega), (he.trans ((cmpG_step (by omega) (by omega)).trans (by rw [if_neg (by omega), if_neg (by omega)]))), hb, (by omega), h, h2⟩ (by omega)
  · -- 19F
   refine reg_nil ?_
   refine hK48 _ _ ?_
   refine wp_cond_false (ev_hit hN46 rfl) ?_
   refine wp_exit (then_exit (then_exit (blk_hit ?_)))
   refine hK44 _ _ ?_
   refine seq_any fun K71 hK71 => ?_
   refine one_reg ?_
   refine op_assign rfl ?_
   refine reg_nil ?_
   refine hK71 _ _ ?_
   refine wp_ret ?_
   refine ret1 rfl hd46 (ev_hit hN46 rfl) ⟨_, rfl, ?_⟩
   -- path 10F 19F
   exact ⟨hb, congrArg (Value.int .i64) (by rw [cmpL, if_neg (by omega), if_neg (by omega), he, cmpG_end (by omega) (by omega)])⟩

theorem sameL_ret (l m : Lb) (v u : Value) (w : World) (hl : l.length ≤ 9223372036854775807) (hm : m.length ≤ 9223372036854775807) (h : RdC w 0 w.heap.size 1 v l.length (l.map u16v)) (h2 : RdC w 0 w.heap.size 1 u m.length (m.map u16v)) : Ret Try.prog 34 #[v, u] w (fun v' w' => Below w.heap.size w w' ∧ v' = .bool (decide (l = m))) := by
 have hb := Below.refl w.heap.size w
 refine enter (N := 9) Try.func34 rfl rfl (by simp) fun a0 hN hd hA => ?_
 have s0 : a0.tmps.getD 0 undef = v := hA 0 (by simp)
 have s1 : a0.tmps.getD 1 undef = u := hA 1 (by simp)
 clear hA
 refine seq_any fun K72 hK72 => ?_
 refine one_reg ?_
 refine op_assign rfl ?_
 refine reg_nil ?_
 refine hK72 _ _ ?_
 refine seq_any fun K73 hK73 => ?_
 refine one_reg ?_
 refine op_move (ev_base hN rfl s0) ?_
 refine op_move (ev_base hN rfl s1) ?_
 refine op_fn (vs := [v, u]) ok78 ⟨(ev_hit hN rfl), ⟨(ev_hit hN rfl), trivial⟩⟩ (cmpL_ret l m _ _ _ (by first | assumption | omega | (simp only [List.length_append, List.length_cons, List.length_nil, List.length_drop, List.length_take]; omega) | (dsimp only; omega) | decide | (simp [keyV, be8_len]; done)) (by first | assumption | omega | (simp only [List.length_append, List.length_cons, List.length_nil, List.length_drop, List.length_take]; omega) | (dsimp only; omega) | decide | (simp [keyV, be8_len]; done)) (show RdC w 0 w.heap.size 1 v l.length (l.map u16v) from by have hh : RdC w 0 w.heap.size 1 _ _ _ := (h.mono (L' := 0) (B' := w.heap.size) (Nat.zero_le _) (by omega)); first | exact hh | exact hh.cast (by first | omega | (simp; try omega)) (by first | rfl | simp [u16v])) (show RdC w 0 w.heap.size 1 u m.length (m.map u16v) from by have hh : RdC w 0 w.heap.size 1 _ _ _ := (h2.mono (L' := 0) (B' := w.heap.size) (Nat.zero_le _) (by omega)); first | exact hh | exact hh.cast (by first | omega | (simp; try omega)) (by first | rfl | simp [u16v]))) ?_
 rintro _ w74 ⟨E75, rfl⟩
 have E75 := grown_of_below E75
 have z_w74 := E75.size
 have h := h.keep0 E75
 have h2 := h2.keep0 E75
 have hb := below_step0 hb E75 hb.size
 refine op_eql (ev_hit hN rfl) rfl (fun c8 => ?_) (fun c8 => ?_)
 · -- 8T
  refine op_assign (ev_hit hN rfl) ?_
  refine reg_nil ?_
  refine hK73 _ _ ?_
  refine wp_ret ?_
  refine ret1 rfl hd (ev_hit hN rfl) ⟨_, rfl, ?_⟩
  -- path 8T
  exact ⟨hb, congrArg Value.bool (decide_eq_true (cmpL_zero.1 c8)).symm⟩
 · -- 8F
  refine op_assign (ev_hit hN rfl) ?_
  refine reg_nil ?_
  refine hK73 _ _ ?_
  refine wp_ret ?_
  refine ret1 rfl hd (ev_hit hN rfl) ⟨_, rfl, ?_⟩
  -- path 8F
  exact ⟨hb, congrArg Value.bool (decide_eq_false (fun hh => c8 (cmpL_zero.2 hh))).symm⟩

end Go.Proofs.Ytmhdbphpmgjpcaa

/- Walks, written by a program: what each function of the translation hands back. -/
namespace Go.Proofs.Ytmhdbphpmgjpcaa
open Go.Gx Go.RowKit
attribute [local irreducible] wpList wpStill Code.wp Calls

end Go.Proofs.Ytmhdbphpmgjpcaa

/- Walks, written by a program: what each function of the translation hands back. -/
namespace Go.Proofs.Ytmhdbphpmgjpcaa
open Go.Gx Go.RowKit
attribute [local irreducible] wpList wpStill Code.wp Calls

theorem growW_ret (n : Nat) (w : World) (hn : n ≤ 1000000000000) : Ret Try.prog 135 #[(Value.slice none 0 0), (Value.int .i64 ((n : Nat) : Int))] w (fun v' w' => Below w.heap.size w w' ∧ Own w' w.heap.size 46 1 v' 0 []) := by
 have hb := Below.refl w.heap.size w
 refine enter (N := 27) Try.func135 rfl rfl (by simp) fun a0 hN hd hA => ?_
 have s0 : a0.tmps.getD 0 undef = (Value.slice none 0 0) := hA 0 (by simp)
 have s1 : a0.tmps.getD 1 undef = (Value.int .i64 ((n : Nat) : Int)) := hA 1 (by simp)
 clear hA
 refine seq_any fun K1 hK1 => ?_
 refine one_reg ?_
 refine op_assign rfl ?_
 refine reg_nil ?_
 refine hK1 _ _ ?_
 refine seq_any fun K2 hK2 => ?_
 refine seq_any fun K3 hK3 => ?_
 refine one_reg ?_
 refine op_move (ev_base hN rfl s1) ?_
 refine op_lss (ev_hit hN rfl) rfl (fun c6 => ?_) (fun c6 => ?_)
 · -- 6T
  exfalso; omega
 · -- 6F
  refine reg_nil ?_
  refine hK3 _ _ ?_
  refine wp_cond_false (ev_hit hN rfl) ?_
  refine wp_skip ?_
  refine hK2 _ _ ?_
  refine seq_any fun K4 hK4 => ?_
  refine seq_any fun K5 hK5 => ?_
  refine one_reg ?_
  refine op_move (ev_base hN rfl s1) ?_
  refine op_move (ev_base hN rfl s0) ?_
  refine op_cap (c := 0) Try.underlying54 (.inl ⟨(ev_hit hN rfl), rfl⟩) ?_
  refine op_move (ev_base hN rfl s0) ?_
  refine op_len_rd Try.underlying54 (ev_hit hN rfl) (RdC.nil _ 0 0 1) ?_
  refine op_sub (r := 0) (ev_hit hN rfl) (ev_hit hN rfl) (by decide) ?_
  refine op_sub (r := ((n : Nat) : Int)) (ev_hit hN rfl) (ev_hit hN rfl) (by rw [IntKind.wrap_i64]; omega) ?_
  refine op_assign (ev_hit hN rfl) ?_
  refine reg_nil ?_
  refine hK5 _ _ ?_
  refine seq_any fun K6 hK6 => ?_
  refine one_reg ?_
  refine op_move (ev_hit hN rfl) ?_
  refine op_gtr (ev_hit hN rfl) rfl (fun c16 => ?_) (fun c16 => ?_)
  · -- 16T
   refine reg_nil ?_
   refine hK6 _ _ ?_
   refine wp_cond_true (ev_hit hN rfl) ?_
   refine one_reg ?_
   refine op_move (ev_base hN rfl s0) ?_
   refine op_move (ev_base hN rfl s0) ?_
   refine op_cap (c := 0) Try.underlying54 (.inl ⟨(ev_hit hN rfl), rfl⟩) ?_
   refine op_slice_nil slt54 (ev_hit hN rfl) (ev_hit hN rfl) ?_
   refine op_move (ev_hit hN rfl) ?_
   refine op_append_zeros_nil (n := n) (base := w.heap.size) slt54 Try.underlying3 (ev_hit hN rfl) (ev_hit hN rfl) (by omega) (by omega) (by omega) hb.size ?_
   intro v7 w8 cs12 hO10 E9 hk11
   have z_w8 := E9.size
   have hb := below_step0 hb E9 hb.size
   refine op_move (ev_base hN rfl s0) ?_
   refine op_len_rd Try.underlying54 (ev_hit hN rfl) (RdC.nil _ 0 0 1) ?_
   refine op_slice_own_hi (m := 0) slt54 (ev_hit hN rfl) hO10 (ev_hit hN rfl) rfl (by omega) ?_
   intro v13 hO14 ho15
   have hO14 : Own w8 w.heap.size 46 1 v13 0 ([]) := by exact hO14.cast rfl (by simp)
   refine op_assign (ev_hit hN rfl) ?_
   refine reg_nil ?_
   refine hK4 _ _ ?_
   refine seq_any fun K16 hK16 => ?_
   refine one_reg ?_
   refine op_move (ev_hit hN rfl) ?_
   refine op_assign (ev_hit hN rfl) ?_
   refine reg_nil ?_
   refine hK16 _ _ ?_
   refine wp_ret ?_
   refine ret1 rfl hd (ev_hit hN rfl) ⟨_, rfl, ?_⟩
   -- path 6F 16T
   exact ⟨hb, hO14⟩
  · -- 16F
   refine reg_nil ?_
   refine hK6 _ _ ?_
   refine wp_cond_false (ev_hit hN rfl) ?_
   refine wp_skip ?_
   refine hK4 _ _ ?_
   refine seq_any fun K17 hK17 => ?_
   refine one_reg ?_
   refine op_move (ev_base hN rfl s0) ?_
   refine op_assign (ev_hit hN rfl) ?_
   refine reg_nil ?_
   refine hK17 _ _ ?_
   refine wp_ret ?_
   refine ret1 rfl hd (ev_hit hN rfl) ⟨_, rfl, ?_⟩
   -- path 6F 16F
   exact ⟨hb, Own.nil _ _ _ _⟩

theorem concatW_ret (l m : Lb) (v u1 u2 : Value) (w : World) (hz : l.length ≤ 1000000000) (hzm : m.length ≤ 1000000000) (hv : RdC w 0 w.heap.size 1 v 2 [u1, u2]) (hl : RdC w 0 w.heap.size 1 u1 l.length (l.map u16v)) (hm : RdC w 0 w.heap.size 1 u2 m.length (m.map u16v)) : Ret Try.prog 117 #[v] w (fun v' w' => Below w.heap.size w w' ∧ Own w' w.heap.size 46 1 v' (l ++ m).length ((l ++ m).map u16v)) := by
 have hb := Below.refl w.heap.size w
 refine enter (N := 36) Try.func117 rfl rfl (by simp) fun a0 hN hd hA => ?_
 have s0 : a0.tmps.getD 0 undef = v := hA 0 (by simp)
 clear hA
 refine seq_any fun K18 hK18 => ?_
 refine one_reg ?_
 refine op_assign rfl ?_
 refine reg_nil ?_
 refine hK18 _ _ ?_
 refine seq_any fun K19 hK19 => ?_
 refine one_reg ?_
 refine op_assign rfl ?_
 refine reg_nil ?_
 refine hK19 _ _ ?_
 refine seq_any fun K20 hK20 => ?_
 refine seq_any fun K21 hK21 => ?_
 refine one_reg ?_
 refine op_move (ev_base hN rfl s0) ?_
 refine op_len_rd Try.underlying49 (ev_hit hN rfl) hv ?_
 refine op_move rfl ?_
 refine reg_nil ?_
 refine hK21 _ _ ?_
 refine wp_block ?_
 refine wp_loop_rounds 3 ?_
 refine rounds_any fun K22 hK22 => ?_
 refine seq_any fun K23 hK23 => ?_
 refine one_reg ?_
 refine op_bin (v := .bool true) (ev_hit hN rfl) (ev_hit hN rfl) (by rw [binOp_lss]; rfl) ?_
 refine reg_nil ?_
 refine hK23 _ _ ?_
 refine seq_any fun K24 hK24 => ?_
 refine wp_cond_true (ev_hit hN rfl) ?_
 refine wp_skip ?_
 refine hK24 _ _ ?_
 refine seq_any fun K25 hK25 => ?_
 refine wp_block ?_
 refine seq_any fun K26 hK26 => ?_
 refine one_reg ?_
 refine op_index_rd slt49 (ev_hit hN rfl) hv (ev_hit hN rfl) (by omega) (by omega) ?_
 intro b27 o28 h0b27 h1b27 hc29
 refine op_load1 (v := u1) one54 (ev_hit hN rfl) (by have := hc29 0 u1 (by decide) rfl; simpa using this) ?_
 refine op_assign (ev_hit hN rfl) ?_
 refine reg_nil ?_
 refine hK26 _ _ ?_
 refine seq_any fun K30 hK30 => ?_
 refine one_reg ?_
 refine op_move (ev_hit hN rfl) ?_
 refine op_move (ev_hit hN rfl) ?_
 refine op_len_rd Try.underlying54 (ev_hit hN rfl) hl ?_
 refine op_add (ev_hit hN rfl) (ev_hit hN rfl) (add64 (by omega)) ?_
 refine op_assign (ev_hit hN rfl) ?_
 refine reg_nil ?_
 refine hK30 _ _ ?_
 refine seq_any fun K31 hK31 => ?_
 refine one_reg ?_
 refine op_move (ev_hit hN rfl) ?_
 refine op_lss (ev_hit hN rfl) rfl (fun c20 => ?_) (fun c20 => ?_)
 · -- 20T
  exfalso; omega
 · -- 20F
  refine reg_nil ?_
  refine hK31 _ _ ?_
  refine wp_cond_false (ev_hit hN rfl) ?_
  refine wp_skip ?_
  refine hK25 _ _ ?_
  refine one_reg ?_
  refine op_add (r := 1) (ev_hit hN rfl) rfl (by decide) ?_
  refine op_move (ev_hit hN rfl) ?_
  refine reg_nil ?_
  refine hK22 _ _ ?_
  refine rounds_any fun K32 hK32 => ?_
  refine seq_any fun K33 hK33 => ?_
  refine one_reg ?_
  refine op_bin (v := .bool true) (ev_hit hN rfl) (ev_hit hN rfl) (by rw [binOp_lss]; rfl) ?_
  refine reg_nil ?_
  refine hK33 _ _ ?_
  refine seq_any fun K34 hK34 => ?_
  refine wp_cond_true (ev_hit hN rfl) ?_
  refine wp_skip ?_
  refine hK34 _ _ ?_
  refine seq_any fun K35 hK35 => ?_
  refine wp_block ?_
  refine seq_any fun K36 hK36 => ?_
  refine one_reg ?_
  refine op_index_rd slt49 (ev_hit hN rfl) hv (ev_hit hN rfl) (by omega) (by omega) ?_
  intro b37 o38 h0b37 h1b37 hc39
  refine op_load1 (v := u2) one54 (ev_hit hN rfl) (by have := hc39 0 u2 (by decide) rfl; simpa using this) ?_
  refine op_assign (ev_hit hN rfl) ?_
  refine reg_nil ?_
  refine hK36 _ _ ?_
  refine seq_any fun K40 hK40 => ?_
  refine one_reg ?_
  refine op_move (ev_hit hN rfl) ?_
  refine op_move (ev_hit hN rfl) ?_
  refine op_len_rd Try.underlying54 (ev_hit hN rfl) hm ?_
  refine op_add (ev_hit hN rfl) (ev_hit hN rfl) (add64 (by omega)) ?_
  refine op_assign (ev_hit hN rfl) ?_
  refine reg_nil ?_
  refine hK40 _ _ ?_
  refine seq_any fun K41 hK41 => ?_
  refine one_reg ?_
  refine op_move (ev_hit hN rfl) ?_
  refine op_lss (ev_hit hN rfl) rfl (fun c20 => ?_) (fun c20 => ?_)
  · -- 20T
   exfalso; omega
  · -- 20F
   refine reg_nil ?_
   refine hK41 _ _ ?_
   refine wp_cond_false (ev_hit hN rfl) ?_
   refine wp_skip ?_
   refine hK35 _ _ ?_
   refine one_reg ?_
   refine op_add (r := 2) (ev_hit hN rfl) rfl (by decide) ?_
   refine op_move (ev_hit hN rfl) ?_
   refine reg_nil ?_
   refine hK32 _ _ ?_
   refine rounds_any fun K42 hK42 => ?_
   refine seq_any fun K43 hK43 => ?_
   refine one_reg ?_
   refine op_bin (v := .bool false) (ev_hit hN rfl) (ev_hit hN rfl) (by rw [binOp_lss]; rfl) ?_
   refine reg_nil ?_
   refine hK43 _ _ ?_
   refine seq_any fun K44 hK44 => ?_
   refine wp_cond_false (ev_hit hN rfl) ?_
   refine wp_exit (then_exit (then_exit (blk_hit ?_)))
   refine hK20 _ _ ?_
   refine seq_any fun K45 hK45 => ?_
   refine one_reg ?_
   refine op_move (ev_hit hN rfl) ?_
   refine op_fn (vs := [(Value.slice none 0 0), (Value.int .i64 ((0 + ((l.length : Nat) : Int)) + ((m.length : Nat) : Int)))]) ok135 ⟨rfl, ⟨(ev_hit hN rfl), trivial⟩⟩ (growW_ret ((0 + (l.length)) + (m.length)) _ (by omega)) ?_
   rintro v46 w47 ⟨E48, hO46⟩
   have E48 := grown_of_below E48
   have z_w47 := E48.size
   have hv := hv.keep0 E48
   have hl := hl.keep0 E48
   have hm := hm.keep0 E48
   have hb := below_step0 hb E48 hb.size
   have hO46 := hO46.mono (base' := w.heap.size) (by omega)
   refine op_assign (ev_hit hN rfl) ?_
   refine reg_nil ?_
   refine hK45 _ _ ?_
   refine seq_any fun K49 hK49 => ?_
   refine seq_any fun K50 hK50 => ?_
   refine one_reg ?_
   refine op_move (ev_base hN rfl s0) ?_
   refine op_len_rd Try.underlying49 (ev_hit hN rfl) hv ?_
   refine op_move rfl ?_
   refine reg_nil ?_
   refine hK50 _ _ ?_
   refine wp_block ?_
   refine wp_loop_rounds 3 ?_
   refine rounds_any fun K51 hK51 => ?_
   refine seq_any fun K52 hK52 => ?_
   refine one_reg ?_
   refine op_bin (v := .bool true) (ev_hit hN rfl) (ev_hit hN rfl) (by rw [binOp_lss]; rfl) ?_
   refine reg_nil ?_
   refine hK52 _ _ ?_
   refine seq_any fun K53 hK53 => ?_
   refine wp_cond_true (ev_hit hN rfl) ?_
   refine wp_skip ?_
   refine hK53 _ _ ?_
   refine seq_any fun K54 hK54 => ?_
   refine wp_block ?_
   refine seq_any fun K55 hK55 => ?_
   refine one_reg ?_
   refine op_index_rd slt49 (ev_hit hN rfl) hv (ev_hit hN rfl) (by omega) (by omega) ?_
   intro b56 o57 h0b56 h1b56 hc58
   refine op_load1 (v := u1) one54 (ev_hit hN rfl) (by have := hc58 0 u1 (by decide) rfl; simpa using this) ?_
   refine op_assign (ev_hit hN rfl) ?_
   refine reg_nil ?_
   refine hK55 _ _ ?_
   refine one_reg ?_
   refine op_move (ev_hit hN rfl) ?_
   refine op_move (ev_hit hN rfl) ?_
   have hP64 := hO46
   refine op_append slt54 (ev_hit hN rfl) hP64 (ev_hit hN rfl) (Src.ofRd Try.underlying54 (by decide) hl (one_u16 _)) (by unfold maxLen; omega) (by omega) hb.size ?_
   intro v59 w60 hO62 E61 hm63
   have z_w60 := E61.size
   have hv := hv.keepO hP64 E61 (by omega)
   have hl := hl.keepO hP64 E61 (by omega)
   have hm := hm.keepO hP64 E61 (by omega)
   have hb := below_stepO hb hP64 E61 hb.size (by omega)
   have hO62 : Own w60 w.heap.size 46 1 v59 (0 + l.length) ((l).map u16v) := by simpa [u8v, u16v, cellsV] using hO62
   refine op_assign (ev_hit hN rfl) ?_
   refine reg_nil ?_
   refine hK54 _ _ ?_
   refine one_reg ?_
   refine op_add (r := 1) (ev_hit hN rfl) rfl (by decide) ?_
   refine op_move (ev_hit hN rfl) ?_
   refine reg_nil ?_
   refine hK51 _ _ ?_
   refine rounds_any fun K65 hK65 => ?_
   refine seq_any fun K66 hK66 => ?_
   refine one_reg ?_
   refine op_bin (v := .bool true) (ev_hit hN rfl) (ev_hit hN rfl) (by rw [binOp_lss]; rfl) ?_
   refine reg_nil ?_
   refine hK66 _ _ ?_
   refine seq_any fun K67 hK67 => ?_
   refine wp_cond_true (ev_hit hN rfl) ?_
   refine wp_skip ?_
   refine hK67 _ _ ?_
   refine seq_any fun K68 hK68 => ?_
   refine wp_block ?_
   refine seq_any fun K69 hK69 => ?_
   refine one_reg ?_
   refine op_index_rd slt49 (ev_hit hN rfl) hv (ev_hit hN rfl) (by omega) (by omega) ?_
   intro b70 o71 h0b70 h1b70 hc72
   refine op_load1 (v := u2) one54 (ev_hit hN rfl) (by have := hc72 0 u2 (by decide) rfl; simpa using this) ?_
   refine op_assign (ev_hit hN rfl) ?_
   refine reg_nil ?_
   refine hK69 _ _ ?_
   refine one_reg ?_
   refine op_move (ev_hit hN rfl) ?_
   refine op_move (ev_hit hN rfl) ?_
   have hP78 := hO62
   refine op_append slt54 (ev_hit hN rfl) hP78 (ev_hit hN rfl) (Src.ofRd Try.underlying54 (by decide) hm (one_u16 _)) (by unfold maxLen; omega) (by omega) hb.size ?_
   intro v73 w74 hO76 E75 hm77
   have z_w74 := E75.size
   have hv := hv.keepO hP78 E75 (by omega)
   have hl := hl.keepO hP78 E75 (by omega)
   have hm := hm.keepO hP78 E75 (by omega)
   have hb := below_stepO hb hP78 E75 hb.size (by omega)
   have hO76 : Own w74 w.heap.size 46 1 v73 ((0 + l.length) + m.length) (((l ++ m)).map u16v) := by simpa [u8v, u16v, cellsV] using hO76
   refine op_assign (ev_hit hN rfl) ?_
   refine reg_nil ?_
   refine hK68 _ _ ?_
   refine one_reg ?_
   refine op_add (r := 2) (ev_hit hN rfl) rfl (by decide) ?_
   refine op_move (ev_hit hN rfl) ?_
   refine reg_nil ?_
   refine hK65 _ _ ?_
   refine rounds_any fun K79 hK79 => ?_
   refine seq_any fun K80 hK80 => ?_
   refine one_reg ?_
   refine op_bin (v := .bool false) (ev_hit hN rfl) (ev_hit hN rfl) (by rw [binOp_lss]; rfl) ?_
   refine reg_nil ?_
   refine hK80 _ _ ?_
   refine seq_any fun K81 hK81 => ?_
   refine wp_cond_false (ev_hit hN rfl) ?_
   refine wp_exit (then_exit (then_exit (blk_hit ?_)))
   refine hK49 _ _ ?_
   refine seq_any fun K82 hK82 => ?_
   refine one_reg ?_
   refine op_move (ev_hit hN rfl) ?_
   refine op_assign (ev_hit hN rfl) ?_
   refine reg_nil ?_
   refine hK82 _ _ ?_
   refine wp_ret ?_
   refine ret1 rfl hd (ev_hit hN rfl) ⟨_, rfl, ?_⟩
   -- path 20F 20F
   exact ⟨hb, hO76.cast (by simp) (by simp)⟩

theorem joinW_ret (l m : Lb) (v u : Value) (w : World) (hl2 : l.length ≤ 1000000000) (hm2 : m.length ≤ 1000000000) (hl : RdC w 0 w.heap.size 1 v l.length (l.map u16v)) (hm : RdC w 0 w.heap.size 1 u m.length (m.map u16v)) : Ret Try.prog 91 #[v, u] w (fun v' w' => Below w.heap.size w w' ∧ Own w' w.heap.size 46 1 v' (joinL l m).length ((joinL l m).map u16v)) := by
 have hb := Below.refl w.heap.size w
 refine enter (N := 10) Try.func91 rfl rfl (by simp) fun a0 hN hd hA => ?_
 have s0 : a0.tmps.getD 0 undef = v := hA 0 (by simp)
 have s1 : a0.tmps.getD 1 undef = u := hA 1 (by simp)
 clear hA
 refine seq_any fun K83 hK83 => ?_
 refine one_reg ?_
 refine op_assign rfl ?_
 refine reg_nil ?_
 refine hK83 _ _ ?_
 refine seq_any fun K84 hK84 => ?_
 refine one_reg ?_
 refine op_move (ev_base hN rfl s0) ?_
 refine op_move (ev_base hN rfl s1) ?_
 refine op_bslice (e := 54) (pv := [(0, v), (1, u)]) (cs := [v, u]) ⟨rfl, (ev_hit hN rfl), ⟨rfl, (ev_hit hN rfl), trivial⟩⟩ (by obtain ⟨_, _, _, rfl⟩ := hl.sl; obtain ⟨_, _, _, rfl⟩ := hm.sl; kernel_rfl) ?_
 intro w85 b86 lo_b86 hi_b86 hB88 E87
 have z_w85 := E87.size
 have hl := hl.keep0 E87
 have hm := hm.keep0 E87
 have hb := below_step0 hb E87 hb.size
 refine op_fn (vs := [(Value.slice (some ⟨b86, 0, none⟩) 2 2)]) ok117 ⟨(ev_hit hN rfl), trivial⟩ (concatW_ret l m _ _ _ _ (by first | assumption | omega | (simp only [List.length_append, List.length_cons, List.length_nil, List.length_drop, List.length_take]; omega) | (dsimp only; omega) | decide | (simp [keyV, be8_len]; done)) (by first | assumption | omega | (simp only [List.length_append, List.length_cons, List.length_nil, List.length_drop, List.length_take]; omega) | (dsimp only; omega) | decide | (simp [keyV, be8_len]; done)) ((RdC.ofBx (sz := 1) (n := 2) hB88 rfl (by decide)).mono (Nat.zero_le _) (by have := hB88.lt; omega)) (show RdC w85 0 w85.heap.size 1 v l.length (l.map u16v) from by have hh : RdC w85 0 w85.heap.size 1 _ _ _ := (hl.mono (L' := 0) (B' := w85.heap.size) (Nat.zero_le _) (by omega)); first | exact hh | exact hh.cast (by first | omega | (simp; try omega)) (by first | rfl | simp [u16v])) (show RdC w85 0 w85.heap.size 1 u m.length (m.map u16v) from by have hh : RdC w85 0 w85.heap.size 1 _ _ _ := (hm.mono (L' := 0) (B' := w85.heap.size) (Nat.zero_le _) (by omega)); first | exact hh | exact hh.cast (by first | omega | (simp; try omega)) (by first | rfl | simp [u16v]))) ?_
 rintro v89 w90 ⟨E91, hO89⟩
 have E91 := grown_of_below E91
 have z_w90 := E91.size
 have hl := hl.keep0 E91
 have hm := hm.keep0 E91
 have hB88 := hB88.keep0 E91
 have hb := below_step0 hb E91 hb.size
 have hO89 := hO89.mono (base' := w.heap.size) (by omega)
 refine op_fn (vs := [v89]) ok116 ⟨(ev_hit hN rfl), trivial⟩ (sortedW_ret (l ++ m) _ _ (by first | assumption | omega | (simp only [List.length_append, List.length_cons, List.length_nil, List.length_drop, List.length_take]; omega) | (dsimp only; omega) | decide | (simp [keyV, be8_len]; done)) (show RdC w90 0 w90.heap.size 1 v89 (l ++ m).length ((l ++ m).map u16v) from by have hh : RdC w90 0 w90.heap.size 1 _ _ _ := (hO89.rdw.mono (L' := 0) (B' := w90.heap.size) (Nat.zero_le _) (by omega)); first | exact hh | exact hh.cast (by first | omega | (simp; try omega)) (by first | rfl | simp [u16v]))) ?_
 rintro v92 w93 ⟨E94, hO92⟩
 have dj95 : DJ v92 v89 := fun k hk hg => by have q1 := (hO92.lt k hk).1; have q2 := (hO89.lt k hg).2; omega
 have E94 := grown_of_below E94
 have z_w93 := E94.size
 have hl := hl.keep0 E94
 have hm := hm.keep0 E94
 have hB88 := hB88.keep0 E94
 have hO89 := hO89.keep0 E94
 have hb := below_step0 hb E94 hb.size
 have hO92 := hO92.mono (base' := w.heap.size) (by omega)
 refine op_assign (ev_hit hN rfl) ?_
 refine reg_nil ?_
 refine hK84 _ _ ?_
 refine wp_ret ?_
 refine ret1 rfl hd (ev_hit hN rfl) ⟨_, rfl, ?_⟩
 -- path
 exact ⟨hb, hO92⟩

theorem rjoinW_ret (l m : Lb) (v u : Value) (w : World) (hl2 : l.length ≤ 1000000000) (hm2 : m.length ≤ 1000000000) (hl : RdC w 0 w.heap.size 1 v l.length (l.map u16v)) (hm : RdC w 0 w.heap.size 1 u m.length (m.map u16v)) : Ret Try.prog 51 #[v, u] w (fun v' w' => Below w.heap.size w w' ∧ Own w' w.heap.size 46 1 v' (joinL l m).length ((joinL l m).map u16v)) := by
 have hb := Below.refl w.heap.size w
 refine enter (N := 11) Try.func51 rfl rfl (by simp) fun a0 hN hd hA => ?_
 have s0 : a0.tmps.getD 0 undef = v := hA 0 (by simp)
 have s1 : a0.tmps.getD 1 undef = u := hA 1 (by simp)
 clear hA
 refine seq_any fun K96 hK96 => ?_
 refine one_reg ?_
 refine op_assign rfl ?_
 refine reg_nil ?_
 refine hK96 _ _ ?_
 refine seq_any fun K97 hK97 => ?_
 refine one_reg ?_
 refine op_bslice (e := 46) (pv := []) (cs := []) trivial (by kernel_rfl) ?_
 intro w98 b99 lo_b99 hi_b99 hB101 E100
 have z_w98 := E100.size
 have hl := hl.keep0 E100
 have hm := hm.keep0 E100
 have hb := below_step0 hb E100 hb.size
 refine op_move (ev_base hN rfl s0) ?_
 have hP107 := (Own.ofBx (base := w.heap.size) (sz := 1) (n := 0) hB101 rfl (by decide) (by omega))
 refine op_append slt45 (ev_hit hN rfl) hP107 (ev_hit hN rfl) (Src.ofRd Try.underlying54 (by decide) hl (one_u16 _)) (by unfold maxLen; omega) (by omega) hb.size ?_
 intro v102 w103 hO105 E104 hm106
 have z_w103 := E104.size
 have hl := hl.keepO hP107 E104 (by omega)
 have hm := hm.keepO hP107 E104 (by omega)
 have hb := below_stepO hb hP107 E104 hb.size (by omega)
 have hO105 : Own w103 w.heap.size 46 1 v102 (0 + l.length) ((l).map u16v) := by simpa [u8v, u16v, cellsV] using hO105
 refine op_move (ev_base hN rfl s1) ?_
 have hP113 := hO105
 refine op_append slt45 (ev_hit hN rfl) hP113 (ev_hit hN rfl) (Src.ofRd Try.underlying54 (by decide) hm (one_u16 _)) (by unfold maxLen; omega) (by omega) hb.size ?_
 intro v108 w109 hO111 E110 hm112
 have z_w109 := E110.size
 have hl := hl.keepO hP113 E110 (by omega)
 have hm := hm.keepO hP113 E110 (by omega)
 have hb := below_stepO hb hP113 E110 hb.size (by omega)
 have hO111 : Own w109 w.heap.size 46 1 v108 ((0 + l.length) + m.length) (((l ++ m)).map u16v) := by simpa [u8v, u16v, cellsV] using hO111
 refine op_fn (vs := [v108]) ok92 ⟨(ev_hit hN rfl), trivial⟩ (rallW_ret (l ++ m) _ _ (by first | assumption | omega | (simp only [List.length_append, List.length_cons, List.length_nil, List.length_drop, List.length_take]; omega) | (dsimp only; omega) | decide | (simp [keyV, be8_len]; done)) (show RdC w109 0 w109.heap.size 1 v108 (l ++ m).length ((l ++ m).map u16v) from by have hh : RdC w109 0 w109.heap.size 1 _ _ _ := (hO111.rdw.mono (L' := 0) (B' := w109.heap.size) (Nat.zero_le _) (by omega)); first | exact hh | exact hh.cast (by first | omega | (simp; try omega)) (by first | rfl | simp [u16v]))) ?_
 rintro v114 w115 ⟨E116, hO114⟩
 have dj117 : DJ v114 v108 := fun k hk hg => by have q1 := (hO114.lt k hk).1; have q2 := (hO111.lt k hg).2; omega
 have E116 := grown_of_below E116
 have z_w115 := E116.size
 have hl := hl.keep0 E116
 have hm := hm.keep0 E116
 have hO111 := hO111.keep0 E116
 have hb := below_step0 hb E116 hb.size
 have hO114 := hO114.mono (base' := w.heap.size) (by omega)
 refine op_assign (ev_hit hN rfl) ?_
 refine reg_nil ?_
 refine hK97 _ _ ?_
 refine wp_ret ?_
 refine ret1 rfl hd (ev_hit hN rfl) ⟨_, rfl, ?_⟩
 -- path
 exact ⟨hb, hO114⟩

end Go.Proofs.Ytmhdbphpmgjpcaa

/- Walks, written by a program: what each function of the translation hands back. -/
namespace Go.Proofs.Ytmhdbphpmgjpcaa
open Go.Gx Go.RowKit
attribute [local irreducible] wpList wpStill Code.wp Calls

theorem normW_ret (l : Lb) (v : Value) (w : World) (hz : l.length ≤ 100000000) (hl : RdC w 0 w.heap.size 1 v l.length (l.map u16v)) : Ret Try.prog 90 #[v] w (fun v' w' => Below w.heap.size w w' ∧ ∃ u, v' = .tuple #[u, .int .i64 (normE l)] ∧ Own w' w.heap.size 46 1 u (normL l).length ((normL l).map u16v)) := by
 have hb := Below.refl w.heap.size w
 refine enter (N := 11) Try.func90 rfl rfl (by simp) fun a0 hN hd hA => ?_
 have s0 : a0.tmps.getD 0 undef = v := hA 0 (by simp)
 clear hA
 refine seq_any fun K1 hK1 => ?_
 refine one_reg ?_
 refine op_assign rfl ?_
 refine op_assign rfl ?_
 refine reg_nil ?_
 refine hK1 _ _ ?_
 refine seq_any fun K2 hK2 => ?_
 refine one_reg ?_
 refine op_move (ev_base hN rfl s0) ?_
 refine op_fn (vs := [v]) ok116 ⟨(ev_hit hN rfl), trivial⟩ (sortedW_ret l _ _ (by first | assumption | omega | (simp only [List.length_append, List.length_cons, List.length_nil, List.length_drop, List.length_take]; omega) | (dsimp only; omega) | decide | (simp [keyV, be8_len]; done)) (show RdC w 0 w.heap.size 1 v l.length (l.map u16v) from by have hh : RdC w 0 w.heap.size 1 _ _ _ := (hl.mono (L' := 0) (B' := w.heap.size) (Nat.zero_le _) (by omega)); first | exact hh | exact hh.cast (by first | omega | (simp; try omega)) (by first | rfl | simp [u16v]))) ?_
 rintro v3 w4 ⟨E5, hO3⟩
 have E5 := grown_of_below E5
 have z_w4 := E5.size
 have hl := hl.keep0 E5
 have hb := below_step0 hb E5 hb.size
 have hO3 := hO3.mono (base' := w.heap.size) (by omega)
 refine op_assign (ev_hit hN rfl) ?_
 refine reg_nil ?_
 refine hK2 _ _ ?_
 refine seq_any fun K6 hK6 => ?_
 refine seq_any fun K7 hK7 => ?_
 refine one_reg ?_
 refine op_move (ev_hit hN rfl) ?_
 refine op_len_rd Try.underlying45 (ev_hit hN rfl) hO3.rdw ?_
 refine op_gtr (ev_hit hN rfl) rfl (fun c9 => ?_) (fun c9 => ?_)
 · -- 9T
  refine reg_nil ?_
  refine hK7 _ _ ?_
  refine wp_cond_true (ev_hit hN rfl) ?_
  refine seq_any fun K8 hK8 => ?_
  refine one_reg ?_
  refine op_assign rfl ?_
  refine op_assign rfl ?_
  refine reg_nil ?_
  refine hK8 _ _ ?_
  refine wp_ret (then_ret ( ?_))
  refine ret2 rfl hd (ev_hit hN rfl) (ev_hit hN rfl) ⟨_, rfl, ?_⟩
  -- path 9T
  have h8 : 8 < (nrm l).length := by omega
  rw [normE_bad h8, normL_bad h8]
  exact ⟨hb, _, rfl, Own.nil _ _ _ _⟩
 · -- 9F
  refine reg_nil ?_
  refine hK7 _ _ ?_
  refine wp_cond_false (ev_hit hN rfl) ?_
  refine wp_skip ?_
  refine hK6 _ _ ?_
  refine seq_any fun K9 hK9 => ?_
  refine one_reg ?_
  refine op_move (ev_hit hN rfl) ?_
  refine op_assign (ev_hit hN rfl) ?_
  refine op_assign rfl ?_
  refine reg_nil ?_
  refine hK9 _ _ ?_
  refine wp_ret ?_
  refine ret2 rfl hd (ev_hit hN rfl) (ev_hit hN rfl) ⟨_, rfl, ?_⟩
  -- path 9F
  have h8 : ¬ 8 < (nrm l).length := by omega
  rw [normE_ok h8, normL_ok h8]
  exact ⟨hb, _, rfl, hO3⟩

theorem rnormW_ret (l : Lb) (v : Value) (w : World) (hz : l.length ≤ 100000000) (hl : RdC w 0 w.heap.size 1 v l.length (l.map u16v)) : Ret Try.prog 45 #[v] w (fun v' w' => Below w.heap.size w w' ∧ ∃ u, v' = .tuple #[u, .int .i64 (normE l)] ∧ Own w' w.heap.size 46 1 u (normL l).length ((normL l).map u16v)) := by
 have hb := Below.refl w.heap.size w
 refine enter (N := 11) Try.func45 rfl rfl (by simp) fun a0 hN hd hA => ?_
 have s0 : a0.tmps.getD 0 undef = v := hA 0 (by simp)
 clear hA
 refine seq_any fun K10 hK10 => ?_
 refine one_reg ?_
 refine op_assign rfl ?_
 refine op_assign rfl ?_
 refine reg_nil ?_
 refine hK10 _ _ ?_
 refine seq_any fun K11 hK11 => ?_
 refine one_reg ?_
 refine op_move (ev_base hN rfl s0) ?_
 refine op_fn (vs := [v]) ok92 ⟨(ev_hit hN rfl), trivial⟩ (rallW_ret l _ _ (by first | assumption | omega | (simp only [List.length_append, List.length_cons, List.length_nil, List.length_drop, List.length_take]; omega) | (dsimp only; omega) | decide | (simp [keyV, be8_len]; done)) (show RdC w 0 w.heap.size 1 v l.length (l.map u16v) from by have hh : RdC w 0 w.heap.size 1 _ _ _ := (hl.mono (L' := 0) (B' := w.heap.size) (Nat.zero_le _) (by omega)); first | exact hh | exact hh.cast (by first | omega | (simp; try omega)) (by first | rfl | simp [u16v]))) ?_
 rintro v12 w13 ⟨E14, hO12⟩
 have E14 := grown_of_below E14
 have z_w13 := E14.size
 have hl := hl.keep0 E14
 have hb := below_step0 hb E14 hb.size
 have hO12 := hO12.mono (base' := w.heap.size) (by omega)
 refine op_assign (ev_hit hN rfl) ?_
 refine reg_nil ?_
 refine hK11 _ _ ?_
 refine seq_any fun K15 hK15 => ?_
 refine seq_any fun K16 hK16 => ?_
 refine one_reg ?_
 refine op_move (ev_hit hN rfl) ?_
 refine op_len_rd Try.underlying54 (ev_hit hN rfl) hO12.rdw ?_
 refine op_gtr (ev_hit hN rfl) rfl (fun c9 => ?_) (fun c9 => ?_)
 · -- 9T
  refine reg_nil ?_
  refine hK16 _ _ ?_
  refine wp_cond_true (ev_hit hN rfl) ?_
  refine seq_any fun K17 hK17 => ?_
  refine one_reg ?_
  refine op_assign rfl ?_
  refine op_assign rfl ?_
  refine reg_nil ?_
  refine hK17 _ _ ?_
  refine wp_ret (then_ret ( ?_))
  refine ret2 rfl hd (ev_hit hN rfl) (ev_hit hN rfl) ⟨_, rfl, ?_⟩
  -- path 9T
  have h8 : 8 < (nrm l).length := by omega
  rw [normE_bad h8, normL_bad h8]
  exact ⟨hb, _, rfl, Own.nil _ _ _ _⟩
 · -- 9F
  refine reg_nil ?_
  refine hK16 _ _ ?_
  refine wp_cond_false (ev_hit hN rfl) ?_
  refine wp_skip ?_
  refine hK15 _ _ ?_
  refine seq_any fun K18 hK18 => ?_
  refine one_reg ?_
  refine op_move (ev_hit hN rfl) ?_
  refine op_assign (ev_hit hN rfl) ?_
  refine op_assign rfl ?_
  refine reg_nil ?_
  refine hK18 _ _ ?_
  refine wp_ret ?_
  refine ret2 rfl hd (ev_hit hN rfl) (ev_hit hN rfl) ⟨_, rfl, ?_⟩
  -- path 9F
  have h8 : ¬ 8 < (nrm l).length := by omega
  rw [normE_ok h8, normL_ok h8]
  exact ⟨hb, _, rfl, hO12⟩

theorem labMay_ret (l : Lb) (v : Value) (w : World) (hz : l.length ≤ 1000000000000) (hl : RdC w 0 w.heap.size 1 v l.length (l.map u16v)) : Ret Try.prog 76 #[v] w (fun v' w' => Below w.heap.size w w' ∧ v' = .bool (mayL l)) := by
 have hb := Below.refl w.heap.size w
 refine enter (N := 10) Try.func76 rfl rfl (by simp) fun a0 hN hd hA => ?_
 have s0 : a0.tmps.getD 0 undef = v := hA 0 (by simp)
 clear hA
 refine seq_any fun K19 hK19 => ?_
 refine one_reg ?_
 refine op_assign rfl ?_
 refine reg_nil ?_
 refine hK19 _ _ ?_
 refine seq_any fun K20 hK20 => ?_
 refine one_reg ?_
 refine op_move (ev_base hN rfl s0) ?_
 refine op_len_rd Try.underlying54 (ev_hit hN rfl) hl ?_
 refine op_leq (ev_hit hN rfl) rfl (fun c5 => ?_) (fun c5 => ?_)
 · -- 5T
  refine op_move (ev_hit hN rfl) ?_
  refine g_true (j := 3) (dj := 6) (b := true) rfl rfl rfl (ev_hit hN rfl) ?_
  refine op_move (ev_base hN rfl s0) ?_
  refine g_true (j := 3) (dj := 6) (b := true) rfl rfl rfl (ev_hit hN rfl) ?_
  refine op_fn (vs := [v]) ok115 ⟨(ev_hit hN rfl), trivial⟩ (rises_ret l _ _ (by first | assumption | omega | (simp only [List.length_append, List.length_cons, List.length_nil, List.length_drop, List.length_take]; omega) | (dsimp only; omega) | decide | (simp [keyV, be8_len]; done)) (show RdC w 0 w.heap.size 1 v l.length (l.map u16v) from by have hh : RdC w 0 w.heap.size 1 _ _ _ := (hl.mono (L' := 0) (B' := w.heap.size) (Nat.zero_le _) (by omega)); first | exact hh | exact hh.cast (by first | omega | (simp; try omega)) (by first | rfl | simp [u16v]))) ?_
  rintro _ w21 ⟨E22, rfl⟩
  have E22 := grown_of_below E22
  have z_w21 := E22.size
  have hl := hl.keep0 E22
  have hb := below_step0 hb E22 hb.size
  refine op_pick_t (ev_hit hN rfl) (ev_hit hN rfl) ?_
  refine op_assign (ev_hit hN rfl) ?_
  refine reg_nil ?_
  refine hK20 _ _ ?_
  refine wp_ret ?_
  refine ret1 rfl hd (ev_hit hN rfl) ⟨_, rfl, ?_⟩
  -- path 5T
  exact ⟨hb, congrArg Value.bool (by unfold mayL; first | (rw [decide_eq_true (show l.length ≤ 8 by omega), Bool.and_true]; done) | (rw [decide_eq_false (show ¬ l.length ≤ 8 by omega), Bool.and_false]))⟩
 · -- 5F
  refine op_move (ev_hit hN rfl) ?_
  refine g_false (j := 3) (dj := 6) (b := true) rfl rfl rfl (ev_hit hN rfl) rfl rfl ?_
  refine g_false (j := 3) (dj := 6) (b := true) rfl rfl rfl (ev_hit hN rfl) rfl rfl ?_
  refine op_pick_f (ev_hit hN rfl) rfl ?_
  refine op_assign (ev_hit hN rfl) ?_
  refine reg_nil ?_
  refine hK20 _ _ ?_
  refine wp_ret ?_
  refine ret1 rfl hd (ev_hit hN rfl) ⟨_, rfl, ?_⟩
  -- path 5F
  exact ⟨hb, congrArg Value.bool (by unfold mayL; first | (rw [decide_eq_true (show l.length ≤ 8 by omega), Bool.and_true]; done) | (rw [decide_eq_false (show ¬ l.length ≤ 8 by omega), Bool.and_false]))⟩

end Go.Proofs.Ytmhdbphpmgjpcaa

/- Walks, written by a program: what each function of the translation hands back. -/
namespace Go.Proofs.Ytmhdbphpmgjpcaa
open Go.Gx Go.RowKit
attribute [local irreducible] wpList wpStill Code.wp Calls

theorem labPut_ret (bl : List UInt8) (l : Lb) (v u : Value) (w : World) (hbl : bl.length ≤ 1000000000) (hl : l.length ≤ 1000000000) (hv : RdC w 0 w.heap.size 1 v bl.length (bl.map u8v)) (h : RdC w 0 w.heap.size 1 u l.length (l.map u16v)) : Ret Try.prog 79 #[v, u] w (fun v' w' => Below w.heap.size w w' ∧ Own w' w.heap.size 5 1 v' (bl.length + (putL l).length) ((bl ++ putL l).map u8v)) := by
 have hb := Below.refl w.heap.size w
 refine enter (N := 32) Try.func79 rfl rfl (by simp) fun a0 hN hd hA => ?_
 have s0 : a0.tmps.getD 0 undef = v := hA 0 (by simp)
 have s1 : a0.tmps.getD 1 undef = u := hA 1 (by simp)
 clear hA
 refine seq_any fun K1 hK1 => ?_
 refine one_reg ?_
 refine op_assign rfl ?_
 refine reg_nil ?_
 refine hK1 _ _ ?_
 refine seq_any fun K2 hK2 => ?_
 refine one_reg ?_
 refine op_bslice (e := 5) (pv := []) (cs := []) trivial (by kernel_rfl) ?_
 intro w3 b4 lo_b4 hi_b4 hB6 E5
 have z_w3 := E5.size
 have hv := hv.keep0 E5
 have h := h.keep0 E5
 have hb := below_step0 hb E5 hb.size
 refine op_move (ev_base hN rfl s0) ?_
 have hP12 := (Own.ofBx (base := w.heap.size) (sz := 1) (n := 0) hB6 rfl (by decide) (by omega))
 refine op_append slt22 (ev_hit hN rfl) hP12 (ev_hit hN rfl) (Src.ofRd Try.underlying22 (by decide) hv (by simp [Value.oneCell', u8v])) (by unfold maxLen; omega) (by omega) hb.size ?_
 intro v7 w8 hO10 E9 hm11
 have z_w8 := E9.size
 have hv := hv.keepO hP12 E9 (by omega)
 have h := h.keepO hP12 E9 (by omega)
 have hb := below_stepO hb hP12 E9 hb.size (by omega)
 have hO10 : Own w8 w.heap.size 5 1 v7 (0 + bl.length) ((bl).map u8v) := by simpa [u8v, u16v, cellsV] using hO10
 refine op_move (ev_base hN rfl s1) ?_
 refine op_len_rd Try.underlying54 (ev_hit hN rfl) h ?_
 refine op_conv (r := ((UInt8.ofNat l.length).toNat : Int)) (ev_hit hN rfl) us3 Try.underlying5 conv_u8 ?_
 refine op_bslice (e := 5) (pv := [(0, (Value.int .u8 ((UInt8.ofNat l.length).toNat : Int)))]) (cs := [(Value.int .u8 ((UInt8.ofNat l.length).toNat : Int))]) ⟨rfl, (ev_hit hN rfl), trivial⟩ (by kernel_rfl) ?_
 intro w13 b14 lo_b14 hi_b14 hB16 E15
 have ne_b14_v7 : v7.ownBlock ≠ some b14 := fun hh => by have := (hO10.lt _ hh).2; omega
 have z_w13 := E15.size
 have hv := hv.keep0 E15
 have h := h.keep0 E15
 have hO10 := hO10.keep0 E15
 have hb := below_step0 hb E15 hb.size
 have hP22 := hO10
 refine op_append slt22 (ev_hit hN rfl) hP22 (ev_hit hN rfl) (Src.ofRd Try.underlying22 (by decide) (RdC.ofBx (sz := 1) (n := 1) hB16 rfl (by decide)) (by simp [Value.oneCell', u8v])) (by unfold maxLen; omega) (by omega) hb.size ?_
 intro v17 w18 hO20 E19 hm21
 have z_w18 := E19.size
 have hv := hv.keepO hP22 E19 (by omega)
 have h := h.keepO hP22 E19 (by omega)
 have hB16 := hB16.keep E19 (fun hh => ne_b14_v7 hh.symm)
 have hb := below_stepO hb hP22 E19 hb.size (by omega)
 have hO20 : Own w18 w.heap.size 5 1 v17 ((0 + bl.length) + 1) (((bl ++ [(UInt8.ofNat l.length)])).map u8v) := by simpa [u8v, u16v, cellsV] using hO20
 have ne_b14_v17 : v17.ownBlock ≠ some b14 := ne_step (w1 := w13) ⟨E19, hm21⟩ (by omega) ne_b14_v7
 refine op_assign (ev_hit hN rfl) ?_
 refine reg_nil ?_
 refine hK2 _ _ ?_
 refine seq_any fun K23 hK23 => ?_
 refine seq_any fun K24 hK24 => ?_
 refine one_reg ?_
 refine op_move (ev_base hN rfl s1) ?_
 refine op_len_rd Try.underlying54 (ev_hit hN rfl) h ?_
 refine op_move rfl ?_
 refine reg_nil ?_
 refine hK24 _ _ ?_
 refine wp_block ?_
 refine loop_m (fun mz_ az_ w' => ∃ (i : Nat) (y : Value), mz_ = l.length - i ∧ (az_.tmps.getD 4 undef = (Value.slice none 0 0)) ∧ (az_.tmps.getD 16 undef = u) ∧ (az_.tmps.getD 17 undef = (Value.int .i64 ((l.length : Nat) : Int))) ∧ (az_.tmps.getD 18 undef = (Value.int .i64 ((i : Nat) : Int))) ∧ (az_.tmps.getD 5 undef = y) ∧ (i ≤ l.length) ∧ (Below w.heap.size w w') ∧ (w18.heap.size ≤ w'.heap.size) ∧ (RdC w' 0 w.heap.size 1 v bl.length (bl.map u8v)) ∧ (RdC w' 0 w.heap.size 1 u l.length (l.map u16v)) ∧ (Own w' w.heap.size 5 1 y (bl.length + 1 + 2 * i) ((bl ++ UInt8.ofNat l.length :: (l.take i).flatMap be2).map u8v))) _ hN hd ⟨0, _, rfl, (sl_hit hN rfl), (sl_hit hN rfl), (sl_hit hN rfl), (sl_hit hN rfl), (sl_hit hN rfl), Nat.zero_le _, hb, (Nat.le_refl _), hv, h, (hO20.cast (by first | omega | (simp; try omega)) (by simp))⟩ ?_
 rintro _ a25 w25 hN25 hd25 ⟨i, y, rfl, s25_4, s25_16, s25_17, s25_18, s25_5, hi, hb, zl_w25, hv, h, hO26⟩
 have z_w25 := hb.size
 refine seq_any fun K27 hK27 => ?_
 refine one_reg ?_
 refine op_lss (ev_base hN25 rfl s25_18) (ev_base hN25 rfl s25_17) (fun c19 => ?_) (fun c19 => ?_)
 · -- 19T
  refine reg_nil ?_
  refine hK27 _ _ ?_
  refine seq_any fun K28 hK28 => ?_
  refine wp_cond_true (ev_hit hN25 rfl) ?_
  refine wp_skip ?_
  refine hK28 _ _ ?_
  refine seq_any fun K29 hK29 => ?_
  refine wp_block ?_
  refine seq_any fun K30 hK30 => ?_
  refine one_reg ?_
  refine op_index_rd slt54 (ev_base hN25 rfl s25_16) h (ev_base hN25 rfl s25_18) (by omega) (by omega) ?_
  intro b31 o32 h0b31 h1b31 hc33
  refine op_load1 (v := (Value.int .u16 ((l.getD i 0).toNat : Int))) one46 (ev_hit hN25 rfl) (by have := hc33 0 (Value.int .u16 ((l.getD i 0).toNat : Int)) (by decide) (el_u16 (i := i) (by omega) (by omega)); simpa using this) ?_
  refine op_assign (ev_hit hN25 rfl) ?_
  refine reg_nil ?_
  refine hK30 _ _ ?_
  refine one_reg ?_
  refine op_move (ev_base hN25 rfl s25_5) ?_
  refine op_move (ev_hit hN25 rfl) ?_
  refine op_shr (r := (((l.getD i 0).toNat / 256 : Nat) : Int)) (ev_hit hN25 rfl) rfl (by decide) shr16 ?_
  refine op_conv (r := ((UInt8.ofNat ((l.getD i 0).toNat / 256)).toNat : Int)) (ev_hit hN25 rfl) us46 Try.underlying5 conv_u8 ?_
  refine op_move (ev_hit hN25 rfl) ?_
  refine op_conv (r := ((UInt8.ofNat (l.getD i 0).toNat).toNat : Int)) (ev_hit hN25 rfl) us46 Try.underlying5 conv_u8 ?_
  refine op_bslice (e := 5) (pv := [(0, (Value.int .u8 ((UInt8.ofNat ((l.getD i 0).toNat / 256)).toNat : Int))), (1, (Value.int .u8 ((UInt8.ofNat (l.getD i 0).toNat).toNat : Int)))]) (cs := [(Value.int .u8 ((UInt8.ofNat ((l.getD i 0).toNat / 256)).toNat : Int)), (Value.int .u8 ((UInt8.ofNat (l.getD i 0).toNat).toNat : Int))]) ⟨rfl, (ev_hit hN25 rfl), ⟨rfl, (ev_hit hN25 rfl), trivial⟩⟩ (by kernel_rfl) ?_
  intro w34 b35 lo_b35 hi_b35 hB37 E36
  have ne_b35_y : y.ownBlock ≠ some b35 := fun hh => by have := (hO26.lt _ hh).2; omega
  have z_w34 := E36.size
  have hv := hv.keep0 E36
  have h := h.keep0 E36
  have hO26 := hO26.keep0 E36
  have hb := below_step0 hb E36 hb.size
  have hP43 := hO26
  refine op_append slt22 (ev_hit hN25 rfl) hP43 (ev_hit hN25 rfl) (Src.ofRd Try.underlying22 (by decide) (RdC.ofBx (sz := 1) (n := 2) hB37 rfl (by decide)) (by simp [Value.oneCell', u8v])) (by unfold maxLen; omega) (by omega) hb.size ?_
  intro v38 w39 hO41 E40 hm42
  have z_w39 := E40.size
  have hv := hv.keepO hP43 E40 (by omega)
  have h := h.keepO hP43 E40 (by omega)
  have hB37 := hB37.keep E40 (fun hh => ne_b35_y hh.symm)
  have hb := below_stepO hb hP43 E40 hb.size (by omega)
  have hO41 : Own w39 w.heap.size 5 1 v38 ((bl.length + 1 + 2 * i) + 2) ((((bl ++ UInt8.ofNat l.length :: (l.take i).flatMap be2) ++ [(UInt8.ofNat ((l.getD i 0).toNat / 256)), (UInt8.ofNat (l.getD i 0).toNat)])).map u8v) := by simpa [u8v, u16v, cellsV] using hO41
  have ne_b35_v38 : v38.ownBlock ≠ some b35 := ne_step (w1 := w34) ⟨E40, hm42⟩ (by omega) ne_b35_y
  refine op_assign (ev_hit hN25 rfl) ?_
  refine reg_nil ?_
  refine hK29 _ _ ?_
  refine one_reg ?_
  refine op_add (ev_base hN25 rfl s25_18) rfl (add64 (by omega)) ?_
  refine op_move (ev_hit hN25 rfl) ?_
  refine reg_nil ?_
  -- round 19T
  exact loop_next _ hN25 hd25 ⟨i + 1, _, rfl, (sl_base hN25 rfl s25_4), (sl_base hN25 rfl s25_16), (sl_base hN25 rfl s25_17), (sl_hit hN25 rfl).trans (congrArg (Value.int .i64) (by omega)), (sl_hit hN25 rfl), (by omega), hb, (by omega), hv, h, (hO41.cast (by first | omega | (simp; try omega)) (by rw [snoc (d := 0) (l := l) (i := i) (by omega), List.flatMap_append]; simp [be2]))⟩ (by omega)
 · -- 19F
  refine reg_nil ?_
  refine hK27 _ _ ?_
  refine seq_any fun K44 hK44 => ?_
  refine wp_cond_false (ev_hit hN25 rfl) ?_
  refine wp_exit (then_exit (then_exit (blk_hit ?_)))
  refine hK23 _ _ ?_
  refine seq_any fun K45 hK45 => ?_
  refine one_reg ?_
  refine op_move (ev_base hN25 rfl s25_5) ?_
  refine op_assign (ev_hit hN25 rfl) ?_
  refine reg_nil ?_
  refine hK45 _ _ ?_
  refine wp_ret ?_
  refine ret1 rfl hd25 (ev_hit hN25 rfl) ⟨_, rfl, ?_⟩
  -- path 19F
  have ei : l.take i = l := List.take_of_length_le (by omega)
  have hq := hO26
  rw [ei] at hq
  exact ⟨hb, hq.cast (by rw [putL_len]; omega) (by rw [putL])⟩

end Go.Proofs.Ytmhdbphpmgjpcaa
