/- Walks, written by a program: what each function of the translation hands back. -/
import Derived.Shelf.SlIterI.Nil
import Derived.Shelf.SortM.Plain
import Derived.Shelf.SortM.SortNone
import Derived.Lib.SlKeysI
import Derived.Test.YtmhdbphpmgjpcaaB4
set_option linter.unusedVariables false
set_option linter.unusedSimpArgs false

namespace Go.Proofs.Ytmhdbphpmgjpcaa
open Go.Gx Go.RowKit
attribute [local irreducible] wpList wpStill Code.wp Calls

theorem normW_ret (l : Lb) (v : Value) (w : World) (hz : l.length ≤ 100000000) (hl : RdC w 0 w.heap.size 1 v l.length (l.map u16v)) : Ret Try.prog 90 #[v] w (fun v' w' => Below w.heap.size w w' ∧ ∃ u, v' = .tuple #[u, .int .i64 (normE l)] ∧ Own w' w.heap.size 46 1 u (normL l).length ((normL l).map u16v)) := by
 have hb := Below.refl w.heap.size w
 refine enter (N := 11) Try.func90 rfl rfl (by simp) fun a hN hd hA => ?_
 have b : a.tmps.getD 0 undef = v := hA 0 (by simp)
 clear hA
 refine zF fun _ a => zH (zD rfl ?_)
 refine zD rfl (zB (a _ _ (zF fun _ a => zH (zG (zC hN rfl b) (zj ok116 (sortedW_ret l _ _ (by first | assumption | omega | (simp only [List.length_append, List.length_cons, List.length_nil, List.length_drop, List.length_take]; omega) | (dsimp only; omega) | decide | (simp [keyV, be8_len]; done)) (show RdC w 0 w.heap.size 1 v l.length (l.map u16v) from by have hh : RdC w 0 w.heap.size 1 _ _ _ := (hl.mono (L' := 0) (B' := w.heap.size) (Nat.zero_le _) zx); first | exact hh | exact hh.cast (by first | omega | (simp; try omega)) (by first | rfl | simp [u16v]))) ⟨(zA hN rfl), trivial⟩ ?_)))))
 rintro e d ⟨b, c⟩
 have b := zQ b
 obtain ⟨hb, _⟩ := yE hb b
 have hl := hl.keep0 b
 have c := c.mono (base' := w.heap.size) zx
 refine zD (zA hN rfl) (zB (a _ _ (zF fun _ a => zF fun _ b => zH (zG (zA hN rfl) (op_len_rd Try.underlying45 (zA hN rfl) c.rdw (op_gtr (zA hN rfl) rfl (fun d => ?_) (fun d => ?_)))))))
 ·
  refine zB (b _ _ (wp_cond_true (zA hN rfl) (zF fun _ b => zH (zD rfl (zD rfl (zB (b _ _ (wp_ret (zO ( (ret2 rfl hd (zA hN rfl) (zA hN rfl) ⟨_, rfl, ?_⟩)))))))))))
  have d : 8 < (nrm l).length := by omega
  rw [normE_bad d, normL_bad d]
  exact ⟨hb, _, rfl, Own.nil _ _ _ _⟩
 refine zB (b _ _ (wp_cond_false (zA hN rfl) (wp_skip (a _ _ (zF fun _ a => zH (zG (zA hN rfl) (zD (zA hN rfl) (zD rfl (zB (a _ _ (wp_ret (ret2 rfl hd (zA hN rfl) (zA hN rfl) ⟨_, rfl, ?_⟩))))))))))))
 have d : ¬ 8 < (nrm l).length := by omega
 rw [normE_ok d, normL_ok d]
 exact ⟨hb, _, rfl, c⟩

theorem rnormW_ret (l : Lb) (v : Value) (w : World) (hz : l.length ≤ 100000000) (hl : RdC w 0 w.heap.size 1 v l.length (l.map u16v)) : Ret Try.prog 45 #[v] w (fun v' w' => Below w.heap.size w w' ∧ ∃ u, v' = .tuple #[u, .int .i64 (normE l)] ∧ Own w' w.heap.size 46 1 u (normL l).length ((normL l).map u16v)) := by
 have hb := Below.refl w.heap.size w
 refine enter (N := 11) Try.func45 rfl rfl (by simp) fun a hN hd hA => ?_
 have b : a.tmps.getD 0 undef = v := hA 0 (by simp)
 clear hA
 refine zF fun _ a => zH (zD rfl ?_)
 refine zD rfl (zB (a _ _ (zF fun _ a => zH (zG (zC hN rfl b) (zj ok92 (rallW_ret l _ _ (by first | assumption | omega | (simp only [List.length_append, List.length_cons, List.length_nil, List.length_drop, List.length_take]; omega) | (dsimp only; omega) | decide | (simp [keyV, be8_len]; done)) (show RdC w 0 w.heap.size 1 v l.length (l.map u16v) from by have hh : RdC w 0 w.heap.size 1 _ _ _ := (hl.mono (L' := 0) (B' := w.heap.size) (Nat.zero_le _) zx); first | exact hh | exact hh.cast (by first | omega | (simp; try omega)) (by first | rfl | simp [u16v]))) ⟨(zA hN rfl), trivial⟩ ?_)))))
 rintro d e ⟨b, c⟩
 have b := zQ b
 obtain ⟨hb, _⟩ := yE hb b
 have hl := hl.keep0 b
 have c := c.mono (base' := w.heap.size) zx
 refine zD (zA hN rfl) (zB (a _ _ (zF fun _ a => zF fun _ b => zH (zG (zA hN rfl) (op_len_rd Try.underlying54 (zA hN rfl) c.rdw (op_gtr (zA hN rfl) rfl (fun d => ?_) (fun d => ?_)))))))
 ·
  refine zB (b _ _ (wp_cond_true (zA hN rfl) (zF fun _ b => zH (zD rfl (zD rfl (zB (b _ _ (wp_ret (zO ( (ret2 rfl hd (zA hN rfl) (zA hN rfl) ⟨_, rfl, ?_⟩)))))))))))
  have d : 8 < (nrm l).length := by omega
  rw [normE_bad d, normL_bad d]
  exact ⟨hb, _, rfl, Own.nil _ _ _ _⟩
 refine zB (b _ _ (wp_cond_false (zA hN rfl) (wp_skip (a _ _ (zF fun _ a => zH (zG (zA hN rfl) (zD (zA hN rfl) (zD rfl (zB (a _ _ (wp_ret (ret2 rfl hd (zA hN rfl) (zA hN rfl) ⟨_, rfl, ?_⟩))))))))))))
 have d : ¬ 8 < (nrm l).length := by omega
 rw [normE_ok d, normL_ok d]
 exact ⟨hb, _, rfl, c⟩

theorem labMay_ret (l : Lb) (v : Value) (w : World) (hz : l.length ≤ 1000000000000) (hl : RdC w 0 w.heap.size 1 v l.length (l.map u16v)) : Ret Try.prog 76 #[v] w (fun v' w' => Below w.heap.size w w' ∧ v' = .bool (mayL l)) := by
 have hb := Below.refl w.heap.size w
 refine enter (N := 10) Try.func76 rfl rfl (by simp) fun a hN hd hA => ?_
 have c : a.tmps.getD 0 undef = v := hA 0 (by simp)
 clear hA
 refine zF fun _ a => zH (zD rfl (zB (a _ _ (zF fun _ a => zH (zG (zC hN rfl c) (op_len_rd Try.underlying54 (zA hN rfl) hl (op_leq (zA hN rfl) rfl (fun d => ?_) (fun d => ?_))))))))
 ·
  refine zG (zA hN rfl) (zS (j := 3) (dj := 6) (b := true) rfl rfl rfl (zA hN rfl) (zG (zC hN rfl c) (zS (j := 3) (dj := 6) (b := true) rfl rfl rfl (zA hN rfl) (zj ok115 (rises_ret l _ _ (by first | assumption | omega | (simp only [List.length_append, List.length_cons, List.length_nil, List.length_drop, List.length_take]; omega) | (dsimp only; omega) | decide | (simp [keyV, be8_len]; done)) (show RdC w 0 w.heap.size 1 v l.length (l.map u16v) from by have hh : RdC w 0 w.heap.size 1 _ _ _ := (hl.mono (L' := 0) (B' := w.heap.size) (Nat.zero_le _) zx); first | exact hh | exact hh.cast (by first | omega | (simp; try omega)) (by first | rfl | simp [u16v]))) ⟨(zA hN rfl), trivial⟩ ?_))))
  rintro _ d ⟨c, rfl⟩
  have c := zQ c
  obtain ⟨hb, _⟩ := yE hb c
  have hl := hl.keep0 c
  refine zc (zA hN rfl) (zA hN rfl) (zD (zA hN rfl) (zB (a _ _ (wp_ret (ret1 rfl hd (zA hN rfl) ⟨_, rfl, ?_⟩)))))
  exact ⟨hb, congrArg Value.bool (by unfold mayL; first | (rw [decide_eq_true (show l.length ≤ 8 by omega), Bool.and_true]; done) | (rw [decide_eq_false (show ¬ l.length ≤ 8 by omega), Bool.and_false]))⟩
 refine zG (zA hN rfl) (zR (j := 3) (dj := 6) (b := true) rfl rfl rfl (zA hN rfl) rfl rfl (zR (j := 3) (dj := 6) (b := true) rfl rfl rfl (zA hN rfl) rfl rfl (zd (zA hN rfl) rfl (zD (zA hN rfl) (zB (a _ _ (wp_ret (ret1 rfl hd (zA hN rfl) ⟨_, rfl, ?_⟩))))))))
 exact ⟨hb, congrArg Value.bool (by unfold mayL; first | (rw [decide_eq_true (show l.length ≤ 8 by omega), Bool.and_true]; done) | (rw [decide_eq_false (show ¬ l.length ≤ 8 by omega), Bool.and_false]))⟩

theorem labPut_ret (bl : List UInt8) (l : Lb) (v u : Value) (w : World) (hbl : bl.length ≤ 1000000000) (hl : l.length ≤ 1000000000) (hv : RdC w 0 w.heap.size 1 v bl.length (bl.map u8v)) (h : RdC w 0 w.heap.size 1 u l.length (l.map u16v)) : Ret Try.prog 79 #[v, u] w (fun v' w' => Below w.heap.size w w' ∧ Own w' w.heap.size 5 1 v' (bl.length + (labB l).length) ((bl ++ labB l).map u8v)) := by
 have hb := Below.refl w.heap.size w
 refine enter (N := 32) Try.func79 rfl rfl (by simp) fun a hN hd hA => ?_
 have b : a.tmps.getD 0 undef = v := hA 0 (by simp)
 have c : a.tmps.getD 1 undef = u := hA 1 (by simp)
 clear hA
 refine zF fun _ a => zH (zD rfl (zB (a _ _ (zF fun _ a => zH (op_bslice (e := 5) (pv := []) (cs := []) trivial zy ?_)))))
 intro j m o k g f
 obtain ⟨hb, _⟩ := yE hb f
 have hv := hv.keep0 f
 refine zG (zC hN rfl b) ?_
 have b := (Own.ofBx (base := w.heap.size) (sz := 1) (n := 0) g rfl zz zx)
 refine op_append slt22 (zA hN rfl) b (zA hN rfl) (Src.ofRd Try.underlying22 zz hv (by simp [Value.oneCell', u8v])) (by unfold maxLen; omega) zx hb.size ?_
 intro k m g j o
 have := j.size
 have h := (h.keep0 f).keepO b j zx
 have hb := below_stepO hb b j hb.size zx
 have g : Own m w.heap.size 5 1 k (0 + bl.length) ((bl).map u8v) := by simpa [u8v, u16v, cellsV] using g
 refine zG (zC hN rfl c) (op_len_rd Try.underlying54 (zA hN rfl) h (op_conv (r := ((UInt8.ofNat l.length).toNat : Int)) (zA hN rfl) us3 Try.underlying5 conv_u8 (op_bslice (e := 5) (pv := [(0, (.int .u8 ((UInt8.ofNat l.length).toNat : Int)))]) (cs := [(.int .u8 ((UInt8.ofNat l.length).toNat : Int))]) ⟨rfl, (zA hN rfl), trivial⟩ zy ?_)))
 intro p q o m k f
 obtain ⟨hb, _⟩ := yE hb f
 have g := g.keep0 f
 have m := g
 refine op_append slt22 (zA hN rfl) m (zA hN rfl) (Src.ofRd Try.underlying22 zz (RdC.ofBx (sz := 1) (n := 1) k rfl zz) (by simp [Value.oneCell', u8v])) (by unfold maxLen; omega) zx hb.size ?_
 intro p o k g q
 have := g.size
 have hv := ((hv.keepO b j zx).keep0 f).keepO m g zx
 have h := (h.keep0 f).keepO m g zx
 have hb := below_stepO hb m g hb.size zx
 have k : Own o w.heap.size 5 1 p ((0 + bl.length) + 1) (((bl ++ [(UInt8.ofNat l.length)])).map u8v) := by simpa [u8v, u16v, cellsV] using k
 refine zD (zA hN rfl) ?_
 refine zB (a _ _ (zF fun _ a => zF fun _ b => zH (zG (zC hN rfl c) (op_len_rd Try.underlying54 (zA hN rfl) h (zG rfl (zB (b _ _ (wp_block (loop_m (fun mz_ az_ w' => ∃ (i : Nat) (y : Value), mz_ = l.length - i ∧ (Sl az_ 4 (.slice none 0 0)) ∧ (Sl az_ 16 u) ∧ (Sl az_ 17 (.int .i64 ((l.length : Nat) : Int))) ∧ (Sl az_ 18 (.int .i64 ((i : Nat) : Int))) ∧ (Sl az_ 5 y) ∧ (i ≤ l.length) ∧ (Below w.heap.size w w') ∧ (o.heap.size ≤ w'.heap.size) ∧ (RdC w' 0 w.heap.size 1 v bl.length (bl.map u8v)) ∧ (RdC w' 0 w.heap.size 1 u l.length (l.map u16v)) ∧ (Own w' w.heap.size 5 1 y (bl.length + 1 + 2 * i) ((bl ++ UInt8.ofNat l.length :: (l.take i).flatMap be2).map u8v))) _ hN hd ⟨0, _, rfl, (zU hN rfl), (zU hN rfl), (zU hN rfl), (zU hN rfl), (zU hN rfl), Nat.zero_le _, hb, (Nat.le_refl _), hv, h, (k.cast (by first | omega | (simp; try omega)) (by simp))⟩ ?_)))))))))
 rintro _ s t c j ⟨i, y, rfl, p, o, k, g, m, hi, hb, q, hv, h, f⟩
 have := hb.size
 refine zF fun _ b => zH (op_lss (zC c rfl g) (zC c rfl k) (fun q => ?_) (fun q => ?_))
 ·
  refine zB (b _ _ (zF fun _ b => wp_cond_true (zA c rfl) (wp_skip (b _ _ (zF fun _ b => wp_block (zF fun _ q => zH (zh slt54 (zC c rfl o) h (zC c rfl g) zx zx ?_)))))))
  intro B t z A s
  refine zN (v := (Value.int .u16 ((l.getD i 0).toNat : Int))) one46 (zA c rfl) (by have := s 0 (.int .u16 ((l.getD i 0).toNat : Int)) zz (el_u16 (i := i) zx zx); simpa using this) ?_
  refine zD (zA c rfl) (zB (q _ _ (zH (zG (zC c rfl m) (zG (zA c rfl) (op_shr (r := (((l.getD i 0).toNat / 256 : Nat) : Int)) (zA c rfl) rfl zz shr16 (op_conv (r := ((UInt8.ofNat ((l.getD i 0).toNat / 256)).toNat : Int)) (zA c rfl) us46 Try.underlying5 conv_u8 (zG (zA c rfl) (op_conv (r := ((UInt8.ofNat (l.getD i 0).toNat).toNat : Int)) (zA c rfl) us46 Try.underlying5 conv_u8 (op_bslice (e := 5) (pv := [(0, (.int .u8 ((UInt8.ofNat ((l.getD i 0).toNat / 256)).toNat : Int))), (1, (.int .u8 ((UInt8.ofNat (l.getD i 0).toNat).toNat : Int)))]) (cs := [(.int .u8 ((UInt8.ofNat ((l.getD i 0).toNat / 256)).toNat : Int)), (.int .u8 ((UInt8.ofNat (l.getD i 0).toNat).toNat : Int))]) ⟨rfl, (zA c rfl), ⟨rfl, (zA c rfl), trivial⟩⟩ zy ?_))))))))))
  intro B A z t s q
  obtain ⟨hb, _⟩ := yE hb q
  have f := f.keep0 q
  have t := f
  refine op_append slt22 (zA c rfl) t (zA c rfl) (Src.ofRd Try.underlying22 zz (RdC.ofBx (sz := 1) (n := 2) s rfl zz) (by simp [Value.oneCell', u8v])) (by unfold maxLen; omega) zx hb.size ?_
  intro B A z s C
  have := s.size
  have hv := (hv.keep0 q).keepO t s zx
  have h := (h.keep0 q).keepO t s zx
  have hb := below_stepO hb t s hb.size zx
  have z : Own A w.heap.size 5 1 B ((bl.length + 1 + 2 * i) + 2) ((((bl ++ UInt8.ofNat l.length :: (l.take i).flatMap be2) ++ [(UInt8.ofNat ((l.getD i 0).toNat / 256)), (UInt8.ofNat (l.getD i 0).toNat)])).map u8v) := by simpa [u8v, u16v, cellsV] using z
  refine zD (zA c rfl) (zB (b _ _ (zH (op_add (zC c rfl g) rfl (add64 zx) (zG (zA c rfl) (zB ?_))))))
  -- round 19T
  exact zg _ c j ⟨i + 1, _, rfl, (zL c rfl p), (zL c rfl o), (zL c rfl k), (zU c rfl).trans (congrArg (Value.int .i64) zx), (zU c rfl), zx, hb, zx, hv, h, (z.cast (by first | omega | (simp; try omega)) (by rw [snoc (d := 0) (l := l) (i := i) zx, List.flatMap_append]; simp [be2]))⟩ zx
 refine zB (b _ _ (zF fun _ b => wp_cond_false (zA c rfl) (wp_exit (then_exit (then_exit (blk_hit (a _ _ (zF fun _ a => zH (zG (zC c rfl m) (zD (zA c rfl) (zB (a _ _ (wp_ret (ret1 rfl j (zA c rfl) ⟨_, rfl, ?_⟩))))))))))))))
 have ei : l.take i = l := List.take_of_length_le zx
 have hq := f
 rw [ei] at hq
 exact ⟨hb, hq.cast (by rw [labB_len]; omega) (by rw [labB])⟩

theorem RaiseIn {t : List UInt16} {tv : Value} {C : List KC} {n i k m p base : Nat} {lv la ow : Value} {l o : List UInt16} {T : List (List UInt8)} {Fi : Nat → Prop} {w : World} (hbase : base ≤ w.heap.size) (hn : n ≤ 6) (hi : i < n) (hc : C.length = n ∧ C.getD i default = ⟨la, ow, p, Fi⟩) (hx : Bx w k 134 [lv, .map (some m)]) (O : Own w base 137 3 lv n (C.flatMap cellsK)) (hL : Own w base 46 1 la l.length (l.map u16v)) (hW : Own w base 46 1 ow o.length (o.map u16v)) (hQ : PostS w base p 16 T Fi) (hll : l.length ≤ 100) (htl : t.length ≤ 100) (ht : RdC w 0 w.heap.size 1 tv t.length (t.map u16v)) : Ret Try.prog 44 #[(ptr k 0), (.int .i64 ((i : Nat) : Int)), tv] w (fun v' w' => w.grownBy w' lv.ownBlock ∧ v' = .int .i64 (raiseE l t) ∧ ∃ nv, Own w' base 137 3 lv n ((C.set i ⟨nv, ow, p, Fi⟩).flatMap cellsK) ∧ Own w' base 46 1 nv (raiseL l t).length ((raiseL l t).map u16v) ∧ (nv = la ∨ ∀ x, Bl nv x → w.heap.size ≤ x)) := by
 have hb := grown_refl w lv.ownBlock
 refine enter (N := 51) Try.func44 rfl rfl (by simp) fun a hN hd hA => ?_
 have c : a.tmps.getD 0 undef = (ptr k 0) := hA 0 (by simp)
 have d : a.tmps.getD 1 undef = (.int .i64 ((i : Nat) : Int)) := hA 1 (by simp)
 have e : a.tmps.getD 2 undef = tv := hA 2 (by simp)
 clear hA
 refine zF fun _ a => zH (zD rfl (zB (a _ _ (zF fun _ a => ?_))))
 refine zF fun _ f => zH (zG (zC hN rfl c) (op_peq_some ptrt50 (zA hN rfl) rfl (zB (f _ _ (wp_cond_false (zA hN rfl) (wp_skip (a _ _ (zF fun _ a => zF fun _ f => zH (zG (zC hN rfl d) (op_lss (zA hN rfl) rfl (fun g => ?_) (fun g => ?_)))))))))))
 ·
  exfalso; omega
 refine zG (zA hN rfl) (zS (j := 2) (dj := 14) (b := false) rfl rfl rfl (zA hN rfl) (zG (zC hN rfl d) (zS (j := 2) (dj := 14) (b := false) rfl rfl rfl (zA hN rfl) ?_)))
 refine zG (zC hN rfl c) (zS (j := 2) (dj := 14) (b := false) rfl rfl rfl (zA hN rfl) (op_nil (zA hN rfl) (zS (j := 2) (dj := 14) (b := false) rfl rfl rfl (zA hN rfl) (zM fld134_0 (zA hN rfl) (zS (j := 2) (dj := 14) (b := false) rfl rfl rfl (zA hN rfl) (zN one132 (zA hN rfl) (hx.cell rfl) (zS (j := 2) (dj := 14) (b := false) rfl rfl rfl (zA hN rfl) (op_len_rd Try.underlying132 (zA hN rfl) O.rdw (zS (j := 2) (dj := 14) (b := false) rfl rfl rfl (zA hN rfl) (op_geq (zA hN rfl) (zA hN rfl) (fun g => ?_) (fun g => ?_)))))))))))
 ·
  exfalso; omega
 refine zd (zA hN rfl) (zA hN rfl) (zB (f _ _ (wp_cond_false (zA hN rfl) (wp_skip (a _ _ (zF fun _ a => zH (zG (zC hN rfl e) (zj ok90 (normW_ret t _ _ (by first | assumption | omega | (simp only [List.length_append, List.length_cons, List.length_nil, List.length_drop, List.length_take]; omega) | (dsimp only; omega) | decide | (simp [keyV, be8_len]; done)) (show RdC w 0 w.heap.size 1 tv t.length (t.map u16v) from by have hh : RdC w 0 w.heap.size 1 _ _ _ := (ht.mono (L' := 0) (B' := w.heap.size) (Nat.zero_le _) zx); first | exact hh | exact hh.cast (by first | omega | (simp; try omega)) (by first | rfl | simp [u16v]))) ⟨(zA hN rfl), trivial⟩ ?_))))))))
 rintro _ e ⟨g, s, rfl, q⟩
 have g := zQ g
 have := g.size
 have hx := hx.keep0 g
 have O := O.keep0 g
 have hL := hL.keep0 g
 have hb := grow_step0 hb g
 have q := q.mono (base' := w.heap.size) zx
 have g := normL_len t
 refine zG (zA hN rfl) ?_
 refine zW (zA hN rfl) rfl (zW (zA hN rfl) rfl (zD (zA hN rfl) (zD (zA hN rfl) (zB (a _ _ (zF fun _ a => zF fun _ f => zH (zG (zA hN rfl) (op_neq (zA hN rfl) rfl (fun g => ?_) (fun g => ?_)))))))))
 ·
  refine zB (f _ _ (wp_cond_true (zA hN rfl) (zF fun _ f => zH (zD rfl (zB (f _ _ (wp_ret (zO ( (ret1 rfl hd (zA hN rfl) ⟨_, rfl, ?_⟩))))))))))
  have u : ¬ (nrm t).length ≤ 8 := fun h => g (normE_ok zx)
  have hr : raiseOk l t = false := by unfold raiseOk; rw [decide_eq_false u]; rfl
  obtain ⟨y, z⟩ := raise_f hr
  exact ⟨hb, congrArg (Value.int .i64) z.symm, la, by rw [set_kc_same hc hi]; exact O, hL.cast (by rw [y]) (by rw [y]), .inl rfl⟩
 refine zB (f _ _ (wp_cond_false (zA hN rfl) (wp_skip (a _ _ (zF fun _ a => zH (zG (zC hN rfl c) (op_nil (zA hN rfl) (zM fld134_0 (zA hN rfl) (zN one132 (zA hN rfl) (hx.cell rfl) (zG (zC hN rfl d) (zh slt132 (zA hN rfl) O.rdw (zA hN rfl) zx zx ?_)))))))))))
 intro E F B D A
 refine zM fld137_0 (zA hN rfl) (zN (v := la) one54 (zA hN rfl) (A 0 _ zz ((el_kc hc zx zx) 0 _ rfl)) (zG (zA hN rfl) (zj ok91 (joinW_ret l (normL t) _ _ _ (by first | assumption | omega | (simp only [List.length_append, List.length_cons, List.length_nil, List.length_drop, List.length_take]; omega) | (dsimp only; omega) | decide | (simp [keyV, be8_len]; done)) (by first | assumption | omega | (simp only [List.length_append, List.length_cons, List.length_nil, List.length_drop, List.length_take]; omega) | (dsimp only; omega) | decide | (simp [keyV, be8_len]; done)) (show RdC e 0 e.heap.size 1 la l.length (l.map u16v) from by have hh : RdC e 0 e.heap.size 1 _ _ _ := (hL.rdw.mono (L' := 0) (B' := e.heap.size) (Nat.zero_le _) zx); first | exact hh | exact hh.cast (by first | omega | (simp; try omega)) (by first | rfl | simp [u16v])) (show RdC e 0 e.heap.size 1 s (normL t).length ((normL t).map u16v) from by have hh : RdC e 0 e.heap.size 1 _ _ _ := (q.rdw.mono (L' := 0) (B' := e.heap.size) (Nat.zero_le _) zx); first | exact hh | exact hh.cast (by first | omega | (simp; try omega)) (by first | rfl | simp [u16v]))) ⟨(zA hN rfl), ⟨(zA hN rfl), trivial⟩⟩ ?_)))
 rintro A s ⟨q, e⟩
 have q := zQ q
 have := q.size
 have hb := grow_step0 hb q
 have e := e.mono (base' := w.heap.size) zx
 refine zD (zA hN rfl) (zB (a _ _ (zF fun _ a => zF fun _ f => zH (zG (zA hN rfl) ?_))))
 have hjl : (joinL l (normL t)).length ≤ (l ++ normL t).length := nrm_lenL _
 rw [List.length_append] at hjl
 refine zj ok76 (labMay_ret (joinL l (normL t)) _ _ (by first | assumption | omega | (simp only [List.length_append, List.length_cons, List.length_nil, List.length_drop, List.length_take]; omega) | (dsimp only; omega) | decide | (simp [keyV, be8_len]; done)) (show RdC s 0 s.heap.size 1 A (joinL l (normL t)).length ((joinL l (normL t)).map u16v) from by have hh : RdC s 0 s.heap.size 1 _ _ _ := (e.rdw.mono (L' := 0) (B' := s.heap.size) (Nat.zero_le _) zx); first | exact hh | exact hh.cast (by first | omega | (simp; try omega)) (by first | rfl | simp [u16v]))) ⟨(zA hN rfl), trivial⟩ ?_
 rintro _ B ⟨s, rfl⟩
 have s := zQ s
 have := s.size
 have hx := (hx.keep0 q).keep0 s
 have O := (O.keep0 q).keep0 s
 have hL := (hL.keep0 q).keep0 s
 have e := e.keep0 s
 have hb := grow_step0 hb s
 rcases Bool.eq_false_or_eq_true ((mayL (joinL l (normL t)))) with q | q
 ·
  rw [q]
  refine op_not (zA hN rfl) (zB (f _ _ (wp_cond_false (zA hN rfl) (wp_skip (a _ _ (zF fun _ a => zH (zG (zC hN rfl c) (op_nil (zA hN rfl) (zM fld134_0 (zA hN rfl) (zN one132 (zA hN rfl) (hx.cell rfl) (zG (zC hN rfl d) (zG (zA hN rfl) ?_))))))))))))
  skip
  refine op_index_own (i := i) slt132 (zA hN rfl) O (zA hN rfl) zx zx ?_
  intro B d s c
  refine zM fld137_0 (zA hN rfl) ?_
  have d := O
  refine op_store_own (vs := [A]) size54 (zA hN rfl) (zA hN rfl) e.cl rfl (by simp only [yA, yB, yC, yD, e.one]; try rfl) d (c.fld 0) (by have := d.1; simp only [List.length_cons, List.length_nil]; omega) ?_
  intro B s c
  have := c.size
  have hx := hx.keepO d c zz
  have e := e.keepT d c zz
  have hb := grow_stepX hb c rfl
  have s : Own B base 137 3 lv n (((C.set i ⟨A, ow, p, Fi⟩)).flatMap cellsK) := by exact s.cast rfl (set_kc hc hi)
  refine zB (a _ _ (zF fun _ a => zH (zD rfl (zB (a _ _ (wp_ret (ret1 rfl hd (zA hN rfl) ⟨_, rfl, ?_⟩)))))))
  have u : (nrm t).length ≤ 8 := Nat.le_of_not_lt fun h => by rw [normE_bad h] at g; omega
  have hnl : normL t = nrm t := normL_ok zx
  have hr : raiseOk l t = true := by unfold raiseOk; rw [decide_eq_true u, Bool.true_and, ← hnl]; exact q
  obtain ⟨y, z⟩ := raise_t hr
  exact ⟨hb, congrArg (Value.int .i64) z.symm, A, s, (e.mono zx).cast (by rw [y, hnl]) (by rw [y, hnl]), .inr (fun x hx => (e.lt x hx).1)⟩
 rw [q]
 refine op_not (zA hN rfl) (zB (f _ _ (wp_cond_true (zA hN rfl) (zF fun _ f => zH (zD rfl (zB (f _ _ (wp_ret (zO ( (ret1 rfl hd (zA hN rfl) ⟨_, rfl, ?_⟩)))))))))))
 have u : (nrm t).length ≤ 8 := Nat.le_of_not_lt fun h => by rw [normE_bad h] at g; omega
 have hnl : normL t = nrm t := normL_ok zx
 have hr : raiseOk l t = false := by unfold raiseOk; rw [decide_eq_true u, Bool.true_and, ← hnl]; exact q
 obtain ⟨y, z⟩ := raise_f hr
 exact ⟨hb, congrArg (Value.int .i64) z.symm, la, by rw [set_kc_same hc hi]; exact O, hL.cast (by rw [y]) (by rw [y]), .inl rfl⟩

theorem RaiseOut (tv : Value) {C : List KC} {n k m base : Nat} {lv : Value} {s : Int}  {w : World} (hbase : base ≤ w.heap.size) (hn : n ≤ 6) (hC : C.length = n) (hx : Bx w k 134 [lv, .map (some m)]) (O : Own w base 137 3 lv n (C.flatMap cellsK)) (hs : s < 0 ∨ (n : Int) ≤ s) : Ret Try.prog 44 #[(ptr k 0), (.int .i64 s), tv] w (fun v' w' => Below w.heap.size w w' ∧ v' = .int .i64 22) := by
 have hb := Below.refl w.heap.size w
 refine enter (N := 51) Try.func44 rfl rfl (by simp) fun a hN hd hA => ?_
 have c : a.tmps.getD 0 undef = (ptr k 0) := hA 0 (by simp)
 have d : a.tmps.getD 1 undef = (.int .i64 s) := hA 1 (by simp)
 clear hA
 refine zF fun _ a => zH (zD rfl (zB (a _ _ (zF fun _ a => ?_))))
 refine zF fun _ e => zH (zG (zC hN rfl c) (op_peq_some ptrt50 (zA hN rfl) rfl (zB (e _ _ (wp_cond_false (zA hN rfl) (wp_skip (a _ _ (zF fun _ a => zF fun _ e => zH (zG (zC hN rfl d) (op_lss (zA hN rfl) rfl (fun f => ?_) (fun f => ?_)))))))))))
 ·
  refine zG (zA hN rfl) (zR (j := 2) (dj := 14) (b := false) rfl rfl rfl (zA hN rfl) rfl rfl (zR (j := 2) (dj := 14) (b := false) rfl rfl rfl (zA hN rfl) rfl rfl (zR (j := 2) (dj := 14) (b := false) rfl rfl rfl (zA hN rfl) rfl rfl (zR (j := 2) (dj := 14) (b := false) rfl rfl rfl (zA hN rfl) rfl rfl (zR (j := 2) (dj := 14) (b := false) rfl rfl rfl (zA hN rfl) rfl rfl ?_)))))
  refine zR (j := 2) (dj := 14) (b := false) rfl rfl rfl (zA hN rfl) rfl rfl (zR (j := 2) (dj := 14) (b := false) rfl rfl rfl (zA hN rfl) rfl rfl (zc (zA hN rfl) rfl (zB (e _ _ (wp_cond_true (zA hN rfl) (zF fun _ e => zH (zD rfl (zB (e _ _ (wp_ret (zO ( (ret1 rfl hd (zA hN rfl) ⟨_, rfl, ?_⟩)))))))))))))
  exact ⟨hb, rfl⟩
 refine zG (zA hN rfl) (zS (j := 2) (dj := 14) (b := false) rfl rfl rfl (zA hN rfl) (zG (zC hN rfl d) (zS (j := 2) (dj := 14) (b := false) rfl rfl rfl (zA hN rfl) ?_)))
 refine zG (zC hN rfl c) (zS (j := 2) (dj := 14) (b := false) rfl rfl rfl (zA hN rfl) (op_nil (zA hN rfl) (zS (j := 2) (dj := 14) (b := false) rfl rfl rfl (zA hN rfl) (zM fld134_0 (zA hN rfl) (zS (j := 2) (dj := 14) (b := false) rfl rfl rfl (zA hN rfl) (zN one132 (zA hN rfl) (hx.cell rfl) (zS (j := 2) (dj := 14) (b := false) rfl rfl rfl (zA hN rfl) (op_len_rd Try.underlying132 (zA hN rfl) O.rdw (zS (j := 2) (dj := 14) (b := false) rfl rfl rfl (zA hN rfl) (op_geq (zA hN rfl) (zA hN rfl) (fun a => ?_) (fun a => ?_)))))))))))
 ·
  refine zd (zA hN rfl) (zA hN rfl) (zB (e _ _ (wp_cond_true (zA hN rfl) (zF fun _ e => zH (zD rfl (zB (e _ _ (wp_ret (zO ( (ret1 rfl hd (zA hN rfl) ⟨_, rfl, ?_⟩)))))))))))
  exact ⟨hb, rfl⟩
 exfalso; omega

theorem StampIn {k m base : Nat} {lv xv : Value} {x : List UInt16} {M : List (List UInt8 × Int)} {w : World} (hbase : base ≤ w.heap.size) (hxl : x.length ≤ 100) (hxr : RdC w 0 w.heap.size 1 xv x.length (x.map u16v)) (hx : Bx w k 134 [lv, .map (some m)]) (hM : MapC sv (.int .u64) w m M) : Ret Try.prog 35 #[(ptr k 0), xv] w (fun v' w' => w.grownBy w' (some m) ∧ v' = .int .u64 (IntKind.u64.wrap (((mget M (labB x)).getD 0) + 1)) ∧ MapC sv (.int .u64) w' m (mput M (labB x) (IntKind.u64.wrap (((mget M (labB x)).getD 0) + 1)))) := by
 have hi_k := hx.lt
 have hi_m := hM.lt
 have hnd := hM.nodup (key_str Try.underlying9)
 have hb := grown_refl w (some m)
 refine enter (N := 31) Try.func35 rfl rfl (by simp) fun a hN hd hA => ?_
 have c : a.tmps.getD 0 undef = (ptr k 0) := hA 0 (by simp)
 have d : a.tmps.getD 1 undef = xv := hA 1 (by simp)
 clear hA
 refine zF fun _ a => zH (zD rfl (zB ?_))
 refine a _ _ (zF fun _ a => zF fun _ e => zH (zG (zC hN rfl c) (op_peq_some ptrt50 (zA hN rfl) rfl (zG (zA hN rfl) (zS (j := 2) (dj := 8) (b := false) rfl rfl rfl (zA hN rfl) (zG (zC hN rfl c) (zS (j := 2) (dj := 8) (b := false) rfl rfl rfl (zA hN rfl) (op_nil (zA hN rfl) (zS (j := 2) (dj := 8) (b := false) rfl rfl rfl (zA hN rfl) ?_)))))))))
 refine zM fld134_1 (zA hN rfl) (zS (j := 2) (dj := 8) (b := false) rfl rfl rfl (zA hN rfl) (zN one131 (zA hN rfl) (hx.cell rfl) (zS (j := 2) (dj := 8) (b := false) rfl rfl rfl (zA hN rfl) (op_meq (r := some m) Try.underlying131 (zA hN rfl) rfl (zd (zA hN rfl) (zA hN rfl) (zB (e _ _ (wp_cond_false (zA hN rfl) (wp_skip (a _ _ (zF fun _ a => zH (zG (zC hN rfl d) ?_))))))))))))
 have d : RdC w 0 w.heap.size 1 (.slice none 0 0) ([] : List UInt8).length (([] : List UInt8).map u8v) := by have hh : RdC w 0 w.heap.size 1 _ _ _ := ((RdC.nil _ 0 0 _).mono (L' := 0) (B' := w.heap.size) (Nat.zero_le _) zx); first | simpa using hh | simpa [Nat.add_comm, Nat.add_left_comm, Nat.add_assoc] using hh | exact hh.cast (by first | rfl | (simp; try omega)) (by first | rfl | (simp; done) | simp [u8v])
 refine zj ok79 (labPut_ret ([] : List UInt8) x _ _ _ (by first | assumption | omega | (simp only [List.length_append, List.length_cons, List.length_nil, List.length_drop, List.length_take]; omega) | (dsimp only; omega) | decide | (simp [keyV, be8_len]; done)) (by first | assumption | omega | (simp only [List.length_append, List.length_cons, List.length_nil, List.length_drop, List.length_take]; omega) | (dsimp only; omega) | decide | (simp [keyV, be8_len]; done)) d (show RdC w 0 w.heap.size 1 xv x.length (x.map u16v) from by have hh : RdC w 0 w.heap.size 1 _ _ _ := (hxr.mono (L' := 0) (B' := w.heap.size) (Nat.zero_le _) zx); first | exact hh | exact hh.cast (by first | omega | (simp; try omega)) (by first | rfl | simp [u16v]))) ⟨rfl, ⟨(zA hN rfl), trivial⟩⟩ ?_
 rintro g f ⟨d, e⟩
 have d := zQ d
 have := d.size
 have hx := hx.keep0 d
 have hM := hM.keep0 d
 have hb := grow_step0 hb d
 have e : Own f w.heap.size 5 1 g (labB x).length ((labB x).map u8v) := (e.mono (base' := w.heap.size) zx).cast (by simp) (by simp)
 refine op_str_of (bl := (labB x)) Try.underlying22 Try.underlying5 Try.underlying9 (zA hN rfl) e.rdw ?_
 refine zD (zA hN rfl) (zB (a _ _ (zF fun _ a => zH (zG (zC hN rfl c) (op_nil (zA hN rfl) (zM fld134_1 (zA hN rfl) (zN one131 (zA hN rfl) (hx.cell rfl) (zG (zA hN rfl) (op_lookd (k := (labB x)) (z0 := 0) Try.underlying131 (key_str Try.underlying9) zero61 (zA hN rfl) (zA hN rfl) hM (op_add (r := (IntKind.u64.wrap (((mget M (labB x)).getD 0) + 1))) (zA hN rfl) rfl rfl ?_))))))))))
 have hM_old := hM
 refine op_mapput (k := (labB x)) (v := (IntKind.u64.wrap (((mget M (labB x)).getD 0) + 1))) Try.underlying131 (key_str Try.underlying9) (zA hN rfl) (zA hN rfl) (zA hN rfl) hM ?_
 intro f e d
 have := d.size
 have hx := hx.keepM hM_old d
 have hb := grown_trans hb d
 refine zB (a _ _ (zF fun _ a => ?_))
 refine zH (zG (zC hN rfl c) (op_nil (zA hN rfl) (zM fld134_1 (zA hN rfl) (zN one131 (zA hN rfl) (hx.cell rfl) (zG (zA hN rfl) (op_lookd (k := (labB x)) (z0 := 0) Try.underlying131 (key_str Try.underlying9) zero61 (zA hN rfl) (zA hN rfl) e (zD (zA hN rfl) (zB (a _ _ (wp_ret (ret1 rfl hd (zA hN rfl) ⟨_, rfl, ?_⟩)))))))))))
 exact ⟨hb, by rw [mget_mput hnd, if_pos rfl]; rfl, e⟩

end Go.Proofs.Ytmhdbphpmgjpcaa

namespace Go.Gx
open Go.RowKit
section
variable {P : Program} {ol : List Oper} {Q : Exit → Act → World → Prop} {Φ : Nat → Value → World → Prop} {C : Nat → Value → World → Prop} {ch : Chain} {R : World → World → Prop} {a0 : Act} {N : Nat}
end
section
variable {P : Program} {ol : List Oper} {Q : Exit → Act → World → Prop} {Φ : Nat → Value → Prop} {G : World → Prop} {a0 : Act} {N : Nat}
end
end Go.Gx

namespace Go.Gx
open Go.RowKit
section
variable {P : Program} {ol : List Oper} {Q : Exit → Act → World → Prop} {E : Type} {Φ : E → Nat → Value → Prop} {C : E → Nat → World → Prop} {ch : Chain} {a0 : Act} {N : Nat}
def ObNE (P : Program) (ol : List Oper) (Φ : E → Nat → Value → Prop) (C : E → Nat → World → Prop) (a0 : Act) (N : Nat) (i : Nat) (o : Oper) : Prop :=
  ∀ (e : E) (a : Act) (w : World) (c : Nat), a.tmps.size = N → C e c w → (∀ t, safeB ol i t = true → a.tmps.getD t undef = a0.tmps.getD t undef) → (∀ j oj d, depB ol i j = true → ol[j]? = some oj → oj.dst = some d → Φ e j (a.tmps.getD d undef)) →
    wpList P ol.toArray (fun ex a' w' => ex = .normal ∧ (∃ d v, o.dst = some d ∧ a' = putsL a [(d, v)] ∧ Φ e i v) ∧ w.grownBy w' none) [o] (putsL a []) w
def ObCE (P : Program) (ol : List Oper) (Φ : E → Nat → Value → Prop) (C : E → Nat → World → Prop) (a0 : Act) (N : Nat) (c i : Nat) (o : Oper) : Prop :=
  ∀ (e : E) (a : Act) (w : World), a.tmps.size = N → (∀ t, safeB ol i t = true → a.tmps.getD t undef = a0.tmps.getD t undef) → (∀ j oj d, depB ol i j = true → ol[j]? = some oj → oj.dst = some d → Φ e j (a.tmps.getD d undef)) → C e c w →
    wpList P ol.toArray (fun ex a' w' => ex = .normal ∧ ∃ e', (∀ j u, Φ e j u → Φ e' j u) ∧ ((o.dst = none ∧ a' = a) ∨ ∃ d v, o.dst = some d ∧ a' = putsL a [(d, v)] ∧ Φ e' i v) ∧ C e' (c + 1) w') [o] (putsL a []) w
theorem region_env_steps (hlex : lexB' ol = true) (hdn : dstNB ol N = true) (hdst : dstsB ol = true) (hch : ch.okB ol = true) (w0 : World)
    (hC : ∀ e c w1 w2, w1.grownBy w2 none → C e c w1 → C e c w2)
    (obN : ∀ i o, ol[i]? = some o → ch.has i = false → ObNE P ol Φ C a0 N i o) (obC : ∀ c i o, ch.ops[c]? = some i → ol[i]? = some o → ObCE P ol Φ C a0 N c i o)
    (fin : ∀ a w e, RInv ol (fun j u _ => Φ e j u) (fun c _ w => C e c w) ch a0 N w0 (fun _ _ => True) (Array.replicate ol.length true) ch.ops.length a w → Q .normal a w) :
    ∀ (fuel : Nat) (listed : Array Bool) (c : Nat) (a : Act) (w : World) (e : E), RInv ol (fun j u _ => Φ e j u) (fun c _ w => C e c w) ch a0 N w0 (fun _ _ => True) listed c a w → (List.range ol.length).countP (fun i => !listed.getD i true) ≤ fuel → wpAny P .any ol.toArray Q fuel listed a w := by
  have hch' := hch
  simp only [Chain.okB, Bool.and_eq_true] at hch'
  obtain ⟨⟨⟨hc1, hc2⟩, hc3⟩, hc4⟩ := hch'
  have done : ∀ (listed : Array Bool) (c : Nat) (a : Act) (w : World) (e : E), RInv ol (fun j u _ => Φ e j u) (fun c _ w => C e c w) ch a0 N w0 (fun _ _ => True) listed c a w → Region.ready .any ol.toArray listed = [] → Q .normal a w := by
    intro listed c a w ee I hr
    have hall : ∀ i, i < ol.length → listed.getD i true = true := by
      intro i
      induction i using Nat.strongRecOn with
      | _ i ih =>
        intro hi
        by_cases hq : listed.getD i true = true
        · exact hq
        · exfalso
          have hm : i ∈ Region.ready .any ol.toArray listed := by
            rw [mem_ready]
            refine ⟨by simpa using hq, ol[i], by simp [hi], fun e he hb => ?_⟩
            have h1 := List.all_eq_true.1 hlex i (by simp [hi])
            simp only [List.getElem?_eq_getElem hi, Array.all_eq_true_iff_forall_mem, Bool.or_eq_true, Bool.not_eq_true', Nat.blt_eq] at h1
            have h2 := (h1 e he).resolve_left (by simp [hb])
            exact getD_true_lt (ih e.on h2 (by omega)) (by rw [I.lsize]; omega)
          rw [hr] at hm
          cases hm
    have hl : listed = Array.replicate ol.length true := by
      apply Array.ext
      · simp [I.lsize]
      · intro i h1 h2
        have := hall i (by simpa using h2)
        simp [Array.getD_eq_getD_getElem?, h1] at this
        simp [this]
    have hcc : c = ch.ops.length := by
      rcases Nat.lt_or_ge c ch.ops.length with h | h
      · exfalso
        have h1 := (I.chain c ch.ops[c] (by simp [h])).1 (hall _ (by
          have := List.all_eq_true.1 hc3 ch.ops[c] (List.getElem_mem h)
          simpa [Nat.blt_eq] using this))
        omega
      · exact Nat.le_antisymm I.cle h
    subst hl; subst hcc
    exact fin a w ee I
  intro fuel
  induction fuel with
  | zero =>
    intro listed c a w ee I hcnt
    have hr : Region.ready .any ol.toArray listed = [] := by
      rw [List.eq_nil_iff_forall_not_mem]
      intro i hi
      obtain ⟨h1, o, ho, _⟩ := mem_ready.1 hi
      have hlt : i < ol.length := by simpa using (Array.getElem?_eq_some_iff.1 ho).1
      have hz : (List.range ol.length).countP (fun i => !listed.getD i true) = 0 := by omega
      rw [List.countP_eq_zero] at hz
      exact hz i (by simp [hlt]) (by simp [h1])
    exact ⟨hr, done listed c a w ee I hr⟩
  | succ fuel ih =>
    intro listed c a w ee I hcnt
    refine ⟨fun hr => done listed c a w ee I hr, fun i hi => ?_⟩
    obtain ⟨hun, o, ho, hwait⟩ := mem_ready.1 hi
    have ho' : ol[i]? = some o := by simpa using ho
    have hlt : i < ol.length := (List.getElem?_eq_some_iff.1 ho').1
    have hls : i < listed.size := by rw [I.lsize]; exact hlt
    have hcnt' : (List.range ol.length).countP (fun j => !(listed.setIfInBounds i true).getD j true) ≤ fuel := by
      have : (List.range ol.length).countP (fun j => !(listed.setIfInBounds i true).getD j true) < (List.range ol.length).countP (fun j => !listed.getD j true) := by
        refine countP_lt _ _ (fun y hy => ?_) _ i (by simp [hlt]) (by simp [hun]) (by simp [Array.getD_eq_getD_getElem?, hls])
        by_cases hiy : i = y
        · subst hiy; simp [Array.getD_eq_getD_getElem?, hls] at hy
        · rwa [getD_set_ne true hiy] at hy
      omega
    have hbase : ∀ t, safeB ol i t = true → a.tmps.getD t undef = a0.tmps.getD t undef := by
      intro t ht
      refine I.base t fun j oj hj hlj hd => ?_
      have h1 := List.all_eq_true.1 ht oj (List.mem_of_getElem? hj)
      simp only [Bool.or_eq_true, bne_iff_ne, ne_eq, Array.any_eq_true, Bool.and_eq_true, beq_iff_eq] at h1
      rcases h1 with h1 | ⟨q, hq, h1, h2⟩
      · exact h1 hd
      · have := getD_of_false (I.closed j oj hj hlj _ (Array.getElem_mem hq) h2)
        rw [h1, hun] at this
        cases this
    have hdep : ∀ j oj d, depB ol i j = true → ol[j]? = some oj → oj.dst = some d → Φ ee j (a.tmps.getD d undef) := by
      intro j oj d hj hoj hd
      obtain ⟨e, he, h1, h2⟩ := depB_spec ho' hj
      exact I.phi j oj d hoj (getD_of_false (by rw [← h1]; exact hwait e he h2)) hd
    have hset : ∀ j, j ≠ i → (listed.setIfInBounds i true).getD j true = listed.getD j true := fun j hj => getD_set_ne true (Ne.symm hj)
    have hseti : (listed.setIfInBounds i true).getD i true = true := by simp [Array.getD_eq_getD_getElem?, hls]
    have hclosed : ∀ j oj, ol[j]? = some oj → (listed.setIfInBounds i true).getD j true = true → ∀ e ∈ oj.after, Region.binds .any e = true → (listed.setIfInBounds i true).getD e.on false = true := by
      intro j oj hoj hlj e he hb
      refine getD_set_true ?_
      by_cases hji : j = i
      · subst hji
        rw [ho'] at hoj; cases hoj
        exact hwait e he hb
      · rw [hset j hji] at hlj
        exact I.closed j oj hoj hlj e he hb
    have hne : ∀ j oj d, ol[j]? = some oj → j ≠ i → o.dst = some d → oj.dst ≠ some d := by
      intro j oj d hoj hji hd hd'
      have hj : j < ol.length := (List.getElem?_eq_some_iff.1 hoj).1
      have h1 := List.all_eq_true.1 (List.all_eq_true.1 hdst i (by simp [hlt])) j (by simp [hj])
      simp only [ho', hoj, Bool.or_eq_true, beq_iff_eq, bne_iff_ne, ne_eq] at h1
      rcases h1 with h1 | h1 | h1
      · exact hji h1.symm
      · exact h1 (by rw [hd, hd'])
      · rw [hd] at h1; cases h1
    -- what is left of the frame, behind a value in slot d
    have hframe : ∀ d v (e' : E), o.dst = some d → (∀ j u, Φ ee j u → Φ e' j u) → Φ e' i v → 
        (∀ t, (∀ j oj, ol[j]? = some oj → (listed.setIfInBounds i true).getD j true = true → oj.dst ≠ some t) → (putsL a [(d, v)]).tmps.getD t undef = a0.tmps.getD t undef) ∧
        (∀ j oj d', ol[j]? = some oj → (listed.setIfInBounds i true).getD j true = true → oj.dst = some d' → Φ e' j ((putsL a [(d, v)]).tmps.getD d' undef)) := by
      intro d v e' hd hR hv
      have hdN : d < a.tmps.size := by
        have h1 := List.all_eq_true.1 hdn o (List.mem_of_getElem? ho')
        simp only [hd, Nat.blt_eq] at h1
        rw [I.size]; exact h1
      refine ⟨fun t ht => ?_, fun j oj d' hoj hlj hd' => ?_⟩
      · have hdt : d ≠ t := fun e => ht i o ho' hseti (by rw [hd, e])
        rw [get_put_ne hdt]
        refine I.base t fun j oj hoj hlj => ?_
        by_cases hji : j = i
        · subst hji; rw [hun] at hlj; cases hlj
        · exact ht j oj hoj (by rw [hset j hji]; exact hlj)
      · by_cases hji : j = i
        · subst hji
          rw [ho'] at hoj; cases hoj
          rw [hd] at hd'; cases hd'
          rw [get_put_eq hdN]
          exact hv
        · rw [hset j hji] at hlj
          have : d ≠ d' := fun e => hne j oj d hoj hji hd (by rw [hd', e])
          rw [get_put_ne this]
          exact hR j _ (I.phi j oj d' hoj hlj hd')
    by_cases hin : ch.has i = true
    · have hmem : i ∈ ch.ops := by simpa [Chain.has] using hin
      obtain ⟨c0, hc0, hci⟩ := List.getElem_of_mem hmem
      have hci' : ch.ops[c0]? = some i := by simp [hc0, hci]
      have hcc : c0 = c := by
        have h1 : ¬ c0 < c := fun h => by
          have := (I.chain c0 i hci').2 h
          rw [hun] at this; cases this
        rcases Nat.lt_or_ge c c0 with h2 | h2
        · exfalso
          have h3 := List.all_eq_true.1 hc1 c0 (by simp [hc0])
          have hz : (c0 == 0) = false := by simp; omega
          have hp : ch.ops.getD (c0 - 1) 0 = ch.ops[c0 - 1] := by simp [List.getD_eq_getElem?_getD, show c0 - 1 < ch.ops.length by omega]
          have hq : ch.ops.getD c0 0 = i := by simp [List.getD_eq_getElem?_getD, hc0, hci]
          rw [hz, hp, hq, Bool.false_or] at h3
          obtain ⟨e, he, h4, h5⟩ := depB_spec ho' h3
          have h6 := getD_of_false (hwait e he h5)
          rw [h4] at h6
          have := (I.chain (c0 - 1) ch.ops[c0 - 1] (by simp [show c0 - 1 < ch.ops.length by omega])).1 h6
          omega
        · omega
      subst hcc
      refine wp_one (by simpa using ho') (obC c0 i o hci' ho' ee a w I.size hbase hdep I.chainC) fun a' w' h => ?_
      obtain ⟨e', hm, h1, h2⟩ := h
      have hchain : ∀ m i', ch.ops[m]? = some i' → ((listed.setIfInBounds i true).getD i' true = true ↔ m < c0 + 1) := by
        intro m i' hm
        by_cases hii : i' = i
        · subst hii
          have : m = c0 := by
            have hnd : ch.ops.Nodup := of_decide_eq_true hc4
            have hmlt : m < ch.ops.length := (List.getElem?_eq_some_iff.1 hm).1
            exact (List.getElem?_inj hmlt hnd).1 (by rw [hm, hci'])
          exact ⟨fun _ => by omega, fun _ => hseti⟩
        · rw [hset i' hii, I.chain m i' hm]
          refine ⟨fun h => by omega, fun h => ?_⟩
          rcases Nat.lt_or_ge m c0 with h' | h'
          · exact h'
          · have : m = c0 := by omega
            subst this
            rw [hci'] at hm; exact absurd (Option.some.inj hm).symm hii
      refine ih _ (c0 + 1) a' w' e' ?_ hcnt'
      rcases h1 with ⟨hd, rfl⟩ | ⟨d, v, hd, rfl, hv⟩
      · refine ⟨I.size, I.defers, fun t ht => ?_, fun j oj d' hoj hlj hd' => ?_, hclosed, by simp [I.lsize], by omega, hchain, h2, trivial⟩
        · refine I.base t fun j oj hoj hlj => ?_
          by_cases hji : j = i
          · subst hji; rw [hun] at hlj; cases hlj
          · exact ht j oj hoj (by rw [hset j hji]; exact hlj)
        · by_cases hji : j = i
          · subst hji
            rw [ho'] at hoj; cases hoj
            rw [hd] at hd'; cases hd'
          · rw [hset j hji] at hlj
            exact hm j _ (I.phi j oj d' hoj hlj hd')
      · obtain ⟨f1, f2⟩ := hframe d v e' hd hm hv
        exact ⟨by rw [putsL_size, I.size], by rw [putsL_defers, I.defers], f1, f2, hclosed, by simp [I.lsize], by omega, hchain, h2, trivial⟩
    · have hin' : ch.has i = false := by simpa using hin
      refine wp_one (by simpa using ho') (obN i o ho' hin' ee a w c I.size I.chainC hbase hdep) fun a' w' h => ?_
      obtain ⟨⟨d, v, hd, rfl, hv⟩, hg⟩ := h
      obtain ⟨f1, f2⟩ := hframe d v ee hd (fun _ _ h => h) hv
      refine ih _ c _ w' ee ⟨by rw [putsL_size, I.size], by rw [putsL_defers, I.defers], f1, f2, hclosed, by simp [I.lsize], I.cle, ?_, hC _ _ w w' hg I.chainC, trivial⟩ hcnt'
      · intro m i' hm
        have hii : i' ≠ i := by
          rintro rfl
          have : ch.has i' = true := by simpa [Chain.has] using List.mem_of_getElem? hm
          rw [hin'] at this; cases this
        rw [hset i' hii]
        exact I.chain m i' hm
end

section
variable {P : Program} {ol : List Oper} {Q : Exit → Act → World → Prop} {ops : List Nat} {φ : Nat → Value → Prop} {G : World → Prop} {a0 : Act} {N : Nat}
def PhE (ops : List Nat) (φ : Nat → Value → Prop) (e : List Value) (j : Nat) (u : Value) : Prop := (∀ c : Nat, ops[c]? = some j → e[c]? = some u) ∧ (ops.contains j = false → φ j u)
theorem PhE.mono {e : List Value} {v : Value} {j : Nat} {u : Value} (h : PhE ops φ e j u) : PhE ops φ (e ++ [v]) j u :=
  ⟨fun c hc => by have h1 := h.1 c hc; have hl := (List.getElem?_eq_some_iff.1 h1).1; rw [List.getElem?_append_left hl]; exact h1, h.2⟩
theorem PhE.light {j : Nat} {e : List Value} {u : Value} (hh : ops.contains j = false) (h : φ j u) : PhE ops φ e j u :=
  ⟨fun c hc => by have : ops.contains j = true := by simpa using List.mem_of_getElem? hc
                  exact absurd (this.symm.trans hh) (by decide), fun _ => h⟩
def KE (P : Program) (ol : List Oper) (ops : List Nat) (φ : Nat → Value → Prop) (G : World → Prop) (a0 : Act) (N : Nat) (Q : Exit → Act → World → Prop) : List Nat → List Value → World → Prop
  | [], e, w => ∀ w1, w.grownBy w1 none → ∀ a', a'.tmps.size = N → a'.defers = a0.defers → (∀ t, (ol.all fun o => o.dst != some t) = true → a'.tmps.getD t undef = a0.tmps.getD t undef) →
      (∀ j oj d, ol[j]? = some oj → oj.dst = some d → PhE ops φ e j (a'.tmps.getD d undef)) → Q .normal (putsL a' []) w1
  | i :: r, e, w => ∀ w1, w.grownBy w1 none → G w1 → ∀ a, a.tmps.size = N → (∀ t, safeB ol i t = true → a.tmps.getD t undef = a0.tmps.getD t undef) → (∀ j oj d, depB ol i j = true → ol[j]? = some oj → oj.dst = some d → PhE ops φ e j (a.tmps.getD d undef)) →
      ∀ o, ol[i]? = some o → wpList P ol.toArray (fun ex a' w' => ex = .normal ∧ ∃ e', (∀ j u, PhE ops φ e j u → PhE ops φ e' j u) ∧ ((o.dst = none ∧ a' = a) ∨ ∃ d v, o.dst = some d ∧ a' = putsL a [(d, v)] ∧ PhE ops φ e' i v) ∧ (e'.length = e.length + 1 ∧ KE P ol ops φ G a0 N Q r e' w' ∧ G w')) [o] (putsL a []) w1
theorem KE.stable : ∀ {rs : List Nat} {e : List Value} {w w2 : World}, KE P ol ops φ G a0 N Q rs e w → w.grownBy w2 none → KE P ol ops φ G a0 N Q rs e w2
  | [], _, _, _, h, E => fun w1 E1 => h w1 (grown_trans E E1)
  | _ :: _, _, _, _, h, E => fun w1 E1 => h w1 (grown_trans E E1)
def ObE (P : Program) (ol : List Oper) (ops : List Nat) (φ : Nat → Value → Prop) (G : World → Prop) (a0 : Act) (N : Nat) (i : Nat) (o : Oper) : Prop :=
  ∀ (e : List Value) (a : Act) (w : World), a.tmps.size = N → G w → (∀ t, safeB ol i t = true → a.tmps.getD t undef = a0.tmps.getD t undef) → (∀ j oj d, depB ol i j = true → ol[j]? = some oj → oj.dst = some d → PhE ops φ e j (a.tmps.getD d undef)) →
    wpList P ol.toArray (fun ex a' w' => ex = .normal ∧ (∃ d v, o.dst = some d ∧ a' = putsL a [(d, v)] ∧ PhE ops φ e i v) ∧ w.grownBy w' none) [o] (putsL a []) w
def ObEs (P : Program) (ol : List Oper) (ops : List Nat) (φ : Nat → Value → Prop) (G : World → Prop) (a0 : Act) (N : Nat) : Nat → List Oper → Prop
  | _, [] => True
  | i, o :: r => (ops.contains i = false → ObE P ol ops φ G a0 N i o) ∧ ObEs P ol ops φ G a0 N (i + 1) r
theorem ObEs.nil {i : Nat} : ObEs P ol ops φ G a0 N i [] := trivial
theorem ObEs.cons {i : Nat} {o : Oper} {r : List Oper} (h : ObE P ol ops φ G a0 N i o) (h' : ObEs P ol ops φ G a0 N (i + 1) r) : ObEs P ol ops φ G a0 N i (o :: r) := ⟨fun _ => h, h'⟩
theorem ObEs.pass {i : Nat} {o : Oper} {r : List Oper} (hh : ops.contains i = true) (h' : ObEs P ol ops φ G a0 N (i + 1) r) : ObEs P ol ops φ G a0 N i (o :: r) := ⟨fun h => absurd (hh.symm.trans h) (by decide), h'⟩
theorem ObEs.getx : ∀ {l : List Oper} {i : Nat}, ObEs P ol ops φ G a0 N i l → ∀ j o, l[j]? = some o → ops.contains (i + j) = false → ObE P ol ops φ G a0 N (i + j) o
  | [], _, _, j, o, h, _ => by simp at h
  | o' :: r, i, h, 0, o, hj, hs => by simp at hj; subst hj; exact h.1 hs
  | o' :: r, i, h, j + 1, o, hj, hs => by
    have := ObEs.getx h.2 j o (by simpa using hj) (by rwa [show i + 1 + j = i + (j + 1) by omega])
    rwa [show i + 1 + j = i + (j + 1) by omega] at this
theorem any_env (ops : List Nat) (hlex : lexB' ol = true) (hdn : dstNB ol N = true) (hdst : dstsB ol = true) (hch : (⟨ops, fun _ => N⟩ : Chain).okB ol = true)
    {l : List (Nat × Value)} {w : World} (hN : a0.tmps.size = N) (hG : ∀ w1 w2, w1.grownBy w2 none → G w1 → G w2) (g0 : G w) (obL : ObEs P ol ops φ G (putsL a0 l) N 0 ol) (hdf : (putsL a0 l).defers = a0.defers)
    (main : KE P ol ops φ G (putsL a0 l) N Q ops [] w) : RegAny P ol Q (putsL a0 l) w := by
  have hnd : ops.Nodup := by
    have h := hch; simp only [Chain.okB, Bool.and_eq_true] at h; exact of_decide_eq_true h.2
  have hd : w.grownBy { w with drawn := w.drawn + 1 } none := ⟨rfl, rfl, rfl, Nat.le_refl _, fun _ _ _ => rfl⟩
  have I : RInv ol (fun j u _ => PhE ops φ [] j u) (fun c _ w => ([] : List Value).length = c ∧ KE P ol ops φ G (putsL a0 l) N Q (ops.drop c) [] w ∧ G w) ⟨ops, fun _ => N⟩ (putsL a0 l) N w (fun _ _ => True) (Array.replicate ol.length false) 0 (putsL a0 l) { w with drawn := w.drawn + 1 } := by
    refine ⟨slN hN, rfl, fun _ _ => rfl, fun j o d hj hl => ?_, fun j o hj hl => ?_, by simp, Nat.zero_le _, fun m i hm => ?_, ⟨rfl, main.stable hd, hG _ _ hd g0⟩, trivial⟩
    · have : j < ol.length := (List.getElem?_eq_some_iff.1 hj).1
      simp [Array.getD_eq_getD_getElem?, this] at hl
    · have : j < ol.length := (List.getElem?_eq_some_iff.1 hj).1
      simp [Array.getD_eq_getD_getElem?, this] at hl
    · have h3 : i < ol.length := by
        have hch' := hch
        simp only [Chain.okB, Bool.and_eq_true] at hch'
        have := List.all_eq_true.1 hch'.1.2 i (List.mem_of_getElem? hm)
        simpa [Nat.blt_eq] using this
      simp [Array.getD_eq_getD_getElem?, h3]
  have := region_env_steps (P := P) (Q := Q) (E := List Value) (Φ := fun e j u => PhE ops φ e j u) (C := fun e c w => e.length = c ∧ KE P ol ops φ G (putsL a0 l) N Q (ops.drop c) e w ∧ G w) (ch := ⟨ops, fun _ => N⟩) hlex hdn hdst hch w
    (fun e c w1 w2 E1 h => ⟨h.1, h.2.1.stable E1, hG _ _ E1 h.2.2⟩)
    (fun i o hi hh e a w1 c h1 h2 h3 h4 => by
      have hh' : ops.contains i = false := hh
      have h5 := ObEs.getx obL i o hi (by rw [Nat.zero_add]; exact hh') e a w1 h1 h2.2.2 (by rw [Nat.zero_add]; exact h3) (by rw [Nat.zero_add]; exact h4)
      rw [Nat.zero_add] at h5; exact h5)
    (fun c i o hc hi e a w1 h1 h2 h3 h4 => by
      obtain ⟨hl, hk, hg⟩ := h4
      have hdr : ops.drop c = i :: ops.drop (c + 1) := by
        have hlt : c < ops.length := (List.getElem?_eq_some_iff.1 hc).1
        rw [List.drop_eq_getElem_cons hlt, (List.getElem?_eq_some_iff.1 hc).2]
      rw [hdr] at hk
      subst hl
      exact hk w1 (grown_refl _ _) hg a h1 h2 h3 o hi)
    (fun a' w' e J => by
      have hk := J.chainC.2.1
      rw [List.drop_of_length_le (Nat.le_refl _)] at hk
      exact hk w' (grown_refl _ _) a' J.size (J.defers) (fun t ht => J.base t fun j o hj _ hd' => by
        have := List.all_eq_true.1 ht o (List.mem_of_getElem? hj)
        simp [hd'] at this) (fun j oj d hj hd' => J.phi j oj d hj (by
        have : j < ol.length := (List.getElem?_eq_some_iff.1 hj).1
        simp [Array.getD_eq_getD_getElem?, this]) hd'))
    ol.length (Array.replicate ol.length false) 0 (putsL a0 l) _ [] I (Nat.le_trans (List.countP_le_length) (by simp))
  exact this
theorem ke_end {o : Oper} {i d : Nat} {v : Value} {a : Act} {w : World} {e : List Value} {r : List Nat} (hi : ops[e.length]? = some i) (hnd : ops.Nodup) (hd : o.dst = some d) (g : G w) (h : KE P ol ops φ G a0 N Q r (e ++ [v]) w) :
    wpList P ol.toArray (fun ex a' w' => ex = .normal ∧ ∃ e', (∀ j u, PhE ops φ e j u → PhE ops φ e' j u) ∧ ((o.dst = none ∧ a' = a) ∨ ∃ d v, o.dst = some d ∧ a' = putsL a [(d, v)] ∧ PhE ops φ e' i v) ∧ (e'.length = e.length + 1 ∧ KE P ol ops φ G a0 N Q r e' w' ∧ G w')) [] (putsL a [(d, v)]) w :=
  ⟨rfl, e ++ [v], fun _ _ h => h.mono, .inr ⟨d, v, hd, rfl, fun c' hc' => by
    have : c' = e.length := (List.getElem?_inj (List.getElem?_eq_some_iff.1 hc').1 hnd).1 (by rw [hc', hi])
    subst this; simp, fun hh => by
    have : ops.contains i = true := by simpa using List.mem_of_getElem? hi
    exact absurd (this.symm.trans hh) (by decide)⟩, by simp, h, g⟩
theorem obE_end {o : Oper} {i d : Nat} {v : Value} {a : Act} {w : World} {e : List Value} (hh : ops.contains i = false) (hd : o.dst = some d) (hv : φ i v) :
    wpList P ol.toArray (fun ex a' w' => ex = .normal ∧ (∃ d v, o.dst = some d ∧ a' = putsL a [(d, v)] ∧ PhE ops φ e i v) ∧ w.grownBy w' none) [] (putsL a [(d, v)]) w := ⟨rfl, ⟨d, v, hd, rfl, PhE.light hh hv⟩, grown_refl _ _⟩
end
end Go.Gx

namespace Go.Proofs.Ytmhdbphpmgjpcaa
open Go.Gx Go.RowKit
attribute [local irreducible] wpList wpStill Code.wp Calls

theorem labMayB_ret (l : List UInt16) (v : Value) (w : World) (hz : l.length ≤ 9223372036854775807) (hl : RdC w 0 w.heap.size 1 v l.length (l.map u16v)) : Ret Try.prog 76 #[v] w (fun v' w' => Below w.heap.size w w' ∧ v' = .bool (mayL l)) := by
 have hb := Below.refl w.heap.size w
 refine enter (N := 10) Try.func76 rfl rfl (by simp) fun a hN hd hA => ?_
 have c : a.tmps.getD 0 undef = v := hA 0 (by simp)
 clear hA
 refine zF fun _ a => zH (zD rfl (zB (a _ _ (zF fun _ a => zH (zG (zC hN rfl c) (op_len_rd Try.underlying54 (zA hN rfl) hl (op_leq (zA hN rfl) rfl (fun d => ?_) (fun d => ?_))))))))
 ·
  refine zG (zA hN rfl) (zS (j := 3) (dj := 6) (b := true) rfl rfl rfl (zA hN rfl) (zG (zC hN rfl c) (zS (j := 3) (dj := 6) (b := true) rfl rfl rfl (zA hN rfl) (zj ok115 (rises_ret l _ _ (by first | assumption | omega | (simp only [List.length_append, List.length_cons, List.length_nil, List.length_drop, List.length_take]; omega) | (dsimp only; omega) | decide | (simp [keyV, be8_len]; done)) (show RdC w 0 w.heap.size 1 v l.length (l.map u16v) from by have hh : RdC w 0 w.heap.size 1 _ _ _ := (hl.mono (L' := 0) (B' := w.heap.size) (Nat.zero_le _) zx); first | exact hh | exact hh.cast (by first | omega | (simp; try omega)) (by first | rfl | simp [u16v]))) ⟨(zA hN rfl), trivial⟩ ?_))))
  rintro _ d ⟨c, rfl⟩
  have c := zQ c
  obtain ⟨hb, _⟩ := yE hb c
  have hl := hl.keep0 c
  refine zc (zA hN rfl) (zA hN rfl) (zD (zA hN rfl) (zB (a _ _ (wp_ret (ret1 rfl hd (zA hN rfl) ⟨_, rfl, ?_⟩)))))
  exact ⟨hb, congrArg Value.bool (by unfold mayL; first | (rw [decide_eq_true (show l.length ≤ 8 by omega), Bool.and_true]; done) | (rw [decide_eq_false (show ¬ l.length ≤ 8 by omega), Bool.and_false]))⟩
 refine zG (zA hN rfl) (zR (j := 3) (dj := 6) (b := true) rfl rfl rfl (zA hN rfl) rfl rfl (zR (j := 3) (dj := 6) (b := true) rfl rfl rfl (zA hN rfl) rfl rfl (zd (zA hN rfl) rfl (zD (zA hN rfl) (zB (a _ _ (wp_ret (ret1 rfl hd (zA hN rfl) ⟨_, rfl, ?_⟩))))))))
 exact ⟨hb, congrArg Value.bool (by unfold mayL; first | (rw [decide_eq_true (show l.length ≤ 8 by omega), Bool.and_true]; done) | (rw [decide_eq_false (show ¬ l.length ≤ 8 by omega), Bool.and_false]))⟩

theorem kernNew_ret (L : List CSn) (q : Int) (vL : Value) (w : World) (hL : L.length ≤ 9223372036854775807) (hll : ∀ x ∈ L, x.1.2.length ≤ 9223372036854775807 ∧ x.2.2.length ≤ 9223372036854775807) (hr : RdC w 0 w.heap.size 2 vL L.length (L.flatMap cells2)) (hlab : ∀ x9 ∈ (L.map Prod.fst), RdC w 0 w.heap.size 1 x9.1 x9.2.length (x9.2.map u16v)) (hown : ∀ x9 ∈ (L.map Prod.snd), RdC w 0 w.heap.size 1 x9.1 x9.2.length (x9.2.map u16v)) : Ret Try.prog 32 #[(.agg #[vL, (.int .i64 q)])] w (fun v' w' => Below w.heap.size w w' ∧ ((cfgOk L q = false ∧ v' = .tuple #[.pointer none, .int .i64 1]) ∨ (cfgOk L q = true ∧ ∃ (k : Nat) (F : Nat → Prop), v' = .tuple #[ptr k 0, .int .i64 0] ∧ KernR w' w.heap.size k (L.map ksOf) [] F))) := by
 have hb := Below.refl w.heap.size w
 refine enter (N := 66) Try.func32 rfl rfl (by simp) fun a hN hd hA => ?_
 have c : a.tmps.getD 0 undef = (.agg #[vL, (.int .i64 q)]) := hA 0 (by simp)
 clear hA
 refine zF fun _ d => zH (op_box (cs := [vL, (.int .i64 q)]) (zC hN rfl c) rfl ?_)
 intro o l m p f g
 obtain ⟨hb, _⟩ := yE hb g
 have hr := hr.keep0 g
 have hlab := all9 hlab fun _ h => h.keep0 g
 have hown := all9 hown fun _ h => h.keep0 g
 refine zD rfl (zD rfl (zB (d _ _ (zF fun _ d => zF fun _ s => ?_))))
 refine zH (zM fld59_0 (zA hN rfl) (zN one57 (zA hN rfl) (f.cell rfl) (op_len_rd Try.underlying57 (zA hN rfl) hr (zD (zA hN rfl) (zB (s _ _ (zF fun _ s => zH (zG (zA hN rfl) (op_eql (zA hN rfl) rfl (fun t => ?_) (fun t => ?_))))))))))
 ·
  refine zG (zA hN rfl) (zR (j := 2) (dj := 13) (b := false) rfl rfl rfl (zA hN rfl) rfl rfl ?_)
  refine zR (j := 2) (dj := 13) (b := false) rfl rfl rfl (zA hN rfl) rfl rfl (zc (zA hN rfl) rfl (zG (zA hN rfl) (zR (j := 6) (dj := 17) (b := false) rfl rfl rfl (zA hN rfl) rfl rfl (zR (j := 6) (dj := 17) (b := false) rfl rfl rfl (zA hN rfl) rfl rfl (zR (j := 6) (dj := 17) (b := false) rfl rfl rfl (zA hN rfl) rfl rfl (zc (zA hN rfl) rfl (zG (zA hN rfl) (zR (j := 11) (dj := 22) (b := false) rfl rfl rfl (zA hN rfl) rfl rfl (zR (j := 11) (dj := 22) (b := false) rfl rfl rfl (zA hN rfl) rfl rfl ?_)))))))))
  refine zR (j := 11) (dj := 22) (b := false) rfl rfl rfl (zA hN rfl) rfl rfl (zc (zA hN rfl) rfl (zB (s _ _ (wp_cond_true (zA hN rfl) (zF fun _ s => zH (zD rfl (zD rfl (zB (s _ _ (wp_ret (zO ( (ret2 rfl hd (zA hN rfl) (zA hN rfl) ⟨_, rfl, ?_⟩)))))))))))))
  exact ⟨hb, .inl ⟨cfg_f1 zx, rfl⟩⟩
 refine zG (zA hN rfl) (zS (j := 2) (dj := 13) (b := false) rfl rfl rfl (zA hN rfl) (zG (zA hN rfl) (zS (j := 2) (dj := 13) (b := false) rfl rfl rfl (zA hN rfl) (op_gtr (zA hN rfl) rfl (fun y => ?_) (fun y => ?_)))))
 ·
  refine zd (zA hN rfl) (zA hN rfl) (zG (zA hN rfl) (zR (j := 6) (dj := 17) (b := false) rfl rfl rfl (zA hN rfl) rfl rfl (zR (j := 6) (dj := 17) (b := false) rfl rfl rfl (zA hN rfl) rfl rfl (zR (j := 6) (dj := 17) (b := false) rfl rfl rfl (zA hN rfl) rfl rfl (zc (zA hN rfl) rfl (zG (zA hN rfl) (zR (j := 11) (dj := 22) (b := false) rfl rfl rfl (zA hN rfl) rfl rfl (zR (j := 11) (dj := 22) (b := false) rfl rfl rfl (zA hN rfl) rfl rfl ?_))))))))
  refine zR (j := 11) (dj := 22) (b := false) rfl rfl rfl (zA hN rfl) rfl rfl (zc (zA hN rfl) rfl (zB (s _ _ (wp_cond_true (zA hN rfl) (zF fun _ s => zH (zD rfl (zD rfl (zB (s _ _ (wp_ret (zO ( (ret2 rfl hd (zA hN rfl) (zA hN rfl) ⟨_, rfl, ?_⟩)))))))))))))
  exact ⟨hb, .inl ⟨cfg_f1 zx, rfl⟩⟩
 refine zd (zA hN rfl) (zA hN rfl) (zG (zA hN rfl) (zS (j := 6) (dj := 17) (b := false) rfl rfl rfl (zA hN rfl) (zM fld59_1 (zA hN rfl) (zS (j := 6) (dj := 17) (b := false) rfl rfl rfl (zA hN rfl) (zN one3 (zA hN rfl) (f.cell rfl) (zS (j := 6) (dj := 17) (b := false) rfl rfl rfl (zA hN rfl) (op_lss (zA hN rfl) rfl (fun z => ?_) (fun z => ?_))))))))
 ·
  refine zd (zA hN rfl) (zA hN rfl) (zG (zA hN rfl) (zR (j := 11) (dj := 22) (b := false) rfl rfl rfl (zA hN rfl) rfl rfl (zR (j := 11) (dj := 22) (b := false) rfl rfl rfl (zA hN rfl) rfl rfl ?_)))
  refine zR (j := 11) (dj := 22) (b := false) rfl rfl rfl (zA hN rfl) rfl rfl (zc (zA hN rfl) rfl (zB (s _ _ (wp_cond_true (zA hN rfl) (zF fun _ s => zH (zD rfl (zD rfl (zB (s _ _ (wp_ret (zO ( (ret2 rfl hd (zA hN rfl) (zA hN rfl) ⟨_, rfl, ?_⟩)))))))))))))
  exact ⟨hb, .inl ⟨cfg_f1 zx, rfl⟩⟩
 refine zd (zA hN rfl) (zA hN rfl) (zG (zA hN rfl) (zS (j := 11) (dj := 22) (b := false) rfl rfl rfl (zA hN rfl) (zM fld59_1 (zA hN rfl) (zS (j := 11) (dj := 22) (b := false) rfl rfl rfl (zA hN rfl) (zN one3 (zA hN rfl) (f.cell rfl) (zS (j := 11) (dj := 22) (b := false) rfl rfl rfl (zA hN rfl) (op_gtr (zA hN rfl) rfl (fun A => ?_) (fun A => ?_))))))))
 ·
  refine zd (zA hN rfl) (zA hN rfl) (zB (s _ _ (wp_cond_true (zA hN rfl) (zF fun _ s => zH (zD rfl (zD rfl (zB (s _ _ (wp_ret (zO ( (ret2 rfl hd (zA hN rfl) (zA hN rfl) ⟨_, rfl, ?_⟩))))))))))))
  exact ⟨hb, .inl ⟨cfg_f1 zx, rfl⟩⟩
 refine zd (zA hN rfl) (zA hN rfl) (zB (s _ _ (wp_cond_false (zA hN rfl) (wp_skip (d _ _ (zF fun _ d => zH (op_mkmap (kv := sv) (vv := (Value.int .u64)) ?_)))))))
 intro K D J I B H
 obtain ⟨hb, _⟩ := yE hb H
 have hlab := all9 hlab fun _ h => h.keep0 H
 have hown := all9 hown fun _ h => h.keep0 H
 refine zf (pv := [(1, (Value.map (some D)))]) (v := (Value.agg #[(.slice none 0 0), (Value.map (some D))])) ⟨rfl, (zA hN rfl), trivial⟩ zy (op_box (cs := [(.slice none 0 0), (Value.map (some D))]) (zA hN rfl) rfl ?_)
 intro Q M R S P O
 obtain ⟨hb, _⟩ := yE hb O
 have hr := (hr.keep0 H).keep0 O
 have hlab := all9 hlab fun _ h => h.keep0 O
 have hown := all9 hown fun _ h => h.keep0 O
 have f := (f.keep0 H).keep0 O
 have B := B.keep0 O
 refine zD (zA hN rfl) (zB ?_)
 refine d _ _ (zF fun _ d => zF fun _ s => zH (zM fld59_0 (zA hN rfl) (zN one57 (zA hN rfl) (f.cell rfl) (op_len_rd Try.underlying57 (zA hN rfl) hr (zG rfl (zB (s _ _ (wp_block (loop_m (fun mz_ az_ w' => ∃ (i : Nat) (lv : Value) (C : List KC) (F0S : Nat → Prop), mz_ = L.length - i ∧ (Sl az_ 5 (ptr M 0)) ∧ (Sl az_ 31 vL) ∧ (Sl az_ 32 (.int .i64 ((L.length : Nat) : Int))) ∧ (Sl az_ 33 (.int .i64 ((i : Nat) : Int))) ∧ (i ≤ L.length) ∧ (C.length = i) ∧ (∀ j, j < i → mayL ((L.map Prod.fst).getD j D2).2 = true ∧ mayL ((L.map Prod.snd).getD j D2).2 = true) ∧ (Below w.heap.size w w') ∧ (Q.heap.size ≤ w'.heap.size) ∧ (RdC w' 0 w.heap.size 2 vL L.length (L.flatMap cells2)) ∧ (∀ x9 ∈ (L.map Prod.fst), RdC w' 0 w.heap.size 1 x9.1 x9.2.length (x9.2.map u16v)) ∧ (∀ x9 ∈ (L.map Prod.snd), RdC w' 0 w.heap.size 1 x9.1 x9.2.length (x9.2.map u16v)) ∧ (Bx w' l 59 [vL, (.int .i64 q)]) ∧ (MapC sv (.int .u64) w' D ([] : List (List UInt8 × Int))) ∧ (Bx w' M 134 [lv, (Value.map (some D))]) ∧ (SessAll w' w.heap.size ((L.take i).map ksOf) C F0S) ∧ (Own w' w.heap.size 137 3 lv i (C.flatMap cellsK))) _ hN hd ⟨0, (.slice none 0 0), [], NoB, rfl, (zU hN rfl), (zU hN rfl), (zU hN rfl), (zU hN rfl), (Nat.zero_le _), rfl, (fun _ h => absurd h (Nat.not_lt_zero _)), hb, (Nat.le_refl _), hr, hlab, hown, f, B, P, (SessAll.nil _ _), (Own.nil _ _ _ _)⟩ ?_)))))))))
 rintro _ ab Z T W ⟨i, lv, C, F0S, rfl, V, Y, aa, X, hi, hC, hmay, hb, ac, hr, hlab, hown, f, B, hxk, hS, U⟩
 have := hb.size
 refine zF fun _ s => zH ?_
 have ad := hS.notBx f zz zz zz
 have ae := hS.notMap B
 have af := hS.notBx hxk zz zz zz
 have ag := hS.notOwn U zz zz zz
 refine op_lss (zC T rfl X) (zC T rfl aa) (fun ah => ?_) (fun ah => ?_)
 ·
  refine zB (s _ _ (zF fun _ s => wp_cond_true (zA T rfl) (wp_skip (s _ _ (zF fun _ s => wp_block (zF fun _ J2 => zH (zh slt57 (zC T rfl Y) hr (zC T rfl X) zx zx ?_)))))))
  intro aj am ak al ai
  have hla : RdC Z 0 w.heap.size 1 ((L.map Prod.fst).getD i D2).1 ((L.map Prod.fst).getD i D2).2.length (((L.map Prod.fst).getD i D2).2.map u16v) := hlab _ (getD_mem (by simp; omega))
  have how : RdC Z 0 w.heap.size 1 ((L.map Prod.snd).getD i D2).1 ((L.map Prod.snd).getD i D2).2.length (((L.map Prod.snd).getD i D2).2.map u16v) := hown _ (getD_mem (by simp; omega))
  have hlL := cs_len hll (show i < L.length by omega)
  refine zX (cs := [((L.map Prod.fst).getD i D2).1, ((L.map Prod.snd).getD i D2).1]) agg56 rfl (zA T rfl) (fun j u hu => ai j u (by have := (List.getElem?_eq_some_iff.1 hu).1; simpa using this) ((el_cs (i := i) zx zx) j u hu)) (op_alloc (cs := [(.slice none 0 0), (.slice none 0 0)]) zero56 rfl ?_)
  intro aq ap ar au an ao
  have av : ¬ F0S ap := fun hf => by have := (hS.lt _ hf).2; omega
  obtain ⟨hb, _⟩ := yE hb ao
  have hlab := all9 hlab fun _ h => h.keep0 ao
  have hown := all9 hown fun _ h => h.keep0 ao
  have hla := hla.keep0 ao
  have how := how.keep0 ao
  have aw := an
  refine zZ size56 (zA T rfl) (zA T rfl) rfl (by simp only [yA, yB, yC, yD, hla.one, how.one]; try rfl) an rfl ?_
  intro ay an ax
  have := ax.size
  have hlab := all9 hlab fun _ h => h.keep ax sR
  have hown := all9 hown fun _ h => h.keep ax sR
  have hS := (hS.kz ao).keepG (Gr.of ax) (Dj.one av)
  have hla := hla.keep ax sR
  have hb := below_step1 hb ax hb.size zx
  refine zB ?_
  refine J2 _ _ (zF fun _ J2 => zF fun _ J3 => zH (zM fld56_0 (zA T rfl) (zN one54 (zA T rfl) (an.cell rfl) (zj ok76 (labMayB_ret ((L.map Prod.fst).getD i D2).2 _ _ (by first | assumption | omega | (simp only [List.length_append, List.length_cons, List.length_nil, List.length_drop, List.length_take]; omega) | (dsimp only; omega) | decide | (simp [keyV, be8_len]; done)) (show RdC ay 0 ay.heap.size 1 ((L.map Prod.fst).getD i D2).1 ((L.map Prod.fst).getD i D2).2.length (((L.map Prod.fst).getD i D2).2.map u16v) from by have hh : RdC ay 0 ay.heap.size 1 _ _ _ := (hla.mono (L' := 0) (B' := ay.heap.size) (Nat.zero_le _) zx); first | exact hh | exact hh.cast (by first | omega | (simp; try omega)) (by first | rfl | simp [u16v]))) ⟨(zA T rfl), trivial⟩ ?_))))
  rintro _ aB ⟨az, rfl⟩
  have az := zQ az
  obtain ⟨hb, _⟩ := yE hb az
  have hr := ((hr.keep0 ao).keep ax sR).keep0 az
  have hlab := all9 hlab fun _ h => h.keep0 az
  have hown := all9 hown fun _ h => h.keep0 az
  have f := ((f.keep0 ao).keep ax sB).keep0 az
  have B := ((B.keep0 ao).keepB aw ax).keep0 az
  have hxk := ((hxk.keep0 ao).keep ax sB).keep0 az
  have hS := hS.kz az
  have U := ((U.keep0 ao).keepX aw ax zz).keep0 az
  have hla := hla.keep0 az
  have how := (how.keep ax sR).keep0 az
  have an := an.keep0 az
  rcases Bool.eq_false_or_eq_true ((mayL ((L.map Prod.fst).getD i D2).2)) with aC | aC
  ·
   rw [aC]
   refine op_not (zA T rfl) (zG (zA T rfl) ?_)
   refine zS (j := 4) (dj := 41) (b := false) rfl rfl rfl (zA T rfl) (zM fld56_1 (zA T rfl) (zS (j := 4) (dj := 41) (b := false) rfl rfl rfl (zA T rfl) (zN one54 (zA T rfl) (an.cell rfl) (zS (j := 4) (dj := 41) (b := false) rfl rfl rfl (zA T rfl) (zj ok76 (labMayB_ret ((L.map Prod.snd).getD i D2).2 _ _ (by first | assumption | omega | (simp only [List.length_append, List.length_cons, List.length_nil, List.length_drop, List.length_take]; omega) | (dsimp only; omega) | decide | (simp [keyV, be8_len]; done)) (show RdC aB 0 aB.heap.size 1 ((L.map Prod.snd).getD i D2).1 ((L.map Prod.snd).getD i D2).2.length (((L.map Prod.snd).getD i D2).2.map u16v) from by have hh : RdC aB 0 aB.heap.size 1 _ _ _ := (how.mono (L' := 0) (B' := aB.heap.size) (Nat.zero_le _) zx); first | exact hh | exact hh.cast (by first | omega | (simp; try omega)) (by first | rfl | simp [u16v]))) ⟨(zA T rfl), trivial⟩ ?_)))))
   rintro _ aE ⟨aD, rfl⟩
   have aD := zQ aD
   obtain ⟨hb, _⟩ := yE hb aD
   have hr := hr.keep0 aD
   have hlab := all9 hlab fun _ h => h.keep0 aD
   have hown := all9 hown fun _ h => h.keep0 aD
   have f := f.keep0 aD
   have B := B.keep0 aD
   have hxk := hxk.keep0 aD
   have hS := hS.kz aD
   have U := U.keep0 aD
   have hla := hla.keep0 aD
   have how := how.keep0 aD
   have an := an.keep0 aD
   rcases Bool.eq_false_or_eq_true ((mayL ((L.map Prod.snd).getD i D2).2)) with aF | aF
   ·
    rw [aF]
    refine zS (j := 4) (dj := 41) (b := false) rfl rfl rfl (zA T rfl) (op_not (zA T rfl) (zd (zA T rfl) (zA T rfl) (zB (J3 _ _ (wp_cond_false (zA T rfl) (wp_skip (J2 _ _ ?_)))))))
    have aG := mayL_len aC
    have aH := mayL_len aF
    refine reg_split (hd := [_, _, _, _, _, _, _, _, _, _, _, _, _, _, _]) (tl := _) 15 mixed zy rfl rfl (any_env (φ := phiV [(fun uz => uz = (ptr M 0)), (fun uz => uz = (ptr M 0)), (fun uz => uz = (ptr M 0)), (fun uz => uz = (ptr M 0)), (fun uz => uz = lv), (fun uz => uz = (ptr ap 0)), (fun uz => uz = ((L.map Prod.fst).getD i D2).1), (fun _ => True), (fun uz => uz = (ptr ap 1)), (fun uz => uz = ((L.map Prod.snd).getD i D2).1), (fun _ => True), (fun _ => True), (fun _ => True), (fun _ => True), (fun _ => True)]) (G := fun w' => Bx w' M 134 [lv, (Value.map (some D))] ∧ Bx w' ap 56 [((L.map Prod.fst).getD i D2).1, ((L.map Prod.snd).getD i D2).1]) [7, 10, 11, 12, 13, 14] zy zy zy zy T (fun w1 w2 E h => by obtain ⟨h0, h1⟩ := h; exact ⟨h0.keep0 E, h1.keep0 E⟩) ⟨hxk, an⟩ (ObEs.cons ?_ (ObEs.cons ?_ (ObEs.cons ?_ (ObEs.cons ?_ (ObEs.cons ?_ (ObEs.cons ?_ (ObEs.cons ?_ (ObEs.pass rfl (ObEs.cons ?_ (ObEs.cons ?_ (ObEs.pass rfl (ObEs.pass rfl (ObEs.pass rfl (ObEs.pass rfl (ObEs.pass rfl (ObEs.nil)))))))))))))))) (by simp only [putsL_defers]) ?_)
    ·
     intro eA aA wA hNA hGA hbsA hdpA
     have aI := (hbsA 5 rfl).trans (zL T rfl V)
     refine zG (zC hNA rfl aI) ?_
     exact obE_end rfl rfl rfl
    ·
     intro eA aA wA hNA hGA hbsA hdpA
     have aI := (hbsA 5 rfl).trans (zL T rfl V)
     refine zG (zC hNA rfl aI) ?_
     exact obE_end rfl rfl rfl
    ·
     intro eA aA wA hNA hGA hbsA hdpA
     have aI : Sl aA 48 (ptr M 0) := (hdpA 1 _ 48 zy rfl rfl).2 rfl
     refine op_nil (zC hNA rfl aI) ?_
     exact obE_end rfl rfl rfl
    ·
     intro eA aA wA hNA hGA hbsA hdpA
     have aI : Sl aA 49 (ptr M 0) := (hdpA 2 _ 49 zy rfl rfl).2 rfl
     refine zM fld134_0 (zC hNA rfl aI) ?_
     exact obE_end rfl rfl rfl
    ·
     intro eA aA wA hNA hGA hbsA hdpA
     have aI : Sl aA 50 (ptr M 0) := (hdpA 3 _ 50 zy rfl rfl).2 rfl
     obtain ⟨hxk, an⟩ := hGA
     refine zN one132 (zC hNA rfl aI) (hxk.cell rfl) ?_
     exact obE_end rfl rfl rfl
    ·
     intro eA aA wA hNA hGA hbsA hdpA
     have aI := (hbsA 7 rfl).trans (zU T rfl)
     refine zM fld56_0 (zC hNA rfl aI) ?_
     exact obE_end rfl rfl rfl
    ·
     intro eA aA wA hNA hGA hbsA hdpA
     have aJ : Sl aA 52 (ptr ap 0) := (hdpA 5 _ 52 zy rfl rfl).2 rfl
     obtain ⟨hxk, an⟩ := hGA
     refine zN one54 (zC hNA rfl aJ) (an.cell rfl) ?_
     exact obE_end rfl rfl rfl
    ·
     intro eA aA wA hNA hGA hbsA hdpA
     have aI := (hbsA 7 rfl).trans (zU T rfl)
     refine zM fld56_1 (zC hNA rfl aI) ?_
     exact obE_end rfl rfl rfl
    ·
     intro eA aA wA hNA hGA hbsA hdpA
     have aI : Sl aA 55 (ptr ap 1) := (hdpA 8 _ 55 zy rfl rfl).2 rfl
     obtain ⟨hxk, an⟩ := hGA
     refine zN one54 (zC hNA rfl aI) (an.cell rfl) ?_
     exact obE_end rfl rfl rfl
    intro aM aI _ aK aJ aN aL o_ ho_; obtain rfl := zE ho_
    obtain ⟨hb, _⟩ := yE hb aI
    have hlab := all9 hlab fun _ h => h.keep0 aI
    have hown := all9 hown fun _ h => h.keep0 aI
    have hS := hS.kz aI
    have hla := hla.keep0 aI
    have aO : Sl aK 53 ((L.map Prod.fst).getD i D2).1 := (aL 6 _ 53 zy rfl rfl).2 rfl
    refine zj ok77 (CloneL ((L.map Prod.fst).getD i D2).2 _ _ zx (hla.mono (Nat.zero_le _) zx)) ⟨(zC aJ rfl aO), trivial⟩ ?_
    rintro aR aS ⟨aQ, aP⟩
    have aQ := zQ aQ
    obtain ⟨hb, _⟩ := yE hb aQ
    have hlab := all9 hlab fun _ h => h.keep0 aQ
    have hown := all9 hown fun _ h => h.keep0 aQ
    have hxk := (hxk.keep0 aI).keep0 aQ
    have hS := hS.kz aQ
    have an := (an.keep0 aI).keep0 aQ
    have aP := aP.mono (base' := w.heap.size) zx
    refine ke_end rfl zz rfl ⟨hxk, an⟩ ?_
    intro aY aT _ aW aV aX aU o_ ho_; obtain rfl := zE ho_
    obtain ⟨hb, _⟩ := yE hb aT
    have hlab := all9 hlab fun _ h => h.keep0 aT
    have hown := all9 hown fun _ h => h.keep0 aT
    have hS := hS.kz aT
    have how := ((how.keep0 aI).keep0 aQ).keep0 aT
    have aZ : Sl aW 56 ((L.map Prod.snd).getD i D2).1 := (aU 9 _ 56 zy rfl rfl).2 rfl
    refine zj ok77 (CloneL ((L.map Prod.snd).getD i D2).2 _ _ zx (how.mono (Nat.zero_le _) zx)) ⟨(zC aV rfl aZ), trivial⟩ ?_
    rintro a2 a3 ⟨a1, a0⟩
    have a1 := zQ a1
    obtain ⟨hb, _⟩ := yE hb a1
    have hlab := all9 hlab fun _ h => h.keep0 a1
    have hown := all9 hown fun _ h => h.keep0 a1
    have hxk := (hxk.keep0 aT).keep0 a1
    have hS := hS.kz a1
    have an := (an.keep0 aT).keep0 a1
    have a0 := a0.mono (base' := w.heap.size) zx
    refine ke_end rfl zz rfl ⟨hxk, an⟩ ?_
    intro a5 a4 _ a6 a7 a8 a9 o_ ho_; obtain rfl := zE ho_
    obtain ⟨hb, _⟩ := yE hb a4
    have hlab := all9 hlab fun _ h => h.keep0 a4
    have hown := all9 hown fun _ h => h.keep0 a4
    have hxk := hxk.keep0 a4
    have hS := hS.kz a4
    have U := ((((U.keep0 aI).keep0 aQ).keep0 aT).keep0 a1).keep0 a4
    refine zj ok17 (NewR_s 16 _ zx) ⟨rfl, trivial⟩ ?_
    rintro _ be ⟨ba, bc, bd, rfl, bb⟩
    have bf : ∀ k, bd k → a5.heap.size ≤ k := fun k hk => (bb.lt k hk).1
    have bg : ¬ bd M := fun hf => by have := bf _ hf; have := hxk.lt; omega
    have bh : Dj F0S bd := Dj.fresh (fun k hk => (hS.lt k hk).2) bf
    have bi : Dj (Bl lv) bd := Dj.fresh (fun k hk => (U.lt k hk).2) bf
    have ba := zQ ba
    obtain ⟨hb, _⟩ := yE hb ba
    have hlab := all9 hlab fun _ h => h.keep0 ba
    have hown := all9 hown fun _ h => h.keep0 ba
    have hxk := hxk.keep0 ba
    have hS := hS.kz ba
    have an := (an.keep0 a4).keep0 ba
    have bb : (PostR sv 126 9) be w.heap.size bc 16 ([] : List (List UInt8)) bd := bb.mono zx
    refine ke_end rfl zz rfl ⟨hxk, an⟩ ?_
    intro bn bj _ bm bl bo bk o_ ho_; obtain rfl := zE ho_
    obtain ⟨hb, _⟩ := yE hb bj
    have hlab := all9 hlab fun _ h => h.keep0 bj
    have hown := all9 hown fun _ h => h.keep0 bj
    have hxk := hxk.keep0 bj
    have hS := hS.kz bj
    have an := an.keep0 bj
    have aP := ((((aP.keep0 aT).keep0 a1).keep0 a4).keep0 ba).keep0 bj
    have a0 := ((a0.keep0 a4).keep0 ba).keep0 bj
    have bb := bb.kz bj
    have bp : Sl bm 54 aR := (zE ((bk 7 _ 54 zy rfl rfl).1 0 rfl)).symm
    have bq : Sl bm 57 a2 := (zE ((bk 10 _ 57 zy rfl rfl).1 1 rfl)).symm
    have br : Sl bm 58 (ptr bc 0) := (zE ((bk 11 _ 58 zy rfl rfl).1 2 rfl)).symm
    refine zf (pv := [(0, aR), (1, a2), (2, (ptr bc 0))]) (v := (Value.agg #[aR, a2, (ptr bc 0)])) ⟨rfl, (zC bl rfl bp), ⟨rfl, (zC bl rfl bq), ⟨rfl, (zC bl rfl br), trivial⟩⟩⟩ (by obtain ⟨_, _, _, rfl⟩ := aP.sl; obtain ⟨_, _, _, rfl⟩ := a0.sl; kernel_rfl) (ke_end rfl zz rfl ⟨hxk, an⟩ ?_)
    intro bz bt _ bv bw bA bu o_ ho_; obtain rfl := zE ho_
    obtain ⟨hb, _⟩ := yE hb bt
    have hlab := all9 hlab fun _ h => h.keep0 bt
    have hown := all9 hown fun _ h => h.keep0 bt
    have hS := hS.kz bt
    have aP := aP.keep0 bt
    have a0 := a0.keep0 bt
    have bb := bb.kz bt
    have bB : Sl bv 59 (.agg #[aR, a2, (ptr bc 0)]) := (zE ((bu 12 _ 59 zy rfl rfl).1 3 rfl)).symm
    refine op_bslice (e := 137) (pv := [(0, (.agg #[aR, a2, (ptr bc 0)]))]) (cs := [aR, a2, (ptr bc 0)]) ⟨rfl, (zC bw rfl bB), trivial⟩ (by obtain ⟨_, _, _, rfl⟩ := aP.sl; obtain ⟨_, _, _, rfl⟩ := a0.sl; kernel_rfl) ?_
    intro bH bE bG bF bD bC
    obtain ⟨hb, _⟩ := yE hb bC
    have hlab := all9 hlab fun _ h => h.keep0 bC
    have hown := all9 hown fun _ h => h.keep0 bC
    have hxk := (hxk.keep0 bt).keep0 bC
    have hS := hS.kz bC
    have an := (an.keep0 bt).keep0 bC
    have bb := bb.kz bC
    refine ke_end rfl zz rfl ⟨hxk, an⟩ ?_
    intro bN bI _ bJ bK bM bL o_ ho_; obtain rfl := zE ho_
    obtain ⟨hb, _⟩ := yE hb bI
    have hlab := all9 hlab fun _ h => h.keep0 bI
    have hown := all9 hown fun _ h => h.keep0 bI
    have U := ((((U.keep0 ba).keep0 bj).keep0 bt).keep0 bC).keep0 bI
    have aP := (aP.keep0 bC).keep0 bI
    have a0 := (a0.keep0 bC).keep0 bI
    have bD := bD.keep0 bI
    have ai : Sl bJ 51 lv := (bL 4 _ 51 zy rfl rfl).2 rfl
    have aj : Sl bJ 60 (.slice (some ⟨bE, 0, none⟩) 1 1) := (zE ((bL 13 _ 60 zy rfl rfl).1 4 rfl)).symm
    have ak := U
    refine op_append slt132 (zC bK rfl ai) ak (zC bK rfl aj) (Src.ofRd Try.underlying132 zz (RdC.ofBx (sz := 3) (n := 1) bD rfl zz) (by simp only [yA, yB, yC, yD, aP.one, a0.one]; try rfl)) (by unfold maxLen; omega) zx hb.size ?_
    intro al am aj ai ao
    have := ai.size
    have hlab := all9 hlab fun _ h => h.keepO ak ai zx
    have hown := all9 hown fun _ h => h.keepO ak ai zx
    have hxk := (hxk.keep0 bI).keepO ak ai zz
    have hS := (hS.kz bI).keepG (Gr.of ai) ag.symm
    have an := (an.keep0 bI).keepO ak ai zz
    have bb := (bb.kz bI).keepG (Gr.of ai) bi.symm
    have hb := below_stepO hb ak ai hb.size zx
    have aj : Own am w.heap.size 137 3 al (i + 1) ((C.flatMap cellsK ++ [aR, a2, (ptr bc 0)])) := by simpa [u8v, u16v, sv] using aj
    refine ke_end rfl zz rfl ⟨hxk, an⟩ ?_
    intro au am ar an ap ao aq
    have ap := ap.trans ((by simp only [putsL_defers] : _ = _).trans W)
    obtain ⟨hb, _⟩ := yE hb am
    have hlab := all9 hlab fun _ h => h.keep0 am
    have hown := all9 hown fun _ h => h.keep0 am
    have hxk := hxk.keep0 am
    have aj := aj.keep0 am
    have au := (ao 5 rfl).trans (zL T rfl V)
    have av := (ao 31 rfl).trans (zL T rfl Y)
    have aw := (ao 32 rfl).trans (zL T rfl aa)
    have ax := (ao 33 rfl).trans (zL T rfl X)
    have ao : Sl ar 47 (ptr M 0) := (aq 0 _ 47 rfl rfl).2 rfl
    have ay : Sl ar 61 al := (zE ((aq 14 _ 61 rfl rfl).1 5 rfl)).symm
    refine split_end (from_seq (tl := [_, _, _]) zz zy rfl (op_nil (zC an rfl ao) (zM fld134_0 (zA an rfl) ?_)))
    have hxk_old := hxk
    refine za (vs := [al]) (cs' := [al, (Value.map (some D))]) size132 (zA an rfl) (zC an rfl ay) aj.cl rfl (by simp only [yA, yB, yC, yD, aj.one]; try rfl) hxk (zI rfl) rfl ?_
    intro aq hxk ao
    have := ao.size
    have hr := ((((((((((((hr.keep0 aI).keep0 aQ).keep0 aT).keep0 a1).keep0 a4).keep0 ba).keep0 bj).keep0 bt).keep0 bC).keep0 bI).keepO ak ai zx).keep0 am).keep ao sR
    have hlab := all9 hlab fun _ h => h.keep ao sR
    have hown := all9 hown fun _ h => h.keep ao sR
    have f := ((((((((((((f.keep0 aI).keep0 aQ).keep0 aT).keep0 a1).keep0 a4).keep0 ba).keep0 bj).keep0 bt).keep0 bC).keep0 bI).keepO ak ai zz).keep0 am).keep ao sB
    have B := ((((((((((((B.keep0 aI).keep0 aQ).keep0 aT).keep0 a1).keep0 a4).keep0 ba).keep0 bj).keep0 bt).keep0 bC).keep0 bI).keepO ak ai).keep0 am).keepB hxk_old ao
    have hS := (hS.kz am).keepG (Gr.of ao) (Dj.one af)
    have hla := (((((((((((hla.keep0 aQ).keep0 aT).keep0 a1).keep0 a4).keep0 ba).keep0 bj).keep0 bt).keep0 bC).keep0 bI).keepO ak ai zx).keep0 am).keep ao sR
    have aP := ((aP.keepT ak ai zz).keep0 am).keepX hxk_old ao zz
    have a0 := ((a0.keepT ak ai zz).keep0 am).keepX hxk_old ao zz
    have bb := (bb.kz am).keepG (Gr.of ao) (Dj.one bg)
    have aj := aj.keepX hxk_old ao zz
    have hb := below_step1 hb ao hb.size zx
    refine zB (s _ _ (zH (op_add (zC an rfl ax) rfl (add64 zx) (zG (zA an rfl) (zB ?_)))))
    -- round 12F 15F 20F 25F 34T 39T 44T
    exact zg _ an ap ⟨(i + 1), al, (C ++ [⟨aR, a2, bc, bd⟩]), (fun x => F0S x ∨ Bl aR x ∨ Bl a2 x ∨ bd x), rfl, (zL an rfl au), (zL an rfl av), (zL an rfl aw), (zU an rfl).trans (congrArg (Value.int .i64) zx), zx, (by simp; omega), (may_snoc hmay aC aF), hb, zx, hr, hlab, hown, f, B, hxk, (by rw [ks_step zx]; exact hS.snoc aP a0 bb bh), (aj.cast zx (by simp [List.flatMap_append, cellsK]))⟩ zx
   rw [aF]
   refine zS (j := 4) (dj := 41) (b := false) rfl rfl rfl (zA T rfl) ?_
   refine op_not (zA T rfl) (zd (zA T rfl) (zA T rfl) (zB (J3 _ _ (wp_cond_true (zA T rfl) (zF fun _ J3 => zH (zD rfl (zD rfl (zB (J3 _ _ (wp_ret (zO (zb (zO (zO (zb (zO ( (ret2 rfl W (zA T rfl) (zA T rfl) ⟨_, rfl, ?_⟩))))))))))))))))))
   exact ⟨hb, .inl ⟨cfg_f2 (not_may (i := i) zx (by first | exact .inl aC | exact .inr aF)), rfl⟩⟩
  rw [aC]
  refine op_not (zA T rfl) (zG (zA T rfl) (zR (j := 4) (dj := 41) (b := false) rfl rfl rfl (zA T rfl) rfl rfl (zR (j := 4) (dj := 41) (b := false) rfl rfl rfl (zA T rfl) rfl rfl (zR (j := 4) (dj := 41) (b := false) rfl rfl rfl (zA T rfl) rfl rfl ?_))))
  refine zR (j := 4) (dj := 41) (b := false) rfl rfl rfl (zA T rfl) rfl rfl (zc (zA T rfl) rfl (zB (J3 _ _ (wp_cond_true (zA T rfl) (zF fun _ J3 => zH (zD rfl (zD rfl (zB (J3 _ _ (wp_ret (zO (zb (zO (zO (zb (zO ( (ret2 rfl W (zA T rfl) (zA T rfl) ⟨_, rfl, ?_⟩))))))))))))))))))
  exact ⟨hb, .inl ⟨cfg_f2 (not_may (i := i) zx (by first | exact .inl aC | exact .inr aF)), rfl⟩⟩
 refine zB ?_
 refine s _ _ (zF fun _ s => wp_cond_false (zA T rfl) (wp_exit (then_exit (then_exit (blk_hit (d _ _ (zF fun _ d => zH (zG (zC T rfl V) (zD (zA T rfl) (zD rfl (zB (d _ _ (wp_ret (ret2 rfl W (zA T rfl) (zA T rfl) ⟨_, rfl, ?_⟩))))))))))))))
 obtain rfl : i = L.length := by omega
 rw [List.take_length] at hS
 exact ⟨hb, .inr ⟨cfg_t zx zx zx zx (all_may hmay (Nat.le_refl _)), M, _, rfl, hS.kern zx zx hxk (U.cast (by simp) rfl) B⟩⟩

end Go.Proofs.Ytmhdbphpmgjpcaa

namespace Go.Gx
section
variable {w w' : World} {base k m : Nat} {S : List KS} {C : List KC} {M : List (List UInt8 × Int)} {F : Nat → Prop} {lv : Value} {i : Nat}
theorem SessR.apartP {s : KS} {c : KC} {p : Nat} {T : List (List UInt8)} {Fp : Nat → Prop} (h : SessR w base s c) (hQ : PostS w base p 16 T Fp) (hd : Dj c.F Fp) : ∀ x, PartK c x → ¬ Fp x := fun x hx => by
  rcases hx with hx | hx | hx
  · exact hQ.notOwn h.1 (by decide) (by decide) x hx
  · exact hQ.notOwn h.2.1 (by decide) (by decide) x hx
  · exact hd x hx
theorem KernR.post (h : KernR w base k S M F) (hi : i < S.length) : ∃ (lv : Value) (m : Nat) (C : List KC), C.length = S.length ∧ Bx w k 134 [lv, .map (some m)] ∧ Own w base 137 3 lv S.length (C.flatMap cellsK) ∧ SessR w base (S.getD i default) (C.getD i default) ∧
    ∀ w' T' F', Gr w w' (C.getD i default).F → PostS w' base (C.getD i default).p 16 T' F' → NewF w.heap.size (C.getD i default).F F' →
      Gr w w' F ∧ ∃ F2, KernR w' base k (S.set i { S.getD i default with texts := T' }) M F2 ∧ NewF w.heap.size F F2 := by
  obtain ⟨lv, m, C, hk, hm, hC, hx, O, hM, hS, hD, hF⟩ := h
  refine ⟨lv, m, C, hC, hx, O, hS i hi, fun w' T' F' E hQ' hN => ?_⟩
  have hc := hS i hi
  have hiC : i < C.length := by rw [hC]; exact hi
  have gC : ∀ j, (C.set i { C.getD i default with F := F' }).getD j default = if j = i then { C.getD i default with F := F' } else C.getD j default := fun j => getD_set hiC
  have gS : ∀ j, (S.set i { S.getD i default with texts := T' }).getD j default = if j = i then { S.getD i default with texts := T' } else S.getD j default := fun j => getD_set hi
  refine ⟨E.mono fun x _ hx => (hF x).2 (.inr (.inr (.inr ⟨i, hi, .inr (.inr hx)⟩))), _, ⟨lv, m, C.set i { C.getD i default with F := F' }, hk, hm, by simp [hC], hx.keepG E (hc.2.2.notBx hx (by decide) (by decide)), ?_, hM.keepG E (hc.2.2.notMap hM), ?_, ?_, fun x => Iff.rfl⟩, ?_⟩
  · rw [List.length_set, flat_cellsK]; exact O.keepG E (hc.2.2.notOwn O (by decide) (by decide))
  · intro j hj
    rw [List.length_set] at hj
    rw [gC, gS]
    by_cases hji : j = i
    · rw [if_pos hji, if_pos hji]
      exact ⟨hc.1.keepG E (hc.2.2.notOwn hc.1 (by decide) (by decide)), hc.2.1.keepG E (hc.2.2.notOwn hc.2.1 (by decide) (by decide)), hQ'⟩
    · rw [if_neg hji, if_neg hji]
      exact (hS j hj).keepG E ((hS j hj).apartP hc.2.2 (hD j i hj hi hji))
  · intro a b ha hb hab
    rw [List.length_set] at ha hb
    rw [gC, gC]
    by_cases h1 : a = i <;> by_cases h2 : b = i
    · exact absurd (h1.trans h2.symm) hab
    · rw [if_pos h1, if_neg h2]
      exact (Dj.stepF hN (fun x hx => ((hS b hb).2.2.lt x hx).2) (hD b i hb hi h2)).symm
    · rw [if_neg h1, if_pos h2]
      exact Dj.stepF hN (fun x hx => ((hS a ha).2.2.lt x hx).2) (hD a i ha hi h1)
    · rw [if_neg h1, if_neg h2]; exact hD a b ha hb hab
  · intro x hx
    rcases hx with rfl | rfl | hx | ⟨j, hj, hx⟩
    · exact .inl ((hF x).2 (.inl rfl))
    · exact .inl ((hF x).2 (.inr (.inl rfl)))
    · exact .inl ((hF x).2 (.inr (.inr (.inl hx))))
    · rw [List.length_set] at hj
      rw [gC] at hx
      by_cases hji : j = i
      · rw [if_pos hji] at hx
        rcases hx with hx | hx | hx
        · exact .inl ((hF x).2 (.inr (.inr (.inr ⟨i, hi, .inl hx⟩))))
        · exact .inl ((hF x).2 (.inr (.inr (.inr ⟨i, hi, .inr (.inl hx)⟩))))
        · exact (hN x hx).imp (fun q => (hF x).2 (.inr (.inr (.inr ⟨i, hi, .inr (.inr q)⟩)))) id
      · rw [if_neg hji] at hx
        exact .inl ((hF x).2 (.inr (.inr (.inr ⟨j, hj, hx⟩))))
theorem KernR.relabel (h : KernR w base k S M F) (hb : base ≤ w.heap.size) (hi : i < S.length) : ∃ (lv : Value) (m : Nat) (C : List KC), C.length = S.length ∧ Bx w k 134 [lv, .map (some m)] ∧ Own w base 137 3 lv S.length (C.flatMap cellsK) ∧ SessR w base (S.getD i default) (C.getD i default) ∧
    ∀ w' (nv : Value) (l' : List UInt16), w.grownBy w' lv.ownBlock → Own w' base 137 3 lv S.length ((C.set i ⟨nv, (C.getD i default).own, (C.getD i default).p, (C.getD i default).F⟩).flatMap cellsK) → Own w' base 46 1 nv l'.length (l'.map u16v) → (nv = (C.getD i default).lab ∨ ∀ x, Bl nv x → w.heap.size ≤ x) →
      Gr w w' F ∧ ∃ F2, KernR w' base k (S.set i { S.getD i default with label := l' }) M F2 ∧ NewF w.heap.size F F2 := by
  obtain ⟨lv, m, C, hk, hm, hC, hx, O, hM, hS, hD, hF⟩ := h
  refine ⟨lv, m, C, hC, hx, O, hS i hi, fun w' nv l' E0 O' hL' hn => ?_⟩
  have hc := hS i hi
  have E : Gr w w' (Bl lv) := Gr.of E0
  have hiC : i < C.length := by rw [hC]; exact hi
  have gC : ∀ j, (C.set i ⟨nv, (C.getD i default).own, (C.getD i default).p, (C.getD i default).F⟩).getD j default = if j = i then ⟨nv, (C.getD i default).own, (C.getD i default).p, (C.getD i default).F⟩ else C.getD j default := fun j => getD_set hiC
  have gS : ∀ j, (S.set i { S.getD i default with label := l' }).getD j default = if j = i then { S.getD i default with label := l' } else S.getD j default := fun j => getD_set hi
  have gF : ∀ j, ((C.set i ⟨nv, (C.getD i default).own, (C.getD i default).p, (C.getD i default).F⟩).getD j default).F = (C.getD j default).F := fun j => by
    rw [gC]; by_cases hji : j = i
    · rw [if_pos hji, hji]
    · rw [if_neg hji]
  have ap : ∀ j, j < S.length → ∀ x, PartK (C.getD j default) x → ¬ Bl lv x := fun j hj x hp hl => by
    obtain ⟨a1, a2, a3⟩ := hS j hj
    rcases hp with hp | hp | hp
    · exact O.notOwn a1 (by decide) x hl hp
    · exact O.notOwn a2 (by decide) x hl hp
    · exact a3.notOwn O (by decide) (by decide) x hl hp
  refine ⟨E.mono fun x _ hx => (hF x).2 (.inr (.inr (.inl hx))), _, ⟨lv, m, C.set i ⟨nv, (C.getD i default).own, (C.getD i default).p, (C.getD i default).F⟩, hk, hm, by simp [hC], hx.keepO O E0 (by decide), by rw [List.length_set]; exact O', hM.keepO O E0, ?_, ?_, fun x => Iff.rfl⟩, ?_⟩
  · intro j hj
    rw [List.length_set] at hj
    have := (hS j hj).keepG E (ap j hj)
    rw [gC, gS]
    by_cases hji : j = i
    · subst hji; rw [if_pos rfl, if_pos rfl]; exact ⟨hL', this.2.1, this.2.2⟩
    · rw [if_neg hji, if_neg hji]; exact this
  · intro a b ha hb2 hab
    rw [List.length_set] at ha hb2
    rw [gF, gF]; exact hD a b ha hb2 hab
  · intro x hx
    rcases hx with rfl | rfl | hx | ⟨j, hj, hx⟩
    · exact .inl ((hF x).2 (.inl rfl))
    · exact .inl ((hF x).2 (.inr (.inl rfl)))
    · exact .inl ((hF x).2 (.inr (.inr (.inl hx))))
    · rw [List.length_set] at hj
      rw [gC] at hx
      by_cases hji : j = i
      · rw [if_pos hji] at hx
        rcases hx with hx | hx | hx
        · rcases hn with hn | hn
          · exact .inl ((hF x).2 (.inr (.inr (.inr ⟨i, hi, .inl (hn ▸ hx)⟩))))
          · exact .inr (hn x hx)
        · exact .inl ((hF x).2 (.inr (.inr (.inr ⟨i, hi, .inr (.inl hx)⟩))))
        · exact .inl ((hF x).2 (.inr (.inr (.inr ⟨i, hi, .inr (.inr hx)⟩))))
      · rw [if_neg hji] at hx
        exact .inl ((hF x).2 (.inr (.inr (.inr ⟨j, hj, hx⟩))))
theorem KernR.stamp (h : KernR w base k S M F) : ∃ lv m, Bx w k 134 [lv, .map (some m)] ∧ MapC sv (Value.int .u64) w m M ∧ ∀ w' M', w.grownBy w' (some m) → MapC sv (Value.int .u64) w' m M' → Gr w w' F ∧ KernR w' base k S M' F := by
  obtain ⟨lv, m, C, hk, hm, hC, hx, O, hM, hS, hD, hF⟩ := h
  refine ⟨lv, m, hx, hM, fun w' M' E M2 => ⟨(Gr.of E).mono fun x _ hx => (hF x).2 (.inr (.inl (Option.some.inj hx).symm)), lv, m, C, hk, hm, hC, hx.keepM hM E, O.keepM hM E, M2, fun i hi => ?_, hD, hF⟩⟩
  refine (hS i hi).keepG (Gr.of E) fun x hx hm2 => ?_
  obtain rfl := Option.some.inj hm2
  obtain ⟨a1, a2, a3⟩ := hS i hi
  rcases hx with hx | hx | hx
  · exact a1.notMap hM hx
  · exact a2.notMap hM hx
  · exact a3.notMap hM hx
end
/-! plain sessions -/
def inS (S : List KS) (s : Int) : Bool := decide (0 ≤ s) && decide (s < S.length)
def atS (S : List KS) (s : Int) : KS := if inS S s = true then S.getD s.toNat default else ⟨[], [], []⟩
def updS (S : List KS) (s : Int) (f : KS → KS) : List KS := if inS S s = true then S.set s.toNat (f (S.getD s.toNat default)) else S
theorem inS_t {S : List KS} {s : Int} (h : inS S s = true) : ∃ i : Nat, s = (i : Int) ∧ i < S.length := by
  simp only [inS, Bool.and_eq_true, decide_eq_true_eq] at h
  exact ⟨s.toNat, by omega, by omega⟩
theorem inS_f {S : List KS} {s : Int} (h : inS S s = false) : s < 0 ∨ (S.length : Int) ≤ s := by
  simp only [inS, Bool.and_eq_false_iff, decide_eq_false_iff_not] at h
  omega
theorem updS_len {S : List KS} {s : Int} {f : KS → KS} : (updS S s f).length = S.length := by unfold updS; split <;> simp
def sayE (S : List KS) (s : Int) : Int := if inS S s = true then (if (atS S s).texts.length < 16 then 0 else 25) else 22
def sayS (S : List KS) (s : Int) (x : List UInt8) : List KS := updS S s fun y => { y with texts := postL 16 y.texts x }
def doneS (S : List KS) (s : Int) : List KS := updS S s fun y => { y with texts := y.texts.drop 1 }
end Go.Gx
namespace Go.Proofs.Ytmhdbphpmgjpcaa
open Go.Gx
def raiseS (S : List KS) (s : Int) (t : List UInt16) : List KS := updS S s fun y => { y with label := raiseL y.label t }
def raiseSE (S : List KS) (s : Int) (t : List UInt16) : Int := if inS S s = true then raiseE (atS S s).label t else 22
def SOk (S : List KS) : Prop := S.length ≤ 6 ∧ ∀ x ∈ S, mayL x.label = true ∧ mayL x.owns = true ∧ x.texts.length ≤ 16
theorem mem_updS {S : List KS} {s : Int} {f : KS → KS} {x : KS} (h : x ∈ updS S s f) : x ∈ S ∨ ∃ y ∈ S, x = f y := by
  unfold updS at h
  split at h
  · rename_i hs
    obtain ⟨i, rfl, hi⟩ := inS_t hs
    rcases List.mem_or_eq_of_mem_set h with q | q
    · exact .inl q
    · exact .inr ⟨_, getD_mem (by rw [Int.toNat_natCast]; exact hi), q⟩
  · exact .inl h
theorem SOk.upd {S : List KS} {s : Int} {f : KS → KS} (h : SOk S) (hf : ∀ y ∈ S, mayL (f y).label = true ∧ mayL (f y).owns = true ∧ (f y).texts.length ≤ 16) : SOk (updS S s f) :=
  ⟨by rw [updS_len]; exact h.1, fun x hx => by
    rcases mem_updS hx with q | ⟨y, hy, rfl⟩
    · exact h.2 x q
    · exact hf y hy⟩
theorem SOk.say {S : List KS} (h : SOk S) (s : Int) (x : List UInt8) : SOk (sayS S s x) := h.upd fun y hy => ⟨(h.2 y hy).1, (h.2 y hy).2.1, by
  show (postL 16 y.texts x).length ≤ 16
  unfold postL; split
  · simp; omega
  · exact (h.2 y hy).2.2⟩
theorem SOk.done {S : List KS} (h : SOk S) (s : Int) : SOk (doneS S s) := h.upd fun y hy => ⟨(h.2 y hy).1, (h.2 y hy).2.1, by
  show (y.texts.drop 1).length ≤ 16
  have := (h.2 y hy).2.2
  rw [List.length_drop]; omega⟩
theorem raiseL_may {l t : List UInt16} (h : mayL l = true) : mayL (raiseL l t) = true := by
  cases hr : raiseOk l t
  · rw [(raise_f hr).1]; exact h
  · rw [(raise_t hr).1]; unfold raiseOk at hr; rw [Bool.and_eq_true] at hr; exact hr.2
theorem SOk.raise {S : List KS} (h : SOk S) (s : Int) (t : List UInt16) : SOk (raiseS S s t) := h.upd fun y hy => ⟨raiseL_may (h.2 y hy).1, (h.2 y hy).2.1, (h.2 y hy).2.2⟩
theorem SOk.lab {S : List KS} (h : SOk S) : ∀ x ∈ S, x.label.length ≤ 100 := fun x hx => Nat.le_trans (mayL_len (h.2 x hx).1) (by decide)
theorem SOk.own {S : List KS} (h : SOk S) : ∀ x ∈ S, x.owns.length ≤ 100 := fun x hx => Nat.le_trans (mayL_len (h.2 x hx).2.1) (by decide)
theorem SOk.at {S : List KS} (h : SOk S) (s : Int) : mayL (atS S s).label = true ∧ mayL (atS S s).owns = true ∧ (atS S s).texts.length ≤ 16 := by
  unfold atS
  split
  · rename_i hs
    obtain ⟨i, rfl, hi⟩ := inS_t hs
    exact h.2 _ (getD_mem (by rw [Int.toNat_natCast]; exact hi))
  · exact ⟨by decide, by decide, by decide⟩
theorem cfg_ok {L : List CSn} {q : Int} (h : cfgOk L q = true) : L.length ≠ 0 ∧ L.length ≤ 6 ∧ 1 ≤ q ∧ q ≤ 200 ∧ SOk (L.map ksOf) := by
  unfold cfgOk at h
  simp only [Bool.and_eq_true, decide_eq_true_eq, List.all_eq_true] at h
  obtain ⟨⟨⟨⟨h1, h2⟩, h3⟩, h4⟩, h5⟩ := h
  refine ⟨h1, h2, h3, h4, by simpa using h2, fun x hx => ?_⟩
  obtain ⟨c, hc, rfl⟩ := List.mem_map.1 hx
  exact ⟨(h5 c hc).1, (h5 c hc).2, Nat.zero_le _⟩
end Go.Proofs.Ytmhdbphpmgjpcaa

namespace Go.Proofs.Ytmhdbphpmgjpcaa
open Go.Gx Go.RowKit

theorem LabelR (s : Int) {base k : Nat} {S : List KS} {M : List (List UInt8 × Int)} {F : Nat → Prop} {w : World} (hb : base ≤ w.heap.size) (hn : S.length ≤ 6) (h : KernR w base k S M F) (hl : ∀ x ∈ S, x.label.length ≤ 100) : Ret Try.prog 37 #[ptr k 0, .int .i64 s] w (fun v' w' => Below w.heap.size w w' ∧ Own w' w.heap.size 46 1 v' (atS S s).label.length ((atS S s).label.map u16v)) := by
  cases hs : inS S s
  · obtain ⟨lv, m, C, _, _, _, hx, O, _, ⟨hC, _, _, _⟩, _⟩ := h.all
    have ha : atS S s = ⟨[], [], []⟩ := by unfold atS; rw [if_neg (by rw [hs]; simp)]
    refine (LabelOut hb hn hC hx O (inS_f hs)).mono fun v' w' q => ?_
    obtain ⟨E, rfl⟩ := q
    rw [ha]; exact ⟨E, Own.nil _ _ _ _⟩
  · obtain ⟨i, rfl, hi⟩ := inS_t hs
    have ha : atS S (i : Int) = S.getD i default := by unfold atS; rw [if_pos hs, Int.toNat_natCast]
    obtain ⟨lv, m, C, hC, hx, O, ⟨hL, hW, hQ⟩, close⟩ := h.post hi
    have hll : (S.getD i default).label.length ≤ 100 := hl _ (getD_mem hi)
    rw [ha]
    exact LabelIn hb hn hi ⟨hC, rfl⟩ hx O hL hW hQ hll

theorem OwnsR (s : Int) {base k : Nat} {S : List KS} {M : List (List UInt8 × Int)} {F : Nat → Prop} {w : World} (hb : base ≤ w.heap.size) (hn : S.length ≤ 6) (h : KernR w base k S M F) (hl : ∀ x ∈ S, x.owns.length ≤ 100) : Ret Try.prog 38 #[ptr k 0, .int .i64 s] w (fun v' w' => Below w.heap.size w w' ∧ Own w' w.heap.size 46 1 v' (atS S s).owns.length ((atS S s).owns.map u16v)) := by
  cases hs : inS S s
  · obtain ⟨lv, m, C, _, _, _, hx, O, _, ⟨hC, _, _, _⟩, _⟩ := h.all
    have ha : atS S s = ⟨[], [], []⟩ := by unfold atS; rw [if_neg (by rw [hs]; simp)]
    refine (OwnsOut hb hn hC hx O (inS_f hs)).mono fun v' w' q => ?_
    obtain ⟨E, rfl⟩ := q
    rw [ha]; exact ⟨E, Own.nil _ _ _ _⟩
  · obtain ⟨i, rfl, hi⟩ := inS_t hs
    have ha : atS S (i : Int) = S.getD i default := by unfold atS; rw [if_pos hs, Int.toNat_natCast]
    obtain ⟨lv, m, C, hC, hx, O, ⟨hL, hW, hQ⟩, close⟩ := h.post hi
    have hll : (S.getD i default).owns.length ≤ 100 := hl _ (getD_mem hi)
    rw [ha]
    exact OwnsIn hb hn hi ⟨hC, rfl⟩ hx O hL hW hQ hll

theorem SessionsR {base k : Nat} {S : List KS} {M : List (List UInt8 × Int)} {F : Nat → Prop} {w : World} (hb : base ≤ w.heap.size) (hn : S.length ≤ 6) (h : KernR w base k S M F) : Ret Try.prog 49 #[ptr k 0] w (fun v' w' => v' = .int .i64 ((S.length : Nat) : Int) ∧ w' = w) := by
  obtain ⟨lv, m, C, _, _, _, hx, O, _, ⟨hC, _, _, _⟩, _⟩ := h.all
  exact Sessions_ret hb hn hC hx O
theorem WaitR (s : Int) {base k : Nat} {S : List KS} {M : List (List UInt8 × Int)} {F : Nat → Prop} {w : World} (hb : base ≤ w.heap.size) (hn : S.length ≤ 6) (h : KernR w base k S M F) : Ret Try.prog 39 #[ptr k 0, .int .i64 s] w (fun v' w' => Below w.heap.size w w' ∧ v' = .int .i64 (((atS S s).texts.length : Nat) : Int)) := by
  cases hs : inS S s
  · obtain ⟨lv, m, C, _, _, _, hx, O, _, ⟨hC, _, _, _⟩, _⟩ := h.all
    have ha : atS S s = ⟨[], [], []⟩ := by unfold atS; rw [if_neg (by rw [hs]; simp)]
    rw [ha]; exact WaitOut hb hn hC hx O (inS_f hs)
  · obtain ⟨i, rfl, hi⟩ := inS_t hs
    have ha : atS S (i : Int) = S.getD i default := by unfold atS; rw [if_pos hs, Int.toNat_natCast]
    obtain ⟨lv, m, C, hC, hx, O, ⟨hL, hW, hQ⟩, close⟩ := h.post hi
    rw [ha]; exact WaitIn hb hn hi ⟨hC, rfl⟩ hx O hL hW hQ
theorem SayR (s : Int) (x : List UInt8) {base k : Nat} {S : List KS} {M : List (List UInt8 × Int)} {F : Nat → Prop} {w : World} (hb : base ≤ w.heap.size) (hn : S.length ≤ 6) (h : KernR w base k S M F) : Ret Try.prog 40 #[ptr k 0, .int .i64 s, .string (bs x)] w (fun v' w' => Gr w w' F ∧ v' = .int .i64 (sayE S s) ∧ ∃ F', KernR w' base k (sayS S s x) M F' ∧ NewF w.heap.size F F') := by
  cases hs : inS S s
  · obtain ⟨lv, m, C, _, _, _, hx, O, _, ⟨hC, _, _, _⟩, _⟩ := h.all
    have ha : atS S s = ⟨[], [], []⟩ := by unfold atS; rw [if_neg (by rw [hs]; simp)]
    refine (SayOut x hb hn hC hx O (inS_f hs)).mono fun v' w' q => ?_
    obtain ⟨E, rfl⟩ := q
    refine ⟨Gr.ofBelow E F, congrArg (Value.int .i64) (by unfold sayE; rw [if_neg (by rw [hs]; simp)]), F, ?_, NewF.refl _ _⟩
    have hu : sayS S s x = S := by unfold sayS updS; rw [if_neg (by rw [hs]; simp)]
    rw [hu]; exact h.keepG (Gr.ofBelow E NoB) fun _ _ hh => hh
  · obtain ⟨i, rfl, hi⟩ := inS_t hs
    have ha : atS S (i : Int) = S.getD i default := by unfold atS; rw [if_pos hs, Int.toNat_natCast]
    obtain ⟨lv, m, C, hC, hx, O, ⟨hL, hW, hQ⟩, close⟩ := h.post hi
    refine (SayIn x hb hn hi ⟨hC, rfl⟩ hx O hL hW hQ).mono fun v' w' q => ?_
    obtain ⟨E, rfl, hQ'⟩ := q
    obtain ⟨E2, F2, hK, hN⟩ := close w' _ _ E hQ' (NewF.refl _ _)
    refine ⟨E2, congrArg (Value.int .i64) (by unfold sayE; rw [if_pos hs, ha]), F2, ?_, hN⟩
    have hu : sayS S (i : Int) x = S.set i { S.getD i default with texts := postL 16 (S.getD i default).texts x } := by unfold sayS updS; rw [if_pos hs, Int.toNat_natCast]
    rw [hu]; exact hK
theorem HeadR (s : Int) {base k : Nat} {S : List KS} {M : List (List UInt8 × Int)} {F : Nat → Prop} {w : World} (hb : base ≤ w.heap.size) (hn : S.length ≤ 6) (h : KernR w base k S M F) : Ret Try.prog 41 #[ptr k 0, .int .i64 s] w (fun v' w' => Gr w w' F ∧ v' = .tuple #[.string (bs ((atS S s).texts.getD 0 [])), .bool (decide (0 < (atS S s).texts.length))] ∧ ∃ F', KernR w' base k (S) M F' ∧ NewF w.heap.size F F') := by
  cases hs : inS S s
  · obtain ⟨lv, m, C, _, _, _, hx, O, _, ⟨hC, _, _, _⟩, _⟩ := h.all
    have ha : atS S s = ⟨[], [], []⟩ := by unfold atS; rw [if_neg (by rw [hs]; simp)]
    refine (HeadOut hb hn hC hx O (inS_f hs)).mono fun v' w' q => ?_
    obtain ⟨E, rfl⟩ := q
    rw [ha]
    exact ⟨Gr.ofBelow E F, rfl, F, h.keepG (Gr.ofBelow E NoB) fun _ _ hh => hh, NewF.refl _ _⟩
  · obtain ⟨i, rfl, hi⟩ := inS_t hs
    have ha : atS S (i : Int) = S.getD i default := by unfold atS; rw [if_pos hs, Int.toNat_natCast]
    obtain ⟨lv, m, C, hC, hx, O, ⟨hL, hW, hQ⟩, close⟩ := h.post hi
    refine (HeadIn hb hn hi ⟨hC, rfl⟩ hx O hL hW hQ).mono fun v' w' q => ?_
    obtain ⟨E, rfl, F', hQ', hN'⟩ := q
    obtain ⟨E2, F2, hK, hN⟩ := close w' _ _ E hQ' hN'
    rw [ha]
    have hu : S.set i { S.getD i default with texts := (S.getD i default).texts } = S := by
      apply List.ext_getElem?
      intro j
      by_cases hj : i = j
      · subst hj; simp [List.getD_eq_getElem?_getD, hi]
      · rw [List.getElem?_set_ne hj]
    rw [hu] at hK
    exact ⟨E2, rfl, F2, hK, hN⟩
theorem DoneR (s : Int) {base k : Nat} {S : List KS} {M : List (List UInt8 × Int)} {F : Nat → Prop} {w : World} (hb : base ≤ w.heap.size) (hn : S.length ≤ 6) (h : KernR w base k S M F) : Ret Try.prog 42 #[ptr k 0, .int .i64 s] w (fun v' w' => Gr w w' F ∧ v' = .bool (decide (0 < (atS S s).texts.length)) ∧ ∃ F', KernR w' base k (doneS S s) M F' ∧ NewF w.heap.size F F') := by
  cases hs : inS S s
  · obtain ⟨lv, m, C, _, _, _, hx, O, _, ⟨hC, _, _, _⟩, _⟩ := h.all
    have ha : atS S s = ⟨[], [], []⟩ := by unfold atS; rw [if_neg (by rw [hs]; simp)]
    refine (DoneOut hb hn hC hx O (inS_f hs)).mono fun v' w' q => ?_
    obtain ⟨E, rfl⟩ := q
    have hu : doneS S s = S := by unfold doneS updS; rw [if_neg (by rw [hs]; simp)]
    rw [ha, hu]
    exact ⟨Gr.ofBelow E F, rfl, F, h.keepG (Gr.ofBelow E NoB) fun _ _ hh => hh, NewF.refl _ _⟩
  · obtain ⟨i, rfl, hi⟩ := inS_t hs
    have ha : atS S (i : Int) = S.getD i default := by unfold atS; rw [if_pos hs, Int.toNat_natCast]
    obtain ⟨lv, m, C, hC, hx, O, ⟨hL, hW, hQ⟩, close⟩ := h.post hi
    refine (DoneIn hb hn hi ⟨hC, rfl⟩ hx O hL hW hQ).mono fun v' w' q => ?_
    obtain ⟨E, rfl, F', hQ', hN'⟩ := q
    obtain ⟨E2, F2, hK, hN⟩ := close w' _ _ E hQ' hN'
    have hu : doneS S (i : Int) = S.set i { S.getD i default with texts := (S.getD i default).texts.drop 1 } := by unfold doneS updS; rw [if_pos hs, Int.toNat_natCast]
    rw [ha, hu]
    exact ⟨E2, rfl, F2, hK, hN⟩
theorem RaiseR (s : Int) {t : List UInt16} {tv : Value} {base k : Nat} {S : List KS} {M : List (List UInt8 × Int)} {F : Nat → Prop} {w : World} (hb : base ≤ w.heap.size) (hn : S.length ≤ 6) (h : KernR w base k S M F) (hl : ∀ x ∈ S, x.label.length ≤ 100) (htl : t.length ≤ 100) (ht : RdC w 0 w.heap.size 1 tv t.length (t.map u16v)) : Ret Try.prog 44 #[ptr k 0, .int .i64 s, tv] w (fun v' w' => Gr w w' F ∧ v' = .int .i64 (raiseSE S s t) ∧ ∃ F', KernR w' base k (raiseS S s t) M F' ∧ NewF w.heap.size F F') := by
  cases hs : inS S s
  · obtain ⟨lv, m, C, _, _, _, hx, O, _, ⟨hC, _, _, _⟩, _⟩ := h.all
    have ha : atS S s = ⟨[], [], []⟩ := by unfold atS; rw [if_neg (by rw [hs]; simp)]
    refine (RaiseOut tv hb hn hC hx O (inS_f hs)).mono fun v' w' q => ?_
    obtain ⟨E, rfl⟩ := q
    have hu : raiseS S s t = S := by unfold raiseS updS; rw [if_neg (by rw [hs]; simp)]
    rw [hu]
    exact ⟨Gr.ofBelow E F, congrArg (Value.int .i64) (by unfold raiseSE; rw [if_neg (by rw [hs]; simp)]), F, h.keepG (Gr.ofBelow E NoB) fun _ _ hh => hh, NewF.refl _ _⟩
  · obtain ⟨i, rfl, hi⟩ := inS_t hs
    have ha : atS S (i : Int) = S.getD i default := by unfold atS; rw [if_pos hs, Int.toNat_natCast]
    obtain ⟨lv, m, C, hC, hx, O, ⟨hL, hW, hQ⟩, close⟩ := h.relabel hb hi
    have hll : (S.getD i default).label.length ≤ 100 := hl _ (getD_mem hi)
    refine (RaiseIn hb hn hi ⟨hC, rfl⟩ hx O hL hW hQ hll htl ht).mono fun v' w' q => ?_
    obtain ⟨E, rfl, nv, O', hL', hn'⟩ := q
    obtain ⟨E2, F2, hK, hN⟩ := close w' nv _ E O' hL' hn'
    have hu : raiseS S (i : Int) t = S.set i { S.getD i default with label := raiseL (S.getD i default).label t } := by unfold raiseS updS; rw [if_pos hs, Int.toNat_natCast]
    rw [hu]
    exact ⟨E2, congrArg (Value.int .i64) (by unfold raiseSE; rw [if_pos hs, ha]), F2, hK, hN⟩
theorem StampR {x : List UInt16} {xv : Value} {base k : Nat} {S : List KS} {M : List (List UInt8 × Int)} {F : Nat → Prop} {w : World} (hb : base ≤ w.heap.size) (hxl : x.length ≤ 100) (hxr : RdC w 0 w.heap.size 1 xv x.length (x.map u16v)) (h : KernR w base k S M F) : Ret Try.prog 35 #[ptr k 0, xv] w (fun v' w' => Gr w w' F ∧ v' = .int .u64 (IntKind.u64.wrap ((mget M (labB x)).getD 0 + 1)) ∧ KernR w' base k S (mput M (labB x) (IntKind.u64.wrap ((mget M (labB x)).getD 0 + 1))) F) := by
  obtain ⟨lv, m, hx, hM, close⟩ := h.stamp
  refine (StampIn hb hxl hxr hx hM).mono fun v' w' q => ?_
  obtain ⟨E, rfl, hM'⟩ := q
  obtain ⟨E2, hK⟩ := close w' _ E hM'
  exact ⟨E2, rfl, hK⟩

theorem kernNewT {L : List CSn} {q : Int} {vL : Value} {w : World} (hok : cfgOk L q = true) (hL : L.length ≤ 9223372036854775807) (hll : ∀ x ∈ L, x.1.2.length ≤ 9223372036854775807 ∧ x.2.2.length ≤ 9223372036854775807) (hr : RdC w 0 w.heap.size 2 vL L.length (L.flatMap cells2)) (hlab : ∀ x9 ∈ (L.map Prod.fst), RdC w 0 w.heap.size 1 x9.1 x9.2.length (x9.2.map u16v)) (hown : ∀ x9 ∈ (L.map Prod.snd), RdC w 0 w.heap.size 1 x9.1 x9.2.length (x9.2.map u16v)) : Ret Try.prog 32 #[.agg #[vL, .int .i64 q]] w (fun v' w' => Below w.heap.size w w' ∧ ∃ (k : Nat) (F : Nat → Prop), v' = .tuple #[ptr k 0, .int .i64 0] ∧ KernR w' w.heap.size k (L.map ksOf) [] F) :=
  (kernNew_ret L q vL w hL hll hr hlab hown).mono fun v' w' h => ⟨h.1, h.2.elim (fun q => absurd (hok.symm.trans q.1) (by decide)) (fun q => q.2)⟩
theorem kernNewF {L : List CSn} {q : Int} {vL : Value} {w : World} (hok : cfgOk L q = false) (hL : L.length ≤ 9223372036854775807) (hll : ∀ x ∈ L, x.1.2.length ≤ 9223372036854775807 ∧ x.2.2.length ≤ 9223372036854775807) (hr : RdC w 0 w.heap.size 2 vL L.length (L.flatMap cells2)) (hlab : ∀ x9 ∈ (L.map Prod.fst), RdC w 0 w.heap.size 1 x9.1 x9.2.length (x9.2.map u16v)) (hown : ∀ x9 ∈ (L.map Prod.snd), RdC w 0 w.heap.size 1 x9.1 x9.2.length (x9.2.map u16v)) : Ret Try.prog 32 #[.agg #[vL, .int .i64 q]] w (fun v' w' => Below w.heap.size w w' ∧ v' = .tuple #[.pointer none, .int .i64 1]) :=
  (kernNew_ret L q vL w hL hll hr hlab hown).mono fun v' w' h => ⟨h.1, h.2.elim (fun q => q.2) (fun q => absurd (hok.symm.trans q.1) (by decide))⟩
end Go.Proofs.Ytmhdbphpmgjpcaa

namespace Go.Gx
structure DC where
  la : Value
  ow : Value
  po : Value
instance : Inhabited DC := ⟨⟨.slice none 0 0, .slice none 0 0, .slice none 0 0⟩⟩
def cellsD (c : DC) : List Value := [c.la, c.ow, c.po, .bool false]
def DSessR (w : World) (base : Nat) (s : KS) (c : DC) : Prop :=
  Own w base 46 1 c.la s.label.length (s.label.map u16v) ∧ Own w base 46 1 c.ow s.owns.length (s.owns.map u16v) ∧ Own w base 9 1 c.po s.texts.length (s.texts.map sv)
def PartD (c : DC) (x : Nat) : Prop := Bl c.la x ∨ Bl c.ow x ∨ Bl c.po x
def DSAll (w : World) (base : Nat) (S : List KS) (C : List DC) (F : Nat → Prop) : Prop :=
  C.length = S.length ∧ (∀ i, i < S.length → DSessR w base (S.getD i default) (C.getD i default)) ∧ (∀ x, F x ↔ ∃ i, i < S.length ∧ PartD (C.getD i default) x)
structure DT where
  la : Value
  lab : List UInt16
  n : Int
instance : Inhabited DT := ⟨⟨.slice none 0 0, [], 0⟩⟩
def cellsT (t : DT) : List Value := [t.la, .int .u64 t.n]
def DTAll (w : World) (base : Nat) (T : List DT) (F : Nat → Prop) : Prop :=
  (∀ i, i < T.length → Own w base 46 1 (T.getD i default).la (T.getD i default).lab.length ((T.getD i default).lab.map u16v)) ∧ (∀ x, F x ↔ ∃ i, i < T.length ∧ Bl (T.getD i default).la x)
def tOf (t : DT) : List UInt16 × Int := (t.lab, t.n)
def DbR (w : World) (base d : Nat) (S : List KS) (M : List (List UInt16 × Int)) (F : Nat → Prop) : Prop :=
  ∃ (mp sv9 tv : Value) (C : List DC) (T : List DT) (F0S FT : Nat → Prop), base ≤ d ∧ T.map tOf = M ∧ Bx w d 72 [mp, sv9, tv] ∧ Own w base 75 4 sv9 S.length (C.flatMap cellsD) ∧ DSAll w base S C F0S ∧ Own w base 152 2 tv T.length (T.flatMap cellsT) ∧ DTAll w base T FT ∧
    (∀ x, F x ↔ x = d ∨ Bl sv9 x ∨ Bl tv x ∨ F0S x ∨ FT x)
section
variable {w w' : World} {base d b t e sz n : Nat} {S : List KS} {C : List DC} {T : List DT} {M : List (List UInt16 × Int)} {F G F0S FT : Nat → Prop} {cs : List Value} {v sv9 tv mp la ow po : Value} {l o : List UInt16}
theorem DSessR.keepG {s : KS} {c : DC} (h : DSessR w base s c) (E : Gr w w' G) (hd : ∀ x, PartD c x → ¬ G x) : DSessR w' base s c :=
  ⟨h.1.keepG E fun x hx => hd x (.inl hx), h.2.1.keepG E fun x hx => hd x (.inr (.inl hx)), h.2.2.keepG E fun x hx => hd x (.inr (.inr hx))⟩
theorem DSAll.lt (h : DSAll w base S C F) : ∀ x, F x → base ≤ x ∧ x < w.heap.size := fun x hx => by
  obtain ⟨i, hi, hx⟩ := (h.2.2 x).1 hx
  obtain ⟨a1, a2, a3⟩ := h.2.1 i hi
  rcases hx with hx | hx | hx
  · exact a1.lt x hx
  · exact a2.lt x hx
  · exact a3.lt x hx
theorem DSAll.keepG (h : DSAll w base S C F) (E : Gr w w' G) (hd : Dj F G) : DSAll w' base S C F :=
  ⟨h.1, fun i hi => (h.2.1 i hi).keepG E fun x hx => hd x ((h.2.2 x).2 ⟨i, hi, hx⟩), h.2.2⟩
theorem DSAll.kz (h : DSAll w base S C F) (E9 : w.grownBy w' none) : DSAll w' base S C F := h.keepG (Gr.of0 E9 NoB) (fun _ _ h => h)
theorem DTAll.lt (h : DTAll w base T F) : ∀ x, F x → base ≤ x ∧ x < w.heap.size := fun x hx => by
  obtain ⟨i, hi, hx⟩ := (h.2 x).1 hx
  exact (h.1 i hi).lt x hx
theorem DTAll.keepG (h : DTAll w base T F) (E : Gr w w' G) (hd : Dj F G) : DTAll w' base T F :=
  ⟨fun i hi => (h.1 i hi).keepG E fun x hx => hd x ((h.2 x).2 ⟨i, hi, hx⟩), h.2⟩
theorem DTAll.kz (h : DTAll w base T F) (E9 : w.grownBy w' none) : DTAll w' base T F := h.keepG (Gr.of0 E9 NoB) (fun _ _ h => h)
theorem DSAll.nil (w : World) (base : Nat) : DSAll w base [] [] NoB := ⟨rfl, fun _ h => absurd h (Nat.not_lt_zero _), fun x => ⟨fun h => h.elim, fun ⟨_, h, _⟩ => absurd h (Nat.not_lt_zero _)⟩⟩
theorem DTAll.nil (w : World) (base : Nat) : DTAll w base [] NoB := ⟨fun _ h => absurd h (Nat.not_lt_zero _), fun x => ⟨fun h => h.elim, fun ⟨_, h, _⟩ => absurd h (Nat.not_lt_zero _)⟩⟩
theorem DSAll.mono {base' : Nat} (h : DSAll w base S C F) (hb : base' ≤ base) : DSAll w base' S C F := ⟨h.1, fun i hi => ⟨(h.2.1 i hi).1.mono hb, (h.2.1 i hi).2.1.mono hb, (h.2.1 i hi).2.2.mono hb⟩, h.2.2⟩
theorem DTAll.mono {base' : Nat} (h : DTAll w base T F) (hb : base' ≤ base) : DTAll w base' T F := ⟨fun i hi => (h.1 i hi).mono hb, h.2⟩
theorem DSAll.snoc {P : List (List UInt8)} (h : DSAll w base S C F) (hL : Own w base 46 1 la l.length (l.map u16v)) (hW : Own w base 46 1 ow o.length (o.map u16v)) (hP : Own w base 9 1 po P.length (P.map sv)) :
    DSAll w base (S ++ [⟨l, o, P⟩]) (C ++ [⟨la, ow, po⟩]) (fun x => F x ∨ Bl la x ∨ Bl ow x ∨ Bl po x) := by
  obtain ⟨h1, h2, h4⟩ := h
  have hlast : ∀ {i}, i < (S ++ [(⟨l, o, P⟩ : KS)]).length → ¬ i < S.length → i = S.length := fun {i} a b => by simp at a; omega
  have eC : (C ++ [(⟨la, ow, po⟩ : DC)]).getD S.length default = ⟨la, ow, po⟩ := by rw [← h1]; exact getD_snoc_eq
  refine ⟨by simp [h1], fun i hi => ?_, fun x => ⟨fun hx => ?_, fun hx => ?_⟩⟩
  · by_cases hs : i < S.length
    · rw [getD_snoc_lt hs, getD_snoc_lt (by rw [h1]; exact hs)]; exact h2 i hs
    · obtain rfl := hlast hi hs
      rw [getD_snoc_eq, eC]; exact ⟨hL, hW, hP⟩
  · rcases hx with hx | hx
    · obtain ⟨i, hi, hx⟩ := (h4 x).1 hx
      exact ⟨i, by simp; omega, by rw [getD_snoc_lt (by rw [h1]; exact hi)]; exact hx⟩
    · exact ⟨S.length, by simp, by rw [eC]; exact hx⟩
  · obtain ⟨i, hi, hx⟩ := hx
    by_cases hs : i < S.length
    · rw [getD_snoc_lt (by rw [h1]; exact hs)] at hx; exact .inl ((h4 x).2 ⟨i, hs, hx⟩)
    · obtain rfl := hlast hi hs
      rw [eC] at hx; exact .inr hx
theorem DSAll.notBx (h : DSAll w base S C F) (B : Bx w b t cs) (h1 : t ≠ 46) (h2 : t ≠ 9) : ¬ F b := fun hf => by
  obtain ⟨i, hi, hf⟩ := (h.2.2 b).1 hf
  obtain ⟨a1, a2, a3⟩ := h.2.1 i hi
  rcases hf with hf | hf | hf
  · exact a1.neB B h1 hf
  · exact a2.neB B h1 hf
  · exact a3.neB B h2 hf
theorem DSAll.notOwn {base2 : Nat} (h : DSAll w base S C F) (O : Own w base2 e sz v n cs) (h1 : e ≠ 46) (h2 : e ≠ 9) : Dj (Bl v) F := fun x hx hf => by
  obtain ⟨i, hi, hf⟩ := (h.2.2 x).1 hf
  obtain ⟨a1, a2, a3⟩ := h.2.1 i hi
  rcases hf with hf | hf | hf
  · exact O.notOwn a1 h1 x hx hf
  · exact O.notOwn a2 h1 x hx hf
  · exact O.notOwn a3 h2 x hx hf
theorem DTAll.notBx (h : DTAll w base T F) (B : Bx w b t cs) (h1 : t ≠ 46) : ¬ F b := fun hf => by
  obtain ⟨i, hi, hf⟩ := (h.2 b).1 hf
  exact (h.1 i hi).neB B h1 hf
theorem DTAll.notOwn {base2 : Nat} (h : DTAll w base T F) (O : Own w base2 e sz v n cs) (h1 : e ≠ 46) : Dj (Bl v) F := fun x hx hf => by
  obtain ⟨i, hi, hf⟩ := (h.2 x).1 hf
  exact O.notOwn (h.1 i hi) h1 x hx hf
theorem DbR.lt (h : DbR w base d S M F) : ∀ x, F x → base ≤ x ∧ x < w.heap.size := by
  obtain ⟨mp, sv9, tv, C, T, F0S, FT, hd, hM, hx, O, hS, OT, hT, hF⟩ := h
  intro x hf
  rcases (hF x).1 hf with rfl | hf | hf | hf | hf
  · exact ⟨hd, hx.lt⟩
  · exact O.lt x hf
  · exact OT.lt x hf
  · exact hS.lt x hf
  · exact hT.lt x hf
theorem DbR.keepG (h : DbR w base d S M F) (E : Gr w w' G) (hd : Dj F G) : DbR w' base d S M F := by
  obtain ⟨mp, sv9, tv, C, T, F0S, FT, hdd, hM, hx, O, hS, OT, hT, hF⟩ := h
  exact ⟨mp, sv9, tv, C, T, F0S, FT, hdd, hM, hx.keepG E (hd d ((hF d).2 (.inl rfl))), O.keepG E (fun x hx => hd x ((hF x).2 (.inr (.inl hx)))), hS.keepG E (fun x hx => hd x ((hF x).2 (.inr (.inr (.inr (.inl hx)))))),
    OT.keepG E (fun x hx => hd x ((hF x).2 (.inr (.inr (.inl hx))))), hT.keepG E (fun x hx => hd x ((hF x).2 (.inr (.inr (.inr (.inr hx)))))), hF⟩
theorem DbR.kz (h : DbR w base d S M F) (E9 : w.grownBy w' none) : DbR w' base d S M F := h.keepG (Gr.of0 E9 NoB) (fun _ _ h => h)
theorem DbR.mono {base' : Nat} (h : DbR w base d S M F) (hb : base' ≤ base) : DbR w base' d S M F := by
  obtain ⟨mp, sv9, tv, C, T, F0S, FT, hdd, hM, hx, O, hS, OT, hT, hF⟩ := h
  exact ⟨mp, sv9, tv, C, T, F0S, FT, Nat.le_trans hb hdd, hM, hx, O.mono hb, hS.mono hb, OT.mono hb, hT.mono hb, hF⟩
theorem DSAll.new (h : DSAll w base S C F0S) (hd : base ≤ d) (hx : Bx w d 72 [mp, sv9, .slice none 0 0]) (O : Own w base 75 4 sv9 S.length (C.flatMap cellsD)) : DbR w base d S [] (fun x => x = d ∨ Bl sv9 x ∨ F0S x) :=
  ⟨mp, sv9, _, C, [], F0S, NoB, hd, rfl, hx, O, h, Own.nil _ _ _ _, DTAll.nil _ _, fun x => by
    have : ¬ Bl (Value.slice none 0 0) x := fun h => by cases h
    simp only [this, false_or, NoB, or_false]⟩
theorem el_ds {C : List DC} {e : Int} {i : Nat} (he : e = (i : Int)) (h : i < C.length) : ∀ j u, ([(C.getD i default).la, (C.getD i default).ow, (C.getD i default).po, .bool false] : List Value)[j]? = some u → (C.flatMap cellsD)[e.toNat * 4 + j]? = some u :=
  el_flat (f := cellsD) (d := default) (by decide) (fun _ _ => rfl) he h
theorem el_dt {T : List DT} {e : Int} {i : Nat} (he : e = (i : Int)) (h : i < T.length) : ∀ j u, ([(T.getD i default).la, .int .u64 (T.getD i default).n] : List Value)[j]? = some u → (T.flatMap cellsT)[e.toNat * 2 + j]? = some u :=
  el_flat (f := cellsT) (d := default) (by decide) (fun _ _ => rfl) he h
end
end Go.Gx

namespace Go.Gx
open Go.RowKit
section
variable {P : Program} {ol : List Oper} {Q Q1 : Exit → Act → World → Prop}
end
end Go.Gx

namespace Go.Gx
open Go.RowKit
section
variable {P : Program} {ol : List Oper} {Q : Exit → Act → World → Prop} {bigs : List Nat} {φ : Nat → Value → Prop} {G : World → Prop} {a0 : Act} {N : Nat}
def PhT (bigs : List Nat) (φ : Nat → Value → Prop) (e : List (Nat × Value)) (j : Nat) (u : Value) : Prop := (bigs.contains j = true → e.lookup j = some u) ∧ (bigs.contains j = false → φ j u)
theorem PhT.mono {e : List (Nat × Value)} {i j : Nat} {v u : Value} (hij : j ≠ i) (h : PhT bigs φ e j u) : PhT bigs φ ((i, v) :: e) j u :=
  ⟨fun hb => by rw [List.lookup_cons, beq_false_of_ne hij]; exact h.1 hb, h.2⟩
structure TInv (ol : List Oper) (bigs : List Nat) (φ : Nat → Value → Prop) (a0 : Act) (N : Nat) (listed : Array Bool) (todo : List Nat) (e : List (Nat × Value)) (a : Act) : Prop where
  size : a.tmps.size = N
  defers : a.defers = a0.defers
  base : ∀ t, (∀ j o, ol[j]? = some o → listed.getD j true = true → o.dst ≠ some t) → a.tmps.getD t undef = a0.tmps.getD t undef
  phi : ∀ j o d, ol[j]? = some o → listed.getD j true = true → o.dst = some d → PhT bigs φ e j (a.tmps.getD d undef)
  closed : ∀ j o, ol[j]? = some o → listed.getD j true = true → ∀ x ∈ o.after, Region.binds .any x = true → listed.getD x.on false = true
  lsize : listed.size = ol.length
  todos : ∀ i, i ∈ todo ↔ i ∈ bigs ∧ listed.getD i true = false
  nodup : List.Nodup todo
def KI (P : Program) (ol : List Oper) (bigs : List Nat) (φ : Nat → Value → Prop) (G : World → Prop) (a0 : Act) (N : Nat) (e : List (Nat × Value)) (i : Nat) (w : World) (K : Value → World → Prop) : Prop :=
  ∀ w1, w.grownBy w1 none → G w1 → ∀ a, a.tmps.size = N → (∀ t, safeB ol i t = true → a.tmps.getD t undef = a0.tmps.getD t undef) → (∀ j oj d, depB ol i j = true → ol[j]? = some oj → oj.dst = some d → PhT bigs φ e j (a.tmps.getD d undef)) →
    ∀ o, ol[i]? = some o → wpList P ol.toArray (fun ex a' w' => ex = .normal ∧ ∃ v, ((o.dst = none ∧ a' = a) ∨ ∃ d, o.dst = some d ∧ a' = putsL a [(d, v)]) ∧ K v w' ∧ G w') [o] (putsL a []) w1
def readyT (ol : List Oper) (todo : List Nat) : List Nat := todo.filter fun i => todo.all fun j => !depB ol i j
def KT (P : Program) (ol : List Oper) (bigs : List Nat) (φ : Nat → Value → Prop) (G : World → Prop) (a0 : Act) (N : Nat) (Q : Exit → Act → World → Prop) : Nat → List Nat → List (Nat × Value) → World → Prop
  | 0, _, e, w => ∀ w1, w.grownBy w1 none → ∀ a', a'.tmps.size = N → a'.defers = a0.defers → (∀ t, (ol.all fun o => o.dst != some t) = true → a'.tmps.getD t undef = a0.tmps.getD t undef) →
      (∀ j oj d, ol[j]? = some oj → oj.dst = some d → PhT bigs φ e j (a'.tmps.getD d undef)) → Q .normal (putsL a' []) w1
  | n + 1, todo, e, w => ∀ i ∈ readyT ol todo, KI P ol bigs φ G a0 N e i w fun v w' => KT P ol bigs φ G a0 N Q n (todo.erase i) ((i, v) :: e) w'
theorem KT.stable : ∀ {n : Nat} {todo : List Nat} {e : List (Nat × Value)} {w w2 : World}, KT P ol bigs φ G a0 N Q n todo e w → w.grownBy w2 none → KT P ol bigs φ G a0 N Q n todo e w2
  | 0, _, _, _, _, h, E => fun w1 E1 => h w1 (grown_trans E E1)
  | _ + 1, _, _, _, _, h, E => fun i hi w1 E1 => h i hi w1 (grown_trans E E1)
def ObR9 (P : Program) (ol : List Oper) (bigs : List Nat) (φ : Nat → Value → Prop) (G : World → Prop) (a0 : Act) (N : Nat) (i : Nat) (o : Oper) : Prop :=
  ∀ (e : List (Nat × Value)) (a : Act) (w : World), a.tmps.size = N → G w → (∀ t, safeB ol i t = true → a.tmps.getD t undef = a0.tmps.getD t undef) → (∀ j oj d, depB ol i j = true → ol[j]? = some oj → oj.dst = some d → PhT bigs φ e j (a.tmps.getD d undef)) →
    wpList P ol.toArray (fun ex a' w' => ex = .normal ∧ (∃ d v, o.dst = some d ∧ a' = putsL a [(d, v)] ∧ φ i v) ∧ w.grownBy w' none) [o] (putsL a []) w
def ObRs9 (P : Program) (ol : List Oper) (bigs : List Nat) (φ : Nat → Value → Prop) (G : World → Prop) (a0 : Act) (N : Nat) : Nat → List Oper → Prop
  | _, [] => True
  | i, o :: r => (bigs.contains i = false → ObR9 P ol bigs φ G a0 N i o) ∧ ObRs9 P ol bigs φ G a0 N (i + 1) r
theorem ObRs9.nil {i : Nat} : ObRs9 P ol bigs φ G a0 N i [] := trivial
theorem ObRs9.cons {i : Nat} {o : Oper} {r : List Oper} (h : ObR9 P ol bigs φ G a0 N i o) (h' : ObRs9 P ol bigs φ G a0 N (i + 1) r) : ObRs9 P ol bigs φ G a0 N i (o :: r) := ⟨fun _ => h, h'⟩
theorem ObRs9.pass {i : Nat} {o : Oper} {r : List Oper} (hh : bigs.contains i = true) (h' : ObRs9 P ol bigs φ G a0 N (i + 1) r) : ObRs9 P ol bigs φ G a0 N i (o :: r) := ⟨fun h => absurd (hh.symm.trans h) (by decide), h'⟩
theorem ObRs9.getx : ∀ {l : List Oper} {i : Nat}, ObRs9 P ol bigs φ G a0 N i l → ∀ j o, l[j]? = some o → bigs.contains (i + j) = false → ObR9 P ol bigs φ G a0 N (i + j) o
  | [], _, _, j, o, h, _ => by simp at h
  | o' :: r, i, h, 0, o, hj, hs => by simp at hj; subst hj; exact h.1 hs
  | o' :: r, i, h, j + 1, o, hj, hs => by
    have := ObRs9.getx h.2 j o (by simpa using hj) (by rwa [show i + 1 + j = i + (j + 1) by omega])
    rwa [show i + 1 + j = i + (j + 1) by omega] at this
theorem region_tree_steps (hlex : lexB' ol = true) (hdn : dstNB ol N = true) (hdst : dstsB ol = true) (hbl : (bigs.all fun i => Nat.blt i ol.length) = true)
    (hG : ∀ w1 w2, w1.grownBy w2 none → G w1 → G w2) (obL : ∀ i o, ol[i]? = some o → bigs.contains i = false → ObR9 P ol bigs φ G a0 N i o) :
    ∀ (fuel : Nat) (listed : Array Bool) (todo : List Nat) (e : List (Nat × Value)) (a : Act) (w : World), TInv ol bigs φ a0 N listed todo e a → KT P ol bigs φ G a0 N Q todo.length todo e w → G w → (List.range ol.length).countP (fun i => !listed.getD i true) ≤ fuel → wpAny P .any ol.toArray Q fuel listed a w := by
  have done : ∀ (listed : Array Bool) (todo : List Nat) (e : List (Nat × Value)) (a : Act) (w : World), TInv ol bigs φ a0 N listed todo e a → KT P ol bigs φ G a0 N Q todo.length todo e w → Region.ready .any ol.toArray listed = [] → Q .normal a w := by
    intro listed todo ee a w I hk hr
    have hall : ∀ i, i < ol.length → listed.getD i true = true := by
      intro i
      induction i using Nat.strongRecOn with
      | _ i ih =>
        intro hi
        by_cases hq : listed.getD i true = true
        · exact hq
        · exfalso
          have hm : i ∈ Region.ready .any ol.toArray listed := by
            rw [mem_ready]
            refine ⟨by simpa using hq, ol[i], by simp [hi], fun e he hb => ?_⟩
            have h1 := List.all_eq_true.1 hlex i (by simp [hi])
            simp only [List.getElem?_eq_getElem hi, Array.all_eq_true_iff_forall_mem, Bool.or_eq_true, Bool.not_eq_true', Nat.blt_eq] at h1
            have h2 := (h1 e he).resolve_left (by simp [hb])
            exact getD_true_lt (ih e.on h2 (by omega)) (by rw [I.lsize]; omega)
          rw [hr] at hm
          cases hm
    have ht : todo = [] := by
      rw [List.eq_nil_iff_forall_not_mem]
      intro i hi
      obtain ⟨hb, hl⟩ := (I.todos i).1 hi
      have := List.all_eq_true.1 hbl i hb
      rw [hall i (by simpa [Nat.blt_eq] using this)] at hl
      cases hl
    subst ht
    exact hk w (grown_refl _ _) a I.size I.defers (fun t ht => I.base t fun j o hj _ hd' => by
      have := List.all_eq_true.1 ht o (List.mem_of_getElem? hj)
      simp [hd'] at this) (fun j oj d hj hd' => I.phi j oj d hj (hall j (List.getElem?_eq_some_iff.1 hj).1) hd')
  intro fuel
  induction fuel with
  | zero =>
    intro listed todo ee a w I hk hg hcnt
    have hr : Region.ready .any ol.toArray listed = [] := by
      rw [List.eq_nil_iff_forall_not_mem]
      intro i hi
      obtain ⟨h1, o, ho, _⟩ := mem_ready.1 hi
      have hlt : i < ol.length := by simpa using (Array.getElem?_eq_some_iff.1 ho).1
      have hz : (List.range ol.length).countP (fun i => !listed.getD i true) = 0 := by omega
      rw [List.countP_eq_zero] at hz
      exact hz i (by simp [hlt]) (by simp [h1])
    exact ⟨hr, done listed todo ee a w I hk hr⟩
  | succ fuel ih =>
    intro listed todo ee a w I hk hg hcnt
    refine ⟨fun hr => done listed todo ee a w I hk hr, fun i hi => ?_⟩
    obtain ⟨hun, o, ho, hwait⟩ := mem_ready.1 hi
    have ho' : ol[i]? = some o := by simpa using ho
    have hlt : i < ol.length := (List.getElem?_eq_some_iff.1 ho').1
    have hls : i < listed.size := by rw [I.lsize]; exact hlt
    have hcnt' : (List.range ol.length).countP (fun j => !(listed.setIfInBounds i true).getD j true) ≤ fuel := by
      have : (List.range ol.length).countP (fun j => !(listed.setIfInBounds i true).getD j true) < (List.range ol.length).countP (fun j => !listed.getD j true) := by
        refine countP_lt _ _ (fun y hy => ?_) _ i (by simp [hlt]) (by simp [hun]) (by simp [Array.getD_eq_getD_getElem?, hls])
        by_cases hiy : i = y
        · subst hiy; simp [Array.getD_eq_getD_getElem?, hls] at hy
        · rwa [getD_set_ne true hiy] at hy
      omega
    have hbase : ∀ t, safeB ol i t = true → a.tmps.getD t undef = a0.tmps.getD t undef := by
      intro t ht
      refine I.base t fun j oj hj hlj hd => ?_
      have h1 := List.all_eq_true.1 ht oj (List.mem_of_getElem? hj)
      simp only [Bool.or_eq_true, bne_iff_ne, ne_eq, Array.any_eq_true, Bool.and_eq_true, beq_iff_eq] at h1
      rcases h1 with h1 | ⟨q, hq, h1, h2⟩
      · exact h1 hd
      · have := getD_of_false (I.closed j oj hj hlj _ (Array.getElem_mem hq) h2)
        rw [h1, hun] at this
        cases this
    have hdep : ∀ j oj d, depB ol i j = true → ol[j]? = some oj → oj.dst = some d → PhT bigs φ ee j (a.tmps.getD d undef) := by
      intro j oj d hj hoj hd
      obtain ⟨e, he, h1, h2⟩ := depB_spec ho' hj
      exact I.phi j oj d hoj (getD_of_false (by rw [← h1]; exact hwait e he h2)) hd
    have hset : ∀ j, j ≠ i → (listed.setIfInBounds i true).getD j true = listed.getD j true := fun j hj => getD_set_ne true (Ne.symm hj)
    have hseti : (listed.setIfInBounds i true).getD i true = true := by simp [Array.getD_eq_getD_getElem?, hls]
    have hclosed : ∀ j oj, ol[j]? = some oj → (listed.setIfInBounds i true).getD j true = true → ∀ e ∈ oj.after, Region.binds .any e = true → (listed.setIfInBounds i true).getD e.on false = true := by
      intro j oj hoj hlj e he hb
      refine getD_set_true ?_
      by_cases hji : j = i
      · subst hji
        rw [ho'] at hoj; cases hoj
        exact hwait e he hb
      · rw [hset j hji] at hlj
        exact I.closed j oj hoj hlj e he hb
    have hne : ∀ j oj d, ol[j]? = some oj → j ≠ i → o.dst = some d → oj.dst ≠ some d := by
      intro j oj d hoj hji hd hd'
      have hj : j < ol.length := (List.getElem?_eq_some_iff.1 hoj).1
      have h1 := List.all_eq_true.1 (List.all_eq_true.1 hdst i (by simp [hlt])) j (by simp [hj])
      simp only [ho', hoj, Bool.or_eq_true, beq_iff_eq, bne_iff_ne, ne_eq] at h1
      rcases h1 with h1 | h1 | h1
      · exact hji h1.symm
      · exact h1 (by rw [hd, hd'])
      · rw [hd] at h1; cases h1
    -- what is left of the frame, behind a value in slot d
    have hframe : ∀ d v (e' : List (Nat × Value)), o.dst = some d → (∀ j u, j ≠ i → PhT bigs φ ee j u → PhT bigs φ e' j u) → PhT bigs φ e' i v → 
        (∀ t, (∀ j oj, ol[j]? = some oj → (listed.setIfInBounds i true).getD j true = true → oj.dst ≠ some t) → (putsL a [(d, v)]).tmps.getD t undef = a0.tmps.getD t undef) ∧
        (∀ j oj d', ol[j]? = some oj → (listed.setIfInBounds i true).getD j true = true → oj.dst = some d' → PhT bigs φ e' j ((putsL a [(d, v)]).tmps.getD d' undef)) := by
      intro d v e' hd hR hv
      have hdN : d < a.tmps.size := by
        have h1 := List.all_eq_true.1 hdn o (List.mem_of_getElem? ho')
        simp only [hd, Nat.blt_eq] at h1
        rw [I.size]; exact h1
      refine ⟨fun t ht => ?_, fun j oj d' hoj hlj hd' => ?_⟩
      · have hdt : d ≠ t := fun e => ht i o ho' hseti (by rw [hd, e])
        rw [get_put_ne hdt]
        refine I.base t fun j oj hoj hlj => ?_
        by_cases hji : j = i
        · subst hji; rw [hun] at hlj; cases hlj
        · exact ht j oj hoj (by rw [hset j hji]; exact hlj)
      · by_cases hji : j = i
        · subst hji
          rw [ho'] at hoj; cases hoj
          rw [hd] at hd'; cases hd'
          rw [get_put_eq hdN]
          exact hv
        · rw [hset j hji] at hlj
          have : d ≠ d' := fun e => hne j oj d hoj hji hd (by rw [hd', e])
          rw [get_put_ne this]
          exact hR j _ hji (I.phi j oj d' hoj hlj hd')
    by_cases hin : bigs.contains i = true
    · have hmem : i ∈ bigs := by simpa using hin
      have hit : i ∈ todo := (I.todos i).2 ⟨hmem, hun⟩
      have hrt : i ∈ readyT ol todo := by
        unfold readyT
        rw [List.mem_filter]
        refine ⟨hit, List.all_eq_true.2 fun j hj => ?_⟩
        cases hd : depB ol i j with
        | false => rfl
        | true =>
          obtain ⟨x, hx, h1, h2⟩ := depB_spec ho' hd
          have h3 := getD_of_false (hwait x hx h2)
          rw [h1, ((I.todos j).1 hj).2] at h3
          cases h3
      obtain ⟨n, hn⟩ : ∃ n, todo.length = n + 1 := ⟨todo.length - 1, by have := List.length_pos_of_mem hit; omega⟩
      have hn2 : (todo.erase i).length = n := by rw [List.length_erase_of_mem hit, hn]; rfl
      rw [hn] at hk
      have h0 := hk i hrt w (grown_refl _ _) hg a I.size hbase hdep o ho'
      refine wp_one (by simpa using ho') h0 fun a' w' h => ?_
      obtain ⟨v, h1, h2, h3⟩ := h
      have htodo : ∀ x, x ∈ todo.erase i ↔ x ∈ bigs ∧ (listed.setIfInBounds i true).getD x true = false := by
        intro x
        rw [I.nodup.mem_erase_iff, I.todos]
        by_cases hxi : x = i
        · subst hxi; simp [hseti]
        · rw [hset x hxi]; simp [hxi]
      refine ih _ (todo.erase i) ((i, v) :: ee) a' w' ?_ (by rw [hn2]; exact h2) h3 hcnt'
      have hpi : PhT bigs φ ((i, v) :: ee) i v := ⟨fun _ => by simp, fun hh => absurd (hin.symm.trans hh) (by decide)⟩
      rcases h1 with ⟨hd, rfl⟩ | ⟨d, hd, rfl⟩
      · refine ⟨I.size, I.defers, fun t ht => ?_, fun j oj d' hoj hlj hd' => ?_, hclosed, by simp [I.lsize], htodo, I.nodup.erase i⟩
        · refine I.base t fun j oj hoj hlj => ?_
          by_cases hji : j = i
          · subst hji; rw [hun] at hlj; cases hlj
          · exact ht j oj hoj (by rw [hset j hji]; exact hlj)
        · by_cases hji : j = i
          · subst hji
            rw [ho'] at hoj; cases hoj
            rw [hd] at hd'; cases hd'
          · rw [hset j hji] at hlj
            exact PhT.mono hji (I.phi j oj d' hoj hlj hd')
      · obtain ⟨f1, f2⟩ := hframe d v ((i, v) :: ee) hd (fun j u hj h => h.mono hj) hpi
        exact ⟨by rw [putsL_size, I.size], by rw [putsL_defers, I.defers], f1, f2, hclosed, by simp [I.lsize], htodo, I.nodup.erase i⟩
    · have hin' : bigs.contains i = false := by simpa using hin
      refine wp_one (by simpa using ho') (obL i o ho' hin' ee a w I.size hg hbase hdep) fun a' w' h => ?_
      obtain ⟨⟨d, v, hd, rfl, hv⟩, hgr⟩ := h
      obtain ⟨f1, f2⟩ := hframe d v ee hd (fun _ _ _ h => h) ⟨fun hh => absurd (hin'.symm.trans hh) (by decide), fun _ => hv⟩
      refine ih _ todo ee _ w' ⟨by rw [putsL_size, I.size], by rw [putsL_defers, I.defers], f1, f2, hclosed, by simp [I.lsize], fun x => ?_, I.nodup⟩ (hk.stable hgr) (hG _ _ hgr hg) hcnt'
      rw [I.todos]
      by_cases hxi : x = i
      · subst hxi; simp [hseti, hun]; simpa using hin'
      · rw [hset x hxi]
theorem any_tree (bigs : List Nat) (hlex : lexB' ol = true) (hdn : dstNB ol N = true) (hdst : dstsB ol = true) (hbl : (bigs.all fun i => Nat.blt i ol.length) = true) (hnd : decide bigs.Nodup = true)
    {l : List (Nat × Value)} {w : World} (hN : a0.tmps.size = N) (hG : ∀ w1 w2, w1.grownBy w2 none → G w1 → G w2) (g0 : G w) (obL : ObRs9 P ol bigs φ G (putsL a0 l) N 0 ol) (hdf : (putsL a0 l).defers = a0.defers)
    (main : KT P ol bigs φ G (putsL a0 l) N Q bigs.length bigs [] w) : RegAny P ol Q (putsL a0 l) w := by
  have hd : w.grownBy { w with drawn := w.drawn + 1 } none := ⟨rfl, rfl, rfl, Nat.le_refl _, fun _ _ _ => rfl⟩
  have I : TInv ol bigs φ (putsL a0 l) N (Array.replicate ol.length false) bigs [] (putsL a0 l) := by
    refine ⟨slN hN, rfl, fun _ _ => rfl, fun j o d hj hl => ?_, fun j o hj hl => ?_, by simp, fun i => ⟨fun hi => ⟨hi, ?_⟩, fun hi => hi.1⟩, of_decide_eq_true hnd⟩
    · have : j < ol.length := (List.getElem?_eq_some_iff.1 hj).1
      simp [Array.getD_eq_getD_getElem?, this] at hl
    · have : j < ol.length := (List.getElem?_eq_some_iff.1 hj).1
      simp [Array.getD_eq_getD_getElem?, this] at hl
    · have := List.all_eq_true.1 hbl i hi
      have h3 : i < ol.length := by simpa [Nat.blt_eq] using this
      simp [Array.getD_eq_getD_getElem?, h3]
  exact region_tree_steps (P := P) (Q := Q) hlex hdn hdst hbl hG (fun i o hi hh => by
      have h5 := ObRs9.getx obL i o hi (by rw [Nat.zero_add]; exact hh)
      rw [Nat.zero_add] at h5; exact h5) ol.length (Array.replicate ol.length false) bigs [] (putsL a0 l) _ I (main.stable hd) (hG _ _ hd g0) (Nat.le_trans (List.countP_le_length) (by simp))
theorem kt_step {n : Nat} {todo rs : List Nat} {e : List (Nat × Value)} {w : World} (hr : readyT ol todo = rs) (h : ∀ i ∈ rs, KI P ol bigs φ G a0 N e i w fun v w' => KT P ol bigs φ G a0 N Q n (todo.erase i) ((i, v) :: e) w') : KT P ol bigs φ G a0 N Q (n + 1) todo e w := by
  subst hr; exact h
theorem one_mem {p : Nat → Prop} {x : Nat} (h : p x) : ∀ i ∈ [x], p i := fun i hi => by
  obtain rfl : i = x := by simpa using hi
  exact h
theorem more_mem {p : Nat → Prop} {x y : Nat} {r : List Nat} (h : p x) (h' : ∀ i ∈ y :: r, p i) : ∀ i ∈ x :: y :: r, p i := List.forall_mem_cons.2 ⟨h, h'⟩
theorem kt_end {o : Oper} {d : Nat} {v : Value} {a : Act} {w : World} {K : Value → World → Prop} (hd : o.dst = some d) (g : G w) (h : K v w) :
    wpList P ol.toArray (fun ex a' w' => ex = .normal ∧ ∃ v, ((o.dst = none ∧ a' = a) ∨ ∃ d, o.dst = some d ∧ a' = putsL a [(d, v)]) ∧ K v w' ∧ G w') [] (putsL a [(d, v)]) w := ⟨rfl, v, .inr ⟨d, hd, rfl⟩, h, g⟩
theorem obT_end {o : Oper} {i d : Nat} {v : Value} {a : Act} {w : World} (hd : o.dst = some d) (hv : φ i v) :
    wpList P ol.toArray (fun ex a' w' => ex = .normal ∧ (∃ d v, o.dst = some d ∧ a' = putsL a [(d, v)] ∧ φ i v) ∧ w.grownBy w' none) [] (putsL a [(d, v)]) w := ⟨rfl, ⟨d, v, hd, rfl, hv⟩, grown_refl _ _⟩
end
end Go.Gx

namespace Go.Proofs.Ytmhdbphpmgjpcaa
open Go.Gx Go.RowKit
attribute [local irreducible] wpList wpStill Code.wp Calls

theorem refNew_ret (q : Int) (w : World) : Ret Try.prog 80 #[(.int .i64 q)] w (fun v' w' => Below w.heap.size w w' ∧ ∃ m, v' = ptr m 0) := by
 have hb := Below.refl w.heap.size w
 refine enter (N := 11) Try.func80 rfl rfl (by simp) fun a hN hd hA => ?_
 have b : a.tmps.getD 0 undef = (.int .i64 q) := hA 0 (by simp)
 clear hA
 refine zF fun _ a => zH (zD rfl (zB (a _ _ (zF fun _ a => zH (zG (zC hN rfl b) (zf (pv := [(0, (.int .i64 q))]) (v := (Value.agg #[(.int .i64 q), (.slice none 0 0)])) ⟨rfl, (zA hN rfl), trivial⟩ zy (op_box (cs := [(.int .i64 q), (.slice none 0 0)]) (zA hN rfl) rfl ?_)))))))
 intro e b g f d c
 obtain ⟨hb, _⟩ := yE hb c
 refine zf (pv := []) (v := (Value.agg #[(.slice none 0 0)])) trivial zy (op_box (cs := [(.slice none 0 0)]) (zA hN rfl) rfl ?_)
 intro h c g f e d
 obtain ⟨hb, _⟩ := yE hb d
 refine op_make (n := 64) (y' := .const undef) slt189 rfl rfl rfl zx zx hb.size ?_
 intro d h e f g
 obtain ⟨hb, _⟩ := yE hb f
 refine zf (pv := [(1, (ptr b 0)), (2, (ptr c 0)), (3, d)]) (v := (Value.agg #[(.slice none 0 0), (.slice none 0 0), (ptr b 0), (ptr c 0), d, (.slice none 0 0)])) ⟨rfl, (zA hN rfl), ⟨rfl, (zA hN rfl), ⟨rfl, (zA hN rfl), trivial⟩⟩⟩ (by obtain ⟨_, _, _, rfl⟩ := e.sl; kernel_rfl) (op_box (cs := [(.slice none 0 0), (.slice none 0 0), (ptr b 0), (ptr c 0), d, (.slice none 0 0)]) (zA hN rfl) rfl ?_)
 intro f g c d e b
 obtain ⟨hb, _⟩ := yE hb b
 refine zD (zA hN rfl) (zB (a _ _ (wp_ret (ret1 rfl hd (zA hN rfl) ⟨_, rfl, ?_⟩))))
 exact ⟨hb, _, rfl⟩

theorem newDB_ret (L : List CSn) (q : Int) (vL : Value) (w : World) (hL : L.length ≤ 9223372036854775807) (hll : ∀ x ∈ L, x.1.2.length ≤ 9223372036854775807 ∧ x.2.2.length ≤ 9223372036854775807) (hr : RdC w 0 w.heap.size 2 vL L.length (L.flatMap cells2)) (hlab : ∀ x9 ∈ (L.map Prod.fst), RdC w 0 w.heap.size 1 x9.1 x9.2.length (x9.2.map u16v)) (hown : ∀ x9 ∈ (L.map Prod.snd), RdC w 0 w.heap.size 1 x9.1 x9.2.length (x9.2.map u16v)) : Ret Try.prog 36 #[(.agg #[vL, (.int .i64 q)])] w (fun v' w' => Below w.heap.size w w' ∧ ((cfgOk L q = false ∧ v' = .tuple #[.pointer none, .int .i64 1]) ∨ (cfgOk L q = true ∧ ∃ (d : Nat) (F : Nat → Prop), v' = .tuple #[ptr d 0, .int .i64 0] ∧ DbR w' w.heap.size d (L.map ksOf) [] F))) := by
 have hb := Below.refl w.heap.size w
 refine enter (N := 71) Try.func36 rfl rfl (by simp) fun a hN hd hA => ?_
 have c : a.tmps.getD 0 undef = (.agg #[vL, (.int .i64 q)]) := hA 0 (by simp)
 clear hA
 refine zF fun _ f => zH (op_box (cs := [vL, (.int .i64 q)]) (zC hN rfl c) rfl ?_)
 intro o m s p g l
 obtain ⟨hb, _⟩ := yE hb l
 have hr := hr.keep0 l
 have hlab := all9 hlab fun _ h => h.keep0 l
 have hown := all9 hown fun _ h => h.keep0 l
 refine zD rfl (zD rfl (zB (f _ _ (zF fun _ f => zF fun _ t => zH (zM fld59_0 (zA hN rfl) (zN one57 (zA hN rfl) (g.cell rfl) (op_len_rd Try.underlying57 (zA hN rfl) hr (op_eql (zA hN rfl) rfl (fun y => ?_) (fun y => ?_)))))))))
 ·
  refine zG (zA hN rfl) (zR (j := 4) (dj := 11) (b := false) rfl rfl rfl (zA hN rfl) rfl rfl (zR (j := 4) (dj := 11) (b := false) rfl rfl rfl (zA hN rfl) rfl rfl (zR (j := 4) (dj := 11) (b := false) rfl rfl rfl (zA hN rfl) rfl rfl ?_)))
  refine zR (j := 4) (dj := 11) (b := false) rfl rfl rfl (zA hN rfl) rfl rfl (zc (zA hN rfl) rfl (zB (t _ _ (wp_cond_true (zA hN rfl) (zF fun _ t => zH (zD rfl (zD rfl (zB (t _ _ (wp_ret (zO ( (ret2 rfl hd (zA hN rfl) (zA hN rfl) ⟨_, rfl, ?_⟩)))))))))))))
  exact ⟨hb, .inl ⟨cfg_f1 zx, rfl⟩⟩
 refine zG (zA hN rfl) (zS (j := 4) (dj := 11) (b := false) rfl rfl rfl (zA hN rfl) (zM fld59_0 (zA hN rfl) (zS (j := 4) (dj := 11) (b := false) rfl rfl rfl (zA hN rfl) (zN one57 (zA hN rfl) (g.cell rfl) (zS (j := 4) (dj := 11) (b := false) rfl rfl rfl (zA hN rfl) (op_len_rd Try.underlying57 (zA hN rfl) hr (zS (j := 4) (dj := 11) (b := false) rfl rfl rfl (zA hN rfl) (op_gtr (zA hN rfl) rfl (fun z => ?_) (fun z => ?_)))))))))
 ·
  refine zd (zA hN rfl) (zA hN rfl) (zB (t _ _ (wp_cond_true (zA hN rfl) (zF fun _ t => zH (zD rfl (zD rfl (zB (t _ _ (wp_ret (zO ( (ret2 rfl hd (zA hN rfl) (zA hN rfl) ⟨_, rfl, ?_⟩))))))))))))
  exact ⟨hb, .inl ⟨cfg_f1 zx, rfl⟩⟩
 refine zd (zA hN rfl) (zA hN rfl) ?_
 refine zB (t _ _ (wp_cond_false (zA hN rfl) (wp_skip (f _ _ (zF fun _ f => zH (zM fld59_1 (zA hN rfl) (zN one3 (zA hN rfl) (g.cell rfl) (zj ok80 (refNew_ret q _) ⟨(zA hN rfl), trivial⟩ ?_))))))))
 rintro _ D ⟨B, A, rfl⟩
 have B := zQ B
 obtain ⟨hb, _⟩ := yE hb B
 have hlab := all9 hlab fun _ h => h.keep0 B
 have hown := all9 hown fun _ h => h.keep0 B
 refine zf (pv := [(0, (ptr A 0))]) (v := (Value.agg #[(ptr A 0), (.slice none 0 0), (.slice none 0 0)])) ⟨rfl, (zA hN rfl), trivial⟩ zy (op_box (cs := [(ptr A 0), (.slice none 0 0), (.slice none 0 0)]) (zA hN rfl) rfl ?_)
 intro J H O M K I
 obtain ⟨hb, _⟩ := yE hb I
 have hr := (hr.keep0 B).keep0 I
 have hlab := all9 hlab fun _ h => h.keep0 I
 have hown := all9 hown fun _ h => h.keep0 I
 have g := (g.keep0 B).keep0 I
 refine zD (zA hN rfl) (zB (f _ _ (zF fun _ f => zF fun _ t => zH (zD rfl (zB (t _ _ (wp_block (loop_m (fun mz_ az_ w' => ∃ (i : Nat) (lv : Value) (C : List DC) (F0S : Nat → Prop), mz_ = L.length - i ∧ (Sl az_ 1 (ptr m 0)) ∧ (Sl az_ 4 (ptr H 0)) ∧ (Sl az_ 5 (.int .i64 ((i : Nat) : Int))) ∧ (i ≤ L.length) ∧ (C.length = i) ∧ (∀ j, j < i → mayL ((L.map Prod.fst).getD j D2).2 = true ∧ mayL ((L.map Prod.snd).getD j D2).2 = true) ∧ (Below w.heap.size w w') ∧ (J.heap.size ≤ w'.heap.size) ∧ (RdC w' 0 w.heap.size 2 vL L.length (L.flatMap cells2)) ∧ (∀ x9 ∈ (L.map Prod.fst), RdC w' 0 w.heap.size 1 x9.1 x9.2.length (x9.2.map u16v)) ∧ (∀ x9 ∈ (L.map Prod.snd), RdC w' 0 w.heap.size 1 x9.1 x9.2.length (x9.2.map u16v)) ∧ (Bx w' m 59 [vL, (.int .i64 q)]) ∧ (Bx w' H 72 [(ptr A 0), lv, (.slice none 0 0)]) ∧ (DSAll w' w.heap.size ((L.take i).map ksOf) C F0S) ∧ (Own w' w.heap.size 75 4 lv i (C.flatMap cellsD))) _ hN hd ⟨0, (.slice none 0 0), [], NoB, rfl, (zU hN rfl), (zU hN rfl), (zU hN rfl), (Nat.zero_le _), rfl, (fun _ h => absurd h (Nat.not_lt_zero _)), hb, (Nat.le_refl _), hr, hlab, hown, g, K, (DSAll.nil _ _), (Own.nil _ _ _ _)⟩ ?_))))))))
 rintro _ X V P R ⟨i, lv, C, F0S, rfl, S, T, U, hi, hC, hmay, hb, W, hr, hlab, hown, g, hxd, hS, Q⟩
 have := hb.size
 refine zF fun _ t => zF fun _ Y => zH (zG (zC P rfl U) (zM fld59_0 (zC P rfl S) (zN one57 (zA P rfl) (g.cell rfl) (op_len_rd Try.underlying57 (zA P rfl) hr (op_lss (zA P rfl) (zA P rfl) (fun Z => ?_) (fun Z => ?_))))))
 ·
  refine zB (Y _ _ (wp_cond_true (zA P rfl) (wp_skip (t _ _ (seq_join1 (N := 71) (fun az_ w' => ∃ (aa : Value) (C2 : List DC) (ac : Nat → Prop), (Sl az_ 1 (ptr m 0)) ∧ (Sl az_ 4 (ptr H 0)) ∧ (Sl az_ 5 (.int .i64 ((i : Nat) : Int))) ∧ (C2.length = i + 1) ∧ (∀ j, j < i + 1 → mayL ((L.map Prod.fst).getD j D2).2 = true ∧ mayL ((L.map Prod.snd).getD j D2).2 = true) ∧ (Below w.heap.size w w') ∧ (V.heap.size ≤ w'.heap.size) ∧ (RdC w' 0 w.heap.size 2 vL L.length (L.flatMap cells2)) ∧ (∀ x9 ∈ (L.map Prod.fst), RdC w' 0 w.heap.size 1 x9.1 x9.2.length (x9.2.map u16v)) ∧ (∀ x9 ∈ (L.map Prod.snd), RdC w' 0 w.heap.size 1 x9.1 x9.2.length (x9.2.map u16v)) ∧ (Bx w' m 59 [vL, (.int .i64 q)]) ∧ (Own w' w.heap.size 75 4 aa (i + 1) (C2.flatMap cellsD)) ∧ (Bx w' H 72 [(ptr A 0), aa, (.slice none 0 0)]) ∧ (DSAll w' w.heap.size ((L.take (i + 1)).map ksOf) C2 ac)) (fun ab => ?_) ?_)))))
  ·
   refine zF fun _ t => wp_block (zF fun _ Y => zH (zM fld59_0 (zC P rfl S) (zN one57 (zA P rfl) (g.cell rfl) ?_)))
   have hla : RdC V 0 w.heap.size 1 ((L.map Prod.fst).getD i D2).1 ((L.map Prod.fst).getD i D2).2.length (((L.map Prod.fst).getD i D2).2.map u16v) := hlab _ (getD_mem (by simp; omega))
   have how : RdC V 0 w.heap.size 1 ((L.map Prod.snd).getD i D2).1 ((L.map Prod.snd).getD i D2).2.length (((L.map Prod.snd).getD i D2).2.map u16v) := hown _ (getD_mem (by simp; omega))
   have hlL := cs_len hll (show i < L.length by omega)
   refine zG (zC P rfl U) (zh slt57 (zA P rfl) hr (zA P rfl) zx zx ?_)
   intro ah ag ae af ad
   refine zX (cs := [((L.map Prod.fst).getD i D2).1, ((L.map Prod.snd).getD i D2).1]) agg56 rfl (zA P rfl) (fun j u hu => ad j u (by have := (List.getElem?_eq_some_iff.1 hu).1; simpa using this) ((el_cs (i := i) zx zx) j u hu)) (op_alloc (cs := [(.slice none 0 0), (.slice none 0 0)]) zero56 rfl ?_)
   intro an ak al am ai aj
   have ao : ¬ F0S ak := fun hf => by have := (hS.lt _ hf).2; omega
   obtain ⟨hb, _⟩ := yE hb aj
   have hlab := all9 hlab fun _ h => h.keep0 aj
   have hown := all9 hown fun _ h => h.keep0 aj
   have hla := hla.keep0 aj
   have how := how.keep0 aj
   have ap := ai
   refine zZ size56 (zA P rfl) (zA P rfl) rfl (by simp only [yA, yB, yC, yD, hla.one, how.one]; try rfl) ai rfl ?_
   intro ar ai aq
   have := aq.size
   have hlab := all9 hlab fun _ h => h.keep aq sR
   have hown := all9 hown fun _ h => h.keep aq sR
   have hS := (hS.kz aj).keepG (Gr.of aq) (Dj.one ao)
   have hla := hla.keep aq sR
   have hb := below_step1 hb aq hb.size zx
   refine zB ?_
   refine Y _ _ (zF fun _ Y => zF fun _ J3 => zH (zM fld56_0 (zA P rfl) (zN one54 (zA P rfl) (ai.cell rfl) (zj ok33 (refMay_ret ((L.map Prod.fst).getD i D2).2 _ _ (by first | assumption | omega | (simp only [List.length_append, List.length_cons, List.length_nil, List.length_drop, List.length_take]; omega) | (dsimp only; omega) | decide | (simp [keyV, be8_len]; done)) (show RdC ar 0 ar.heap.size 1 ((L.map Prod.fst).getD i D2).1 ((L.map Prod.fst).getD i D2).2.length (((L.map Prod.fst).getD i D2).2.map u16v) from by have hh : RdC ar 0 ar.heap.size 1 _ _ _ := (hla.mono (L' := 0) (B' := ar.heap.size) (Nat.zero_le _) zx); first | exact hh | exact hh.cast (by first | omega | (simp; try omega)) (by first | rfl | simp [u16v]))) ⟨(zA P rfl), trivial⟩ ?_))))
   rintro _ av ⟨au, rfl⟩
   have au := zQ au
   obtain ⟨hb, _⟩ := yE hb au
   have hr := ((hr.keep0 aj).keep aq sR).keep0 au
   have hlab := all9 hlab fun _ h => h.keep0 au
   have hown := all9 hown fun _ h => h.keep0 au
   have g := ((g.keep0 aj).keep aq sB).keep0 au
   have hxd := ((hxd.keep0 aj).keep aq sB).keep0 au
   have hS := hS.kz au
   have Q := ((Q.keep0 aj).keepX ap aq zz).keep0 au
   have hla := hla.keep0 au
   have how := (how.keep aq sR).keep0 au
   have ai := ai.keep0 au
   rcases Bool.eq_false_or_eq_true ((mayL ((L.map Prod.fst).getD i D2).2)) with aw | aw
   ·
    rw [aw]
    refine op_not (zA P rfl) (zG (zA P rfl) ?_)
    refine zS (j := 4) (dj := 38) (b := false) rfl rfl rfl (zA P rfl) (zM fld56_1 (zA P rfl) (zS (j := 4) (dj := 38) (b := false) rfl rfl rfl (zA P rfl) (zN one54 (zA P rfl) (ai.cell rfl) (zS (j := 4) (dj := 38) (b := false) rfl rfl rfl (zA P rfl) (zj ok33 (refMay_ret ((L.map Prod.snd).getD i D2).2 _ _ (by first | assumption | omega | (simp only [List.length_append, List.length_cons, List.length_nil, List.length_drop, List.length_take]; omega) | (dsimp only; omega) | decide | (simp [keyV, be8_len]; done)) (show RdC av 0 av.heap.size 1 ((L.map Prod.snd).getD i D2).1 ((L.map Prod.snd).getD i D2).2.length (((L.map Prod.snd).getD i D2).2.map u16v) from by have hh : RdC av 0 av.heap.size 1 _ _ _ := (how.mono (L' := 0) (B' := av.heap.size) (Nat.zero_le _) zx); first | exact hh | exact hh.cast (by first | omega | (simp; try omega)) (by first | rfl | simp [u16v]))) ⟨(zA P rfl), trivial⟩ ?_)))))
    rintro _ ay ⟨ax, rfl⟩
    have ax := zQ ax
    obtain ⟨hb, _⟩ := yE hb ax
    have hr := hr.keep0 ax
    have hlab := all9 hlab fun _ h => h.keep0 ax
    have hown := all9 hown fun _ h => h.keep0 ax
    have g := g.keep0 ax
    have hxd := hxd.keep0 ax
    have hS := hS.kz ax
    have Q := Q.keep0 ax
    have hla := hla.keep0 ax
    have how := how.keep0 ax
    have ai := ai.keep0 ax
    rcases Bool.eq_false_or_eq_true ((mayL ((L.map Prod.snd).getD i D2).2)) with az | az
    ·
     rw [az]
     refine zS (j := 4) (dj := 38) (b := false) rfl rfl rfl (zA P rfl) (op_not (zA P rfl) (zd (zA P rfl) (zA P rfl) (zB (J3 _ _ (wp_cond_false (zA P rfl) (wp_skip (Y _ _ ?_)))))))
     have aB := mayL_len aw
     have aC := mayL_len az
     have aD := hS.notBx g zz zz
     have aE := hS.notBx hxd zz zz
     have aF := hS.notOwn Q zz zz
     refine reg_split (hd := [_, _, _, _, _, _, _, _, _, _, _, _, _, _, _, _]) (tl := _) 16 mixed zy rfl rfl (any_tree (φ := phiV [(fun uz => uz = (ptr H 0)), (fun uz => uz = (ptr H 0)), (fun uz => uz = (ptr H 0)), (fun uz => uz = (ptr H 1)), (fun uz => uz = lv), (fun _ => True), (fun uz => uz = (ptr ak 0)), (fun uz => uz = ((L.map Prod.fst).getD i D2).1), (fun _ => True), (fun _ => True), (fun uz => uz = (ptr ak 1)), (fun uz => uz = ((L.map Prod.snd).getD i D2).1), (fun _ => True), (fun _ => True), (fun _ => True), (fun _ => True)]) (G := fun w' => Bx w' H 72 [(ptr A 0), lv, (.slice none 0 0)] ∧ Bx w' ak 56 [((L.map Prod.fst).getD i D2).1, ((L.map Prod.snd).getD i D2).1]) [5, 8, 9, 12, 13, 14, 15] zy zy zy zy zy P (fun w1 w2 E h => by obtain ⟨h0, h1⟩ := h; exact ⟨h0.keep0 E, h1.keep0 E⟩) ⟨hxd, ai⟩ (ObRs9.cons ?_ (ObRs9.cons ?_ (ObRs9.cons ?_ (ObRs9.cons ?_ (ObRs9.cons ?_ (ObRs9.pass rfl (ObRs9.cons ?_ (ObRs9.cons ?_ (ObRs9.pass rfl (ObRs9.pass rfl (ObRs9.cons ?_ (ObRs9.cons ?_ (ObRs9.pass rfl (ObRs9.pass rfl (ObRs9.pass rfl (ObRs9.pass rfl (ObRs9.nil))))))))))))))))) (by simp only [putsL_defers]) ?_)
     ·
      intro eA aA wA hNA hGA hbsA hdpA
      have aG := (hbsA 4 rfl).trans (zL P rfl T)
      refine zG (zC hNA rfl aG) ?_
      exact obT_end rfl rfl
     ·
      intro eA aA wA hNA hGA hbsA hdpA
      have aG := (hbsA 4 rfl).trans (zL P rfl T)
      refine zG (zC hNA rfl aG) ?_
      exact obT_end rfl rfl
     ·
      intro eA aA wA hNA hGA hbsA hdpA
      have aG : Sl aA 45 (ptr H 0) := (hdpA 1 _ 45 zy rfl rfl).2 rfl
      refine op_nil (zC hNA rfl aG) ?_
      exact obT_end rfl rfl
     ·
      intro eA aA wA hNA hGA hbsA hdpA
      have aG : Sl aA 46 (ptr H 0) := (hdpA 2 _ 46 zy rfl rfl).2 rfl
      refine zM fld72_1 (zC hNA rfl aG) ?_
      exact obT_end rfl rfl
     ·
      intro eA aA wA hNA hGA hbsA hdpA
      have aG : Sl aA 47 (ptr H 1) := (hdpA 3 _ 47 zy rfl rfl).2 rfl
      obtain ⟨hxd, ai⟩ := hGA
      refine zN one69 (zC hNA rfl aG) (hxd.cell rfl) ?_
      exact obT_end rfl rfl
     ·
      intro eA aA wA hNA hGA hbsA hdpA
      have aG := (hbsA 6 rfl).trans (zU P rfl)
      refine zM fld56_0 (zC hNA rfl aG) ?_
      exact obT_end rfl rfl
     ·
      intro eA aA wA hNA hGA hbsA hdpA
      have aH : Sl aA 50 (ptr ak 0) := (hdpA 6 _ 50 zy rfl rfl).2 rfl
      obtain ⟨hxd, ai⟩ := hGA
      refine zN one54 (zC hNA rfl aH) (ai.cell rfl) ?_
      exact obT_end rfl rfl
     ·
      intro eA aA wA hNA hGA hbsA hdpA
      have aG := (hbsA 6 rfl).trans (zU P rfl)
      refine zM fld56_1 (zC hNA rfl aG) ?_
      exact obT_end rfl rfl
     ·
      intro eA aA wA hNA hGA hbsA hdpA
      have aG : Sl aA 54 (ptr ak 1) := (hdpA 10 _ 54 zy rfl rfl).2 rfl
      obtain ⟨hxd, ai⟩ := hGA
      refine zN one54 (zC hNA rfl aG) (ai.cell rfl) ?_
      exact obT_end rfl rfl
     refine kt_step (rs := [5, 9]) zy (more_mem ?_ ?_)
     ·
      intro aL aG _ aK aI aJ aH o_ ho_; obtain rfl := zE ho_
      obtain ⟨hb, _⟩ := yE hb aG
      have hlab := all9 hlab fun _ h => h.keep0 aG
      have hown := all9 hown fun _ h => h.keep0 aG
      have hS := hS.kz aG
      refine op_bslice (e := 46) (pv := []) (cs := []) trivial zy ?_
      intro aP aO aQ aR aN aM
      have aS : ¬ F0S aO := fun hf => by have := (hS.lt _ hf).2; omega
      obtain ⟨hb, _⟩ := yE hb aM
      have hr := (hr.keep0 aG).keep0 aM
      have hlab := all9 hlab fun _ h => h.keep0 aM
      have hown := all9 hown fun _ h => h.keep0 aM
      have g := (g.keep0 aG).keep0 aM
      have hxd := (hxd.keep0 aG).keep0 aM
      have hS := hS.kz aM
      have Q := (Q.keep0 aG).keep0 aM
      have hla := (hla.keep0 aG).keep0 aM
      have how := (how.keep0 aG).keep0 aM
      have ai := (ai.keep0 aG).keep0 aM
      refine kt_end rfl ⟨hxd, ai⟩ (kt_step (rs := [8, 9]) zy (more_mem ?_ ?_))
      ·
       intro aX aT _ aU aW aY aV o_ ho_; obtain rfl := zE ho_
       obtain ⟨hb, _⟩ := yE hb aT
       have hlab := all9 hlab fun _ h => h.keep0 aT
       have hown := all9 hown fun _ h => h.keep0 aT
       have hla := hla.keep0 aT
       have aN := aN.keep0 aT
       have aZ : Sl aU 49 (.slice (some ⟨aO, 0, none⟩) 0 0) := (zE ((aV 5 _ 49 zy rfl rfl).1 rfl)).symm
       have a0 : Sl aU 51 ((L.map Prod.fst).getD i D2).1 := (aV 7 _ 51 zy rfl rfl).2 rfl
       have a1 := (Own.ofBx (base := w.heap.size) (sz := 1) (n := 0) aN rfl zz zx)
       refine op_append slt54 (zC aW rfl aZ) a1 (zC aW rfl a0) (Src.ofRd Try.underlying54 zz hla (one_u16 _)) (by unfold maxLen; omega) zx hb.size ?_
       intro a3 a5 a2 a4 a6
       have := a4.size
       have hlab := all9 hlab fun _ h => h.keepO a1 a4 zx
       have hown := all9 hown fun _ h => h.keepO a1 a4 zx
       have hxd := (hxd.keep0 aT).keep a4 (by simp [Value.ownBlock]; try omega)
       have hS := (hS.kz aT).keepG (Gr.of a4) (Dj.one aS)
       have ai := (ai.keep0 aT).keep a4 (by simp [Value.ownBlock]; try omega)
       have hb := below_stepO hb a1 a4 hb.size zx
       have a2 : Own a5 w.heap.size 46 1 a3 (0 + ((L.map Prod.fst).getD i D2).2.length) ((((L.map Prod.fst).getD i D2).2).map u16v) := by simpa [u8v, u16v, sv] using a2
       refine kt_end rfl ⟨hxd, ai⟩ (kt_step (rs := [9]) zy (one_mem ?_))
       intro bc a7 _ a9 bb ba a8 o_ ho_; obtain rfl := zE ho_
       obtain ⟨hb, _⟩ := yE hb a7
       have hlab := all9 hlab fun _ h => h.keep0 a7
       have hown := all9 hown fun _ h => h.keep0 a7
       have hS := hS.kz a7
       have a2 := a2.keep0 a7
       refine op_bslice (e := 46) (pv := []) (cs := []) trivial zy ?_
       intro bh be bi bg bf bd
       have bj : ¬ F0S be := fun hf => by have := (hS.lt _ hf).2; omega
       have bk : a3.ownBlock ≠ some be := fun hh => by have := (a2.lt _ hh).2; omega
       obtain ⟨hb, _⟩ := yE hb bd
       have hlab := all9 hlab fun _ h => h.keep0 bd
       have hown := all9 hown fun _ h => h.keep0 bd
       have hxd := (hxd.keep0 a7).keep0 bd
       have hS := hS.kz bd
       have ai := (ai.keep0 a7).keep0 bd
       refine kt_end rfl ⟨hxd, ai⟩ (kt_step (rs := [12]) zy (one_mem ?_))
       intro bq bl _ bo bn bp bm o_ ho_; obtain rfl := zE ho_
       obtain ⟨hb, _⟩ := yE hb bl
       have hlab := all9 hlab fun _ h => h.keep0 bl
       have hown := all9 hown fun _ h => h.keep0 bl
       have how := ((((how.keep0 aT).keepO a1 a4 zx).keep0 a7).keep0 bd).keep0 bl
       have bf := bf.keep0 bl
       have br : Sl bo 53 (.slice (some ⟨be, 0, none⟩) 0 0) := (zE ((bm 9 _ 53 zy rfl rfl).1 rfl)).symm
       have bt : Sl bo 55 ((L.map Prod.snd).getD i D2).1 := (bm 11 _ 55 zy rfl rfl).2 rfl
       have bu := (Own.ofBx (base := w.heap.size) (sz := 1) (n := 0) bf rfl zz zx)
       refine op_append slt54 (zC bn rfl br) bu (zC bn rfl bt) (Src.ofRd Try.underlying54 zz how (one_u16 _)) (by unfold maxLen; omega) zx hb.size ?_
       intro bz bA bv bw bB
       have bC : DJ a3 (.slice (some ⟨be, 0, none⟩) 0 0) := fun k hk hg => by simp [Value.ownBlock] at hg; subst hg; exact bk hk
       have := bw.size
       have hlab := all9 hlab fun _ h => h.keepO bu bw zx
       have hown := all9 hown fun _ h => h.keepO bu bw zx
       have hxd := (hxd.keep0 bl).keep bw (by simp [Value.ownBlock]; try omega)
       have hS := (hS.kz bl).keepG (Gr.of bw) (Dj.one bj)
       have ai := (ai.keep0 bl).keep bw (by simp [Value.ownBlock]; try omega)
       have hb := below_stepO hb bu bw hb.size zx
       have bv : Own bA w.heap.size 46 1 bz (0 + ((L.map Prod.snd).getD i D2).2.length) ((((L.map Prod.snd).getD i D2).2).map u16v) := by simpa [u8v, u16v, sv] using bv
       refine kt_end rfl ⟨hxd, ai⟩ (kt_step (rs := [13]) zy (one_mem ?_))
       intro bH bD _ bG bF bI bE o_ ho_; obtain rfl := zE ho_
       obtain ⟨hb, _⟩ := yE hb bD
       have hlab := all9 hlab fun _ h => h.keep0 bD
       have hown := all9 hown fun _ h => h.keep0 bD
       have hxd := hxd.keep0 bD
       have hS := hS.kz bD
       have ai := ai.keep0 bD
       have a2 := (((a2.keep0 bd).keep0 bl).keepD bw bC).keep0 bD
       have bv := bv.keep0 bD
       have bJ : Sl bG 52 a3 := (zE ((bE 8 _ 52 zy rfl rfl).1 rfl)).symm
       have bK : Sl bG 56 bz := (zE ((bE 12 _ 56 zy rfl rfl).1 rfl)).symm
       refine zf (pv := [(0, a3), (1, bz)]) (v := (Value.agg #[a3, bz, (.slice none 0 0), (.bool false)])) ⟨rfl, (zC bF rfl bJ), ⟨rfl, (zC bF rfl bK), trivial⟩⟩ (by obtain ⟨_, _, _, rfl⟩ := a2.sl; obtain ⟨_, _, _, rfl⟩ := bv.sl; kernel_rfl) (kt_end rfl ⟨hxd, ai⟩ (kt_step (rs := [14]) zy (one_mem ?_)))
       intro bQ bL _ bM bN bP bO o_ ho_; obtain rfl := zE ho_
       obtain ⟨hb, _⟩ := yE hb bL
       have hlab := all9 hlab fun _ h => h.keep0 bL
       have hown := all9 hown fun _ h => h.keep0 bL
       have hS := hS.kz bL
       have a2 := a2.keep0 bL
       have bv := bv.keep0 bL
       have bR : Sl bM 57 (.agg #[a3, bz, (.slice none 0 0), (.bool false)]) := (zE ((bO 13 _ 57 zy rfl rfl).1 rfl)).symm
       refine op_bslice (e := 75) (pv := [(0, (.agg #[a3, bz, (.slice none 0 0), (.bool false)]))]) (cs := [a3, bz, (.slice none 0 0), (.bool false)]) ⟨rfl, (zC bN rfl bR), trivial⟩ (by obtain ⟨_, _, _, rfl⟩ := a2.sl; obtain ⟨_, _, _, rfl⟩ := bv.sl; kernel_rfl) ?_
       intro bX bU bV bW bT bS
       obtain ⟨hb, _⟩ := yE hb bS
       have hlab := all9 hlab fun _ h => h.keep0 bS
       have hown := all9 hown fun _ h => h.keep0 bS
       have hxd := (hxd.keep0 bL).keep0 bS
       have hS := hS.kz bS
       have ai := (ai.keep0 bL).keep0 bS
       refine kt_end rfl ⟨hxd, ai⟩ (kt_step (rs := [15]) zy (one_mem ?_))
       intro b2 bY _ b0 bZ b3 b1 o_ ho_; obtain rfl := zE ho_
       obtain ⟨hb, _⟩ := yE hb bY
       have hlab := all9 hlab fun _ h => h.keep0 bY
       have hown := all9 hown fun _ h => h.keep0 bY
       have Q := (((((((((Q.keep0 aT).keepT a1 a4 zz).keep0 a7).keep0 bd).keep0 bl).keepT bu bw zz).keep0 bD).keep0 bL).keep0 bS).keep0 bY
       have a2 := (a2.keep0 bS).keep0 bY
       have bv := (bv.keep0 bS).keep0 bY
       have bT := bT.keep0 bY
       have aU : Sl b0 48 lv := (b1 4 _ 48 zy rfl rfl).2 rfl
       have aV : Sl b0 58 (.slice (some ⟨bU, 0, none⟩) 1 1) := (zE ((b1 14 _ 58 zy rfl rfl).1 rfl)).symm
       have aW := Q
       refine op_append slt69 (zC bZ rfl aU) aW (zC bZ rfl aV) (Src.ofRd Try.underlying69 zz (RdC.ofBx (sz := 4) (n := 1) bT rfl zz) (by simp only [yA, yB, yC, yD, a2.one, bv.one]; try rfl)) (by unfold maxLen; omega) zx hb.size ?_
       intro aX aY aV aU aZ
       have := aU.size
       have hlab := all9 hlab fun _ h => h.keepO aW aU zx
       have hown := all9 hown fun _ h => h.keepO aW aU zx
       have hxd := (hxd.keep0 bY).keepO aW aU zz
       have hS := (hS.kz bY).keepG (Gr.of aU) aF.symm
       have ai := (ai.keep0 bY).keepO aW aU zz
       have hb := below_stepO hb aW aU hb.size zx
       have aV : Own aY w.heap.size 75 4 aX (i + 1) ((C.flatMap cellsD ++ [a3, bz, (.slice none 0 0), (.bool false)])) := by simpa [u8v, u16v, sv] using aV
       refine kt_end rfl ⟨hxd, ai⟩ ?_
       intro a9 aY a8 aZ a5 a0 a6
       have a5 := a5.trans ((by simp only [putsL_defers] : _ = _).trans R)
       obtain ⟨hb, _⟩ := yE hb aY
       have hlab := all9 hlab fun _ h => h.keep0 aY
       have hown := all9 hown fun _ h => h.keep0 aY
       have hxd := hxd.keep0 aY
       have aV := aV.keep0 aY
       have a9 := (a0 1 rfl).trans (zL P rfl S)
       have ba := (a0 4 rfl).trans (zL P rfl T)
       have bb := (a0 5 rfl).trans (zL P rfl U)
       have a0 : Sl a8 44 (ptr H 0) := (a6 0 _ 44 rfl rfl).2 rfl
       have bc : Sl a8 59 aX := (zE ((a6 15 _ 59 rfl rfl).1 rfl)).symm
       refine split_end (from_seq (tl := [_, _, _]) zz zy rfl (op_nil (zC aZ rfl a0) (zM fld72_1 (zA aZ rfl) ?_)))
       have hxd_old := hxd
       refine za (vs := [aX]) (cs' := [(ptr A 0), aX, (.slice none 0 0)]) size69 (zA aZ rfl) (zC aZ rfl bc) aV.cl rfl (by simp only [yA, yB, yC, yD, aV.one]; try rfl) hxd (zI rfl) rfl ?_
       intro a6 hxd a0
       have := a0.size
       have hr := ((((((((((((hr.keep0 aT).keepO a1 a4 zx).keep0 a7).keep0 bd).keep0 bl).keepO bu bw zx).keep0 bD).keep0 bL).keep0 bS).keep0 bY).keepO aW aU zx).keep0 aY).keep a0 sR
       have hlab := all9 hlab fun _ h => h.keep a0 sR
       have hown := all9 hown fun _ h => h.keep a0 sR
       have g := ((((((((((((g.keep0 aT).keep a4 (by simp [Value.ownBlock]; try omega)).keep0 a7).keep0 bd).keep0 bl).keep bw (by simp [Value.ownBlock]; try omega)).keep0 bD).keep0 bL).keep0 bS).keep0 bY).keepO aW aU zz).keep0 aY).keep a0 sB
       have hS := (hS.kz aY).keepG (Gr.of a0) (Dj.one aE)
       have hla := (((((((((((hla.keepO a1 a4 zx).keep0 a7).keep0 bd).keep0 bl).keepO bu bw zx).keep0 bD).keep0 bL).keep0 bS).keep0 bY).keepO aW aU zx).keep0 aY).keep a0 sR
       have a2 := ((a2.keepT aW aU zz).keep0 aY).keepX hxd_old a0 zz
       have bv := ((bv.keepT aW aU zz).keep0 aY).keepX hxd_old a0 zz
       have aV := aV.keepX hxd_old a0 zz
       have hb := below_step1 hb a0 hb.size zx
       refine zB (t _ _ ?_)
       exact ab _ _ _ aZ a5 ⟨aX, (C ++ [⟨a3, bz, Value.slice none 0 0⟩]), (fun x => F0S x ∨ Bl a3 x ∨ Bl bz x ∨ Bl (.slice none 0 0) x), (zL aZ rfl a9), (zL aZ rfl ba), (zL aZ rfl bb), (by simp; omega), (may_snoc hmay aw az), hb, zx, hr, hlab, hown, g, (aV.cast zx (by simp [List.flatMap_append, cellsD])), hxd, (by rw [ks_step zx]; exact hS.snoc (a2.cast (Nat.zero_add _) rfl) (bv.cast (Nat.zero_add _) rfl) (Own.nil _ _ _ _))⟩
      refine one_mem ?_
      intro aW aT _ aY aX aU aV o_ ho_; obtain rfl := zE ho_
      obtain ⟨hb, _⟩ := yE hb aT
      have hlab := all9 hlab fun _ h => h.keep0 aT
      have hown := all9 hown fun _ h => h.keep0 aT
      have hS := hS.kz aT
      refine op_bslice (e := 46) (pv := []) (cs := []) trivial zy ?_
      intro a2 a0 a3 a4 a1 aZ
      have a5 : ¬ F0S a0 := fun hf => by have := (hS.lt _ hf).2; omega
      obtain ⟨hb, _⟩ := yE hb aZ
      have hlab := all9 hlab fun _ h => h.keep0 aZ
      have hown := all9 hown fun _ h => h.keep0 aZ
      have hxd := (hxd.keep0 aT).keep0 aZ
      have hS := hS.kz aZ
      have ai := (ai.keep0 aT).keep0 aZ
      refine kt_end rfl ⟨hxd, ai⟩ (kt_step (rs := [8]) zy (one_mem ?_))
      intro ba a6 _ a8 a7 bb a9 o_ ho_; obtain rfl := zE ho_
      obtain ⟨hb, _⟩ := yE hb a6
      have hlab := all9 hlab fun _ h => h.keep0 a6
      have hown := all9 hown fun _ h => h.keep0 a6
      have hla := ((hla.keep0 aT).keep0 aZ).keep0 a6
      have aN := ((aN.keep0 aT).keep0 aZ).keep0 a6
      have bc : Sl a8 49 (.slice (some ⟨aO, 0, none⟩) 0 0) := (zE ((a9 5 _ 49 zy rfl rfl).1 rfl)).symm
      have bd : Sl a8 51 ((L.map Prod.fst).getD i D2).1 := (a9 7 _ 51 zy rfl rfl).2 rfl
      have be := (Own.ofBx (base := w.heap.size) (sz := 1) (n := 0) aN rfl zz zx)
      refine op_append slt54 (zC a7 rfl bc) be (zC a7 rfl bd) (Src.ofRd Try.underlying54 zz hla (one_u16 _)) (by unfold maxLen; omega) zx hb.size ?_
      intro bh bj bf bg bi
      have := bg.size
      have hlab := all9 hlab fun _ h => h.keepO be bg zx
      have hown := all9 hown fun _ h => h.keepO be bg zx
      have hxd := (hxd.keep0 a6).keep bg (by simp [Value.ownBlock]; try omega)
      have hS := (hS.kz a6).keepG (Gr.of bg) (Dj.one aS)
      have ai := (ai.keep0 a6).keep bg (by simp [Value.ownBlock]; try omega)
      have hb := below_stepO hb be bg hb.size zx
      have bf : Own bj w.heap.size 46 1 bh (0 + ((L.map Prod.fst).getD i D2).2.length) ((((L.map Prod.fst).getD i D2).2).map u16v) := by simpa [u8v, u16v, sv] using bf
      have bk : bh.ownBlock ≠ some a0 := ne_step (v := (Value.slice (some ⟨aO, 0, none⟩) 0 0)) (w1 := ba) ⟨bg, bi⟩ zx (by simp [Value.ownBlock]; try omega)
      refine kt_end rfl ⟨hxd, ai⟩ (kt_step (rs := [12]) zy (one_mem ?_))
      intro bp bl _ bo bm bq bn o_ ho_; obtain rfl := zE ho_
      obtain ⟨hb, _⟩ := yE hb bl
      have hlab := all9 hlab fun _ h => h.keep0 bl
      have hown := all9 hown fun _ h => h.keep0 bl
      have how := ((((how.keep0 aT).keep0 aZ).keep0 a6).keepO be bg zx).keep0 bl
      have a1 := ((a1.keep0 a6).keep bg (by simp [Value.ownBlock]; try omega)).keep0 bl
      have br : Sl bo 53 (.slice (some ⟨a0, 0, none⟩) 0 0) := (zE ((bn 9 _ 53 zy rfl rfl).1 rfl)).symm
      have bt : Sl bo 55 ((L.map Prod.snd).getD i D2).1 := (bn 11 _ 55 zy rfl rfl).2 rfl
      have bu := (Own.ofBx (base := w.heap.size) (sz := 1) (n := 0) a1 rfl zz zx)
      refine op_append slt54 (zC bm rfl br) bu (zC bm rfl bt) (Src.ofRd Try.underlying54 zz how (one_u16 _)) (by unfold maxLen; omega) zx hb.size ?_
      intro bz bA bv bw bB
      have bC : DJ bh (.slice (some ⟨a0, 0, none⟩) 0 0) := fun k hk hg => by simp [Value.ownBlock] at hg; subst hg; exact bk hk
      have := bw.size
      have hlab := all9 hlab fun _ h => h.keepO bu bw zx
      have hown := all9 hown fun _ h => h.keepO bu bw zx
      have hxd := (hxd.keep0 bl).keep bw (by simp [Value.ownBlock]; try omega)
      have hS := (hS.kz bl).keepG (Gr.of bw) (Dj.one a5)
      have ai := (ai.keep0 bl).keep bw (by simp [Value.ownBlock]; try omega)
      have hb := below_stepO hb bu bw hb.size zx
      have bv : Own bA w.heap.size 46 1 bz (0 + ((L.map Prod.snd).getD i D2).2.length) ((((L.map Prod.snd).getD i D2).2).map u16v) := by simpa [u8v, u16v, sv] using bv
      refine kt_end rfl ⟨hxd, ai⟩ (kt_step (rs := [13]) zy (one_mem ?_))
      intro bI bD _ bF bE bH bG o_ ho_; obtain rfl := zE ho_
      obtain ⟨hb, _⟩ := yE hb bD
      have hlab := all9 hlab fun _ h => h.keep0 bD
      have hown := all9 hown fun _ h => h.keep0 bD
      have hxd := hxd.keep0 bD
      have hS := hS.kz bD
      have ai := ai.keep0 bD
      have bf := ((bf.keep0 bl).keepD bw bC).keep0 bD
      have bv := bv.keep0 bD
      have bJ : Sl bF 52 bh := (zE ((bG 8 _ 52 zy rfl rfl).1 rfl)).symm
      have bK : Sl bF 56 bz := (zE ((bG 12 _ 56 zy rfl rfl).1 rfl)).symm
      refine zf (pv := [(0, bh), (1, bz)]) (v := (Value.agg #[bh, bz, (.slice none 0 0), (.bool false)])) ⟨rfl, (zC bE rfl bJ), ⟨rfl, (zC bE rfl bK), trivial⟩⟩ (by obtain ⟨_, _, _, rfl⟩ := bf.sl; obtain ⟨_, _, _, rfl⟩ := bv.sl; kernel_rfl) (kt_end rfl ⟨hxd, ai⟩ (kt_step (rs := [14]) zy (one_mem ?_)))
      intro bP bL _ bO bN bQ bM o_ ho_; obtain rfl := zE ho_
      obtain ⟨hb, _⟩ := yE hb bL
      have hlab := all9 hlab fun _ h => h.keep0 bL
      have hown := all9 hown fun _ h => h.keep0 bL
      have hS := hS.kz bL
      have bf := bf.keep0 bL
      have bv := bv.keep0 bL
      have bR : Sl bO 57 (.agg #[bh, bz, (.slice none 0 0), (.bool false)]) := (zE ((bM 13 _ 57 zy rfl rfl).1 rfl)).symm
      refine op_bslice (e := 75) (pv := [(0, (.agg #[bh, bz, (.slice none 0 0), (.bool false)]))]) (cs := [bh, bz, (.slice none 0 0), (.bool false)]) ⟨rfl, (zC bN rfl bR), trivial⟩ (by obtain ⟨_, _, _, rfl⟩ := bf.sl; obtain ⟨_, _, _, rfl⟩ := bv.sl; kernel_rfl) ?_
      intro bV bU bX bW bT bS
      obtain ⟨hb, _⟩ := yE hb bS
      have hlab := all9 hlab fun _ h => h.keep0 bS
      have hown := all9 hown fun _ h => h.keep0 bS
      have hxd := (hxd.keep0 bL).keep0 bS
      have hS := hS.kz bS
      have ai := (ai.keep0 bL).keep0 bS
      refine kt_end rfl ⟨hxd, ai⟩ (kt_step (rs := [15]) zy (one_mem ?_))
      intro b3 bY _ bZ b0 b2 b1 o_ ho_; obtain rfl := zE ho_
      obtain ⟨hb, _⟩ := yE hb bY
      have hlab := all9 hlab fun _ h => h.keep0 bY
      have hown := all9 hown fun _ h => h.keep0 bY
      have Q := (((((((((Q.keep0 aT).keep0 aZ).keep0 a6).keepT be bg zz).keep0 bl).keepT bu bw zz).keep0 bD).keep0 bL).keep0 bS).keep0 bY
      have bf := (bf.keep0 bS).keep0 bY
      have bv := (bv.keep0 bS).keep0 bY
      have bT := bT.keep0 bY
      have aG : Sl bZ 48 lv := (b1 4 _ 48 zy rfl rfl).2 rfl
      have aH : Sl bZ 58 (.slice (some ⟨bU, 0, none⟩) 1 1) := (zE ((b1 14 _ 58 zy rfl rfl).1 rfl)).symm
      have aI := Q
      refine op_append slt69 (zC b0 rfl aG) aI (zC b0 rfl aH) (Src.ofRd Try.underlying69 zz (RdC.ofBx (sz := 4) (n := 1) bT rfl zz) (by simp only [yA, yB, yC, yD, bf.one, bv.one]; try rfl)) (by unfold maxLen; omega) zx hb.size ?_
      intro aJ aK aH aG aL
      have := aG.size
      have hlab := all9 hlab fun _ h => h.keepO aI aG zx
      have hown := all9 hown fun _ h => h.keepO aI aG zx
      have hxd := (hxd.keep0 bY).keepO aI aG zz
      have hS := (hS.kz bY).keepG (Gr.of aG) aF.symm
      have ai := (ai.keep0 bY).keepO aI aG zz
      have hb := below_stepO hb aI aG hb.size zx
      have aH : Own aK w.heap.size 75 4 aJ (i + 1) ((C.flatMap cellsD ++ [bh, bz, (.slice none 0 0), (.bool false)])) := by simpa [u8v, u16v, sv] using aH
      refine kt_end rfl ⟨hxd, ai⟩ ?_
      intro aQ aK aP aL aN aM aO
      have aN := aN.trans ((by simp only [putsL_defers] : _ = _).trans R)
      obtain ⟨hb, _⟩ := yE hb aK
      have hlab := all9 hlab fun _ h => h.keep0 aK
      have hown := all9 hown fun _ h => h.keep0 aK
      have g := (((((((((((g.keep0 aT).keep0 aZ).keep0 a6).keep bg (by simp [Value.ownBlock]; try omega)).keep0 bl).keep bw (by simp [Value.ownBlock]; try omega)).keep0 bD).keep0 bL).keep0 bS).keep0 bY).keepO aI aG zz).keep0 aK
      have hxd := hxd.keep0 aK
      have aH := aH.keep0 aK
      have aQ := (aM 1 rfl).trans (zL P rfl S)
      have aR := (aM 4 rfl).trans (zL P rfl T)
      have aS := (aM 5 rfl).trans (zL P rfl U)
      have aM : Sl aP 44 (ptr H 0) := (aO 0 _ 44 rfl rfl).2 rfl
      have aU : Sl aP 59 aJ := (zE ((aO 15 _ 59 rfl rfl).1 rfl)).symm
      refine split_end (from_seq (tl := [_, _, _]) zz zy rfl (op_nil (zC aL rfl aM) (zM fld72_1 (zA aL rfl) ?_)))
      have hxd_old := hxd
      refine za (vs := [aJ]) (cs' := [(ptr A 0), aJ, (.slice none 0 0)]) size69 (zA aL rfl) (zC aL rfl aU) aH.cl rfl (by simp only [yA, yB, yC, yD, aH.one]; try rfl) hxd (zI rfl) rfl ?_
      intro aO hxd aM
      have := aM.size
      have hr := ((((((((((((hr.keep0 aT).keep0 aZ).keep0 a6).keepO be bg zx).keep0 bl).keepO bu bw zx).keep0 bD).keep0 bL).keep0 bS).keep0 bY).keepO aI aG zx).keep0 aK).keep aM sR
      have hlab := all9 hlab fun _ h => h.keep aM sR
      have hown := all9 hown fun _ h => h.keep aM sR
      have g := g.keep aM sB
      have hS := (hS.kz aK).keepG (Gr.of aM) (Dj.one aE)
      have hla := (((((((((hla.keepO be bg zx).keep0 bl).keepO bu bw zx).keep0 bD).keep0 bL).keep0 bS).keep0 bY).keepO aI aG zx).keep0 aK).keep aM sR
      have bf := ((bf.keepT aI aG zz).keep0 aK).keepX hxd_old aM zz
      have bv := ((bv.keepT aI aG zz).keep0 aK).keepX hxd_old aM zz
      have aH := aH.keepX hxd_old aM zz
      have hb := below_step1 hb aM hb.size zx
      refine zB (t _ _ ?_)
      exact ab _ _ _ aL aN ⟨aJ, (C ++ [⟨bh, bz, Value.slice none 0 0⟩]), (fun x => F0S x ∨ Bl bh x ∨ Bl bz x ∨ Bl (.slice none 0 0) x), (zL aL rfl aQ), (zL aL rfl aR), (zL aL rfl aS), (by simp; omega), (may_snoc hmay aw az), hb, zx, hr, hlab, hown, g, (aH.cast zx (by simp [List.flatMap_append, cellsD])), hxd, (by rw [ks_step zx]; exact hS.snoc (bf.cast (Nat.zero_add _) rfl) (bv.cast (Nat.zero_add _) rfl) (Own.nil _ _ _ _))⟩
     refine one_mem ?_
     intro aL aG _ aH aI aK aJ o_ ho_; obtain rfl := zE ho_
     obtain ⟨hb, _⟩ := yE hb aG
     have hlab := all9 hlab fun _ h => h.keep0 aG
     have hown := all9 hown fun _ h => h.keep0 aG
     have hS := hS.kz aG
     refine op_bslice (e := 46) (pv := []) (cs := []) trivial zy ?_
     intro aQ aN aR aP aO aM
     have aS : ¬ F0S aN := fun hf => by have := (hS.lt _ hf).2; omega
     obtain ⟨hb, _⟩ := yE hb aM
     have hlab := all9 hlab fun _ h => h.keep0 aM
     have hown := all9 hown fun _ h => h.keep0 aM
     have hxd := (hxd.keep0 aG).keep0 aM
     have hS := hS.kz aM
     have ai := (ai.keep0 aG).keep0 aM
     refine kt_end rfl ⟨hxd, ai⟩ (kt_step (rs := [5]) zy (one_mem ?_))
     intro aU aT _ aW aX aV aY o_ ho_; obtain rfl := zE ho_
     obtain ⟨hb, _⟩ := yE hb aT
     have hlab := all9 hlab fun _ h => h.keep0 aT
     have hown := all9 hown fun _ h => h.keep0 aT
     have hS := hS.kz aT
     refine op_bslice (e := 46) (pv := []) (cs := []) trivial zy ?_
     intro a2 a0 a3 a4 a1 aZ
     have a5 : ¬ F0S a0 := fun hf => by have := (hS.lt _ hf).2; omega
     obtain ⟨hb, _⟩ := yE hb aZ
     have hlab := all9 hlab fun _ h => h.keep0 aZ
     have hown := all9 hown fun _ h => h.keep0 aZ
     have hxd := (hxd.keep0 aT).keep0 aZ
     have hS := hS.kz aZ
     have ai := (ai.keep0 aT).keep0 aZ
     refine kt_end rfl ⟨hxd, ai⟩ (kt_step (rs := [8]) zy (one_mem ?_))
     intro ba a6 _ a8 a9 bb a7 o_ ho_; obtain rfl := zE ho_
     obtain ⟨hb, _⟩ := yE hb a6
     have hlab := all9 hlab fun _ h => h.keep0 a6
     have hown := all9 hown fun _ h => h.keep0 a6
     have hla := ((((hla.keep0 aG).keep0 aM).keep0 aT).keep0 aZ).keep0 a6
     have a1 := a1.keep0 a6
     have bc : Sl a8 49 (.slice (some ⟨a0, 0, none⟩) 0 0) := (zE ((a7 5 _ 49 zy rfl rfl).1 rfl)).symm
     have bd : Sl a8 51 ((L.map Prod.fst).getD i D2).1 := (a7 7 _ 51 zy rfl rfl).2 rfl
     have be := (Own.ofBx (base := w.heap.size) (sz := 1) (n := 0) a1 rfl zz zx)
     refine op_append slt54 (zC a9 rfl bc) be (zC a9 rfl bd) (Src.ofRd Try.underlying54 zz hla (one_u16 _)) (by unfold maxLen; omega) zx hb.size ?_
     intro bh bi bf bg bj
     have := bg.size
     have hlab := all9 hlab fun _ h => h.keepO be bg zx
     have hown := all9 hown fun _ h => h.keepO be bg zx
     have hxd := (hxd.keep0 a6).keep bg (by simp [Value.ownBlock]; try omega)
     have hS := (hS.kz a6).keepG (Gr.of bg) (Dj.one a5)
     have ai := (ai.keep0 a6).keep bg (by simp [Value.ownBlock]; try omega)
     have hb := below_stepO hb be bg hb.size zx
     have bf : Own bi w.heap.size 46 1 bh (0 + ((L.map Prod.fst).getD i D2).2.length) ((((L.map Prod.fst).getD i D2).2).map u16v) := by simpa [u8v, u16v, sv] using bf
     have bk : bh.ownBlock ≠ some aN := ne_step (v := (Value.slice (some ⟨a0, 0, none⟩) 0 0)) (w1 := ba) ⟨bg, bj⟩ zx (by simp [Value.ownBlock]; try omega)
     refine kt_end rfl ⟨hxd, ai⟩ (kt_step (rs := [12]) zy (one_mem ?_))
     intro bq bl _ bo bm bp bn o_ ho_; obtain rfl := zE ho_
     obtain ⟨hb, _⟩ := yE hb bl
     have hlab := all9 hlab fun _ h => h.keep0 bl
     have hown := all9 hown fun _ h => h.keep0 bl
     have how := ((((((how.keep0 aG).keep0 aM).keep0 aT).keep0 aZ).keep0 a6).keepO be bg zx).keep0 bl
     have aO := ((((aO.keep0 aT).keep0 aZ).keep0 a6).keep bg (by simp [Value.ownBlock]; try omega)).keep0 bl
     have br : Sl bo 53 (.slice (some ⟨aN, 0, none⟩) 0 0) := (zE ((bn 9 _ 53 zy rfl rfl).1 rfl)).symm
     have bt : Sl bo 55 ((L.map Prod.snd).getD i D2).1 := (bn 11 _ 55 zy rfl rfl).2 rfl
     have bu := (Own.ofBx (base := w.heap.size) (sz := 1) (n := 0) aO rfl zz zx)
     refine op_append slt54 (zC bm rfl br) bu (zC bm rfl bt) (Src.ofRd Try.underlying54 zz how (one_u16 _)) (by unfold maxLen; omega) zx hb.size ?_
     intro bz bA bv bw bB
     have bC : DJ bh (.slice (some ⟨aN, 0, none⟩) 0 0) := fun k hk hg => by simp [Value.ownBlock] at hg; subst hg; exact bk hk
     have := bw.size
     have hlab := all9 hlab fun _ h => h.keepO bu bw zx
     have hown := all9 hown fun _ h => h.keepO bu bw zx
     have hxd := (hxd.keep0 bl).keep bw (by simp [Value.ownBlock]; try omega)
     have hS := (hS.kz bl).keepG (Gr.of bw) (Dj.one aS)
     have ai := (ai.keep0 bl).keep bw (by simp [Value.ownBlock]; try omega)
     have hb := below_stepO hb bu bw hb.size zx
     have bv : Own bA w.heap.size 46 1 bz (0 + ((L.map Prod.snd).getD i D2).2.length) ((((L.map Prod.snd).getD i D2).2).map u16v) := by simpa [u8v, u16v, sv] using bv
     refine kt_end rfl ⟨hxd, ai⟩ (kt_step (rs := [13]) zy (one_mem ?_))
     intro bI bD _ bG bF bH bE o_ ho_; obtain rfl := zE ho_
     obtain ⟨hb, _⟩ := yE hb bD
     have hlab := all9 hlab fun _ h => h.keep0 bD
     have hown := all9 hown fun _ h => h.keep0 bD
     have hxd := hxd.keep0 bD
     have hS := hS.kz bD
     have ai := ai.keep0 bD
     have bf := ((bf.keep0 bl).keepD bw bC).keep0 bD
     have bv := bv.keep0 bD
     have bJ : Sl bG 52 bh := (zE ((bE 8 _ 52 zy rfl rfl).1 rfl)).symm
     have bK : Sl bG 56 bz := (zE ((bE 12 _ 56 zy rfl rfl).1 rfl)).symm
     refine zf (pv := [(0, bh), (1, bz)]) (v := (Value.agg #[bh, bz, (.slice none 0 0), (.bool false)])) ⟨rfl, (zC bF rfl bJ), ⟨rfl, (zC bF rfl bK), trivial⟩⟩ (by obtain ⟨_, _, _, rfl⟩ := bf.sl; obtain ⟨_, _, _, rfl⟩ := bv.sl; kernel_rfl) (kt_end rfl ⟨hxd, ai⟩ (kt_step (rs := [14]) zy (one_mem ?_)))
     intro bP bL _ bO bN bQ bM o_ ho_; obtain rfl := zE ho_
     obtain ⟨hb, _⟩ := yE hb bL
     have hlab := all9 hlab fun _ h => h.keep0 bL
     have hown := all9 hown fun _ h => h.keep0 bL
     have hS := hS.kz bL
     have bf := bf.keep0 bL
     have bv := bv.keep0 bL
     have bR : Sl bO 57 (.agg #[bh, bz, (.slice none 0 0), (.bool false)]) := (zE ((bM 13 _ 57 zy rfl rfl).1 rfl)).symm
     refine op_bslice (e := 75) (pv := [(0, (.agg #[bh, bz, (.slice none 0 0), (.bool false)]))]) (cs := [bh, bz, (.slice none 0 0), (.bool false)]) ⟨rfl, (zC bN rfl bR), trivial⟩ (by obtain ⟨_, _, _, rfl⟩ := bf.sl; obtain ⟨_, _, _, rfl⟩ := bv.sl; kernel_rfl) ?_
     intro bW bU bV bX bT bS
     obtain ⟨hb, _⟩ := yE hb bS
     have hlab := all9 hlab fun _ h => h.keep0 bS
     have hown := all9 hown fun _ h => h.keep0 bS
     have hxd := (hxd.keep0 bL).keep0 bS
     have hS := hS.kz bS
     have ai := (ai.keep0 bL).keep0 bS
     refine kt_end rfl ⟨hxd, ai⟩ (kt_step (rs := [15]) zy (one_mem ?_))
     intro b3 bY _ b1 bZ b2 b0 o_ ho_; obtain rfl := zE ho_
     obtain ⟨hb, _⟩ := yE hb bY
     have hlab := all9 hlab fun _ h => h.keep0 bY
     have hown := all9 hown fun _ h => h.keep0 bY
     have Q := (((((((((((Q.keep0 aG).keep0 aM).keep0 aT).keep0 aZ).keep0 a6).keepT be bg zz).keep0 bl).keepT bu bw zz).keep0 bD).keep0 bL).keep0 bS).keep0 bY
     have bf := (bf.keep0 bS).keep0 bY
     have bv := (bv.keep0 bS).keep0 bY
     have bT := bT.keep0 bY
     have ad : Sl b1 48 lv := (b0 4 _ 48 zy rfl rfl).2 rfl
     have ae : Sl b1 58 (.slice (some ⟨bU, 0, none⟩) 1 1) := (zE ((b0 14 _ 58 zy rfl rfl).1 rfl)).symm
     have af := Q
     refine op_append slt69 (zC bZ rfl ad) af (zC bZ rfl ae) (Src.ofRd Try.underlying69 zz (RdC.ofBx (sz := 4) (n := 1) bT rfl zz) (by simp only [yA, yB, yC, yD, bf.one, bv.one]; try rfl)) (by unfold maxLen; omega) zx hb.size ?_
     intro ag ah ae ad aj
     have := ad.size
     have hlab := all9 hlab fun _ h => h.keepO af ad zx
     have hown := all9 hown fun _ h => h.keepO af ad zx
     have hxd := (hxd.keep0 bY).keepO af ad zz
     have hS := (hS.kz bY).keepG (Gr.of ad) aF.symm
     have ai := (ai.keep0 bY).keepO af ad zz
     have hb := below_stepO hb af ad hb.size zx
     have ae : Own ah w.heap.size 75 4 ag (i + 1) ((C.flatMap cellsD ++ [bh, bz, (.slice none 0 0), (.bool false)])) := by simpa [u8v, u16v, sv] using ae
     refine kt_end rfl ⟨hxd, ai⟩ ?_
     intro an ah am ai ak aj al
     have ak := ak.trans ((by simp only [putsL_defers] : _ = _).trans R)
     obtain ⟨hb, _⟩ := yE hb ah
     have hr := (((((((((((((hr.keep0 aG).keep0 aM).keep0 aT).keep0 aZ).keep0 a6).keepO be bg zx).keep0 bl).keepO bu bw zx).keep0 bD).keep0 bL).keep0 bS).keep0 bY).keepO af ad zx).keep0 ah
     have hlab := all9 hlab fun _ h => h.keep0 ah
     have hown := all9 hown fun _ h => h.keep0 ah
     have g := (((((((((((((g.keep0 aG).keep0 aM).keep0 aT).keep0 aZ).keep0 a6).keep bg (by simp [Value.ownBlock]; try omega)).keep0 bl).keep bw (by simp [Value.ownBlock]; try omega)).keep0 bD).keep0 bL).keep0 bS).keep0 bY).keepO af ad zz).keep0 ah
     have hxd := hxd.keep0 ah
     have ae := ae.keep0 ah
     have an := (aj 1 rfl).trans (zL P rfl S)
     have ao := (aj 4 rfl).trans (zL P rfl T)
     have ap := (aj 5 rfl).trans (zL P rfl U)
     have aj : Sl am 44 (ptr H 0) := (al 0 _ 44 rfl rfl).2 rfl
     have aq : Sl am 59 ag := (zE ((al 15 _ 59 rfl rfl).1 rfl)).symm
     refine split_end (from_seq (tl := [_, _, _]) zz zy rfl (op_nil (zC ai rfl aj) (zM fld72_1 (zA ai rfl) ?_)))
     have hxd_old := hxd
     refine za (vs := [ag]) (cs' := [(ptr A 0), ag, (.slice none 0 0)]) size69 (zA ai rfl) (zC ai rfl aq) ae.cl rfl (by simp only [yA, yB, yC, yD, ae.one]; try rfl) hxd (zI rfl) rfl ?_
     intro al hxd aj
     have := aj.size
     have hr := hr.keep aj sR
     have hlab := all9 hlab fun _ h => h.keep aj sR
     have hown := all9 hown fun _ h => h.keep aj sR
     have g := g.keep aj sB
     have hS := (hS.kz ah).keepG (Gr.of aj) (Dj.one aE)
     have hla := (((((((((hla.keepO be bg zx).keep0 bl).keepO bu bw zx).keep0 bD).keep0 bL).keep0 bS).keep0 bY).keepO af ad zx).keep0 ah).keep aj sR
     have bf := ((bf.keepT af ad zz).keep0 ah).keepX hxd_old aj zz
     have bv := ((bv.keepT af ad zz).keep0 ah).keepX hxd_old aj zz
     have ae := ae.keepX hxd_old aj zz
     have hb := below_step1 hb aj hb.size zx
     refine zB (t _ _ ?_)
     exact ab _ _ _ ai ak ⟨ag, (C ++ [⟨bh, bz, Value.slice none 0 0⟩]), (fun x => F0S x ∨ Bl bh x ∨ Bl bz x ∨ Bl (.slice none 0 0) x), (zL ai rfl an), (zL ai rfl ao), (zL ai rfl ap), (by simp; omega), (may_snoc hmay aw az), hb, zx, hr, hlab, hown, g, (ae.cast zx (by simp [List.flatMap_append, cellsD])), hxd, (by rw [ks_step zx]; exact hS.snoc (bf.cast (Nat.zero_add _) rfl) (bv.cast (Nat.zero_add _) rfl) (Own.nil _ _ _ _))⟩
    rw [az]
    refine zS (j := 4) (dj := 38) (b := false) rfl rfl rfl (zA P rfl) ?_
    refine op_not (zA P rfl) (zd (zA P rfl) (zA P rfl) (zB (J3 _ _ (wp_cond_true (zA P rfl) (zF fun _ J3 => zH (zD rfl (zD rfl (zB (J3 _ _ (wp_ret (zO (zb (zO (zO (zb (zO ( (ret2 rfl R (zA P rfl) (zA P rfl) ⟨_, rfl, ?_⟩))))))))))))))))))
    exact ⟨hb, .inl ⟨cfg_f2 (not_may (i := i) zx (by first | exact .inl aw | exact .inr az)), rfl⟩⟩
   rw [aw]
   refine op_not (zA P rfl) (zG (zA P rfl) (zR (j := 4) (dj := 38) (b := false) rfl rfl rfl (zA P rfl) rfl rfl (zR (j := 4) (dj := 38) (b := false) rfl rfl rfl (zA P rfl) rfl rfl (zR (j := 4) (dj := 38) (b := false) rfl rfl rfl (zA P rfl) rfl rfl ?_))))
   refine zR (j := 4) (dj := 38) (b := false) rfl rfl rfl (zA P rfl) rfl rfl (zc (zA P rfl) rfl (zB (J3 _ _ (wp_cond_true (zA P rfl) (zF fun _ J3 => zH (zD rfl (zD rfl (zB (J3 _ _ (wp_ret (zO (zb (zO (zO (zb (zO ( (ret2 rfl R (zA P rfl) (zA P rfl) ⟨_, rfl, ?_⟩))))))))))))))))))
   exact ⟨hb, .inl ⟨cfg_f2 (not_may (i := i) zx (by first | exact .inl aw | exact .inr az)), rfl⟩⟩
  rintro an am ab ae ⟨aa, C2, ac, al, ai, ah, ak, aj, hb, ao, hr, hlab, hown, g, ag, ad, af⟩
  have := hb.size
  refine zH (zG (zC ab rfl ah) (op_add (zA ab rfl) rfl (add64 zx) (zD (zA ab rfl) (zB ?_))))
  -- round 10F 15F 26T
  exact zg _ ab ae ⟨(i + 1), aa, C2, ac, rfl, (zL ab rfl al), (zL ab rfl ai), (zU ab rfl).trans (congrArg (Value.int .i64) zx), zx, ak, aj, hb, zx, hr, hlab, hown, g, ad, af, ag⟩ zx
 refine zB (Y _ _ (wp_cond_false (zA P rfl) (wp_exit (then_exit (then_exit (blk_hit (f _ _ (zF fun _ f => zF fun _ t => zH (zM fld59_1 (zC P rfl S) (zN one3 (zA P rfl) (g.cell rfl) (op_lss (zA P rfl) rfl (fun aa => ?_) (fun aa => ?_))))))))))))
 ·
  refine zG (zA P rfl) (zR (j := 3) (dj := 65) (b := false) rfl rfl rfl (zA P rfl) rfl rfl (zR (j := 3) (dj := 65) (b := false) rfl rfl rfl (zA P rfl) rfl rfl ?_))
  refine zR (j := 3) (dj := 65) (b := false) rfl rfl rfl (zA P rfl) rfl rfl (zc (zA P rfl) rfl (zB (t _ _ (wp_cond_true (zA P rfl) (zF fun _ t => zH (zD rfl (zD rfl (zB (t _ _ (wp_ret (zO ( (ret2 rfl R (zA P rfl) (zA P rfl) ⟨_, rfl, ?_⟩)))))))))))))
  exact ⟨hb, .inl ⟨cfg_f1 zx, rfl⟩⟩
 refine zG (zA P rfl) (zS (j := 3) (dj := 65) (b := false) rfl rfl rfl (zA P rfl) (zM fld59_1 (zC P rfl S) (zS (j := 3) (dj := 65) (b := false) rfl rfl rfl (zA P rfl) (zN one3 (zA P rfl) (g.cell rfl) (zS (j := 3) (dj := 65) (b := false) rfl rfl rfl (zA P rfl) (op_gtr (zA P rfl) rfl (fun ab => ?_) (fun ab => ?_)))))))
 ·
  refine zd (zA P rfl) (zA P rfl) (zB (t _ _ (wp_cond_true (zA P rfl) (zF fun _ t => zH (zD rfl (zD rfl (zB (t _ _ (wp_ret (zO ( (ret2 rfl R (zA P rfl) (zA P rfl) ⟨_, rfl, ?_⟩))))))))))))
  exact ⟨hb, .inl ⟨cfg_f1 zx, rfl⟩⟩
 refine zd (zA P rfl) (zA P rfl) (zB (t _ _ (wp_cond_false (zA P rfl) (wp_skip (f _ _ (zF fun _ f => zH (zG (zC P rfl T) (zD (zA P rfl) (zD rfl (zB (f _ _ (wp_ret (ret2 rfl R (zA P rfl) (zA P rfl) ⟨_, rfl, ?_⟩)))))))))))))
 obtain rfl : i = L.length := by omega
 rw [List.take_length] at hS
 exact ⟨hb, .inr ⟨cfg_t zx zx zx zx (all_may hmay (Nat.le_refl _)), H, _, rfl, hS.new zx hxd (Q.cast (by simp) rfl)⟩⟩


theorem newDBT {L : List CSn} {q : Int} {vL : Value} {w : World} (hok : cfgOk L q = true) (hL : L.length ≤ 9223372036854775807) (hll : ∀ x ∈ L, x.1.2.length ≤ 9223372036854775807 ∧ x.2.2.length ≤ 9223372036854775807) (hr : RdC w 0 w.heap.size 2 vL L.length (L.flatMap cells2)) (hlab : ∀ x9 ∈ (L.map Prod.fst), RdC w 0 w.heap.size 1 x9.1 x9.2.length (x9.2.map u16v)) (hown : ∀ x9 ∈ (L.map Prod.snd), RdC w 0 w.heap.size 1 x9.1 x9.2.length (x9.2.map u16v)) : Ret Try.prog 36 #[.agg #[vL, .int .i64 q]] w (fun v' w' => Below w.heap.size w w' ∧ ∃ (d : Nat) (F : Nat → Prop), v' = .tuple #[ptr d 0, .int .i64 0] ∧ DbR w' w.heap.size d (L.map ksOf) [] F) :=
  (newDB_ret L q vL w hL hll hr hlab hown).mono fun v' w' h => ⟨h.1, h.2.elim (fun q => absurd (hok.symm.trans q.1) zz) (fun q => q.2)⟩
theorem newDBF {L : List CSn} {q : Int} {vL : Value} {w : World} (hok : cfgOk L q = false) (hL : L.length ≤ 9223372036854775807) (hll : ∀ x ∈ L, x.1.2.length ≤ 9223372036854775807 ∧ x.2.2.length ≤ 9223372036854775807) (hr : RdC w 0 w.heap.size 2 vL L.length (L.flatMap cells2)) (hlab : ∀ x9 ∈ (L.map Prod.fst), RdC w 0 w.heap.size 1 x9.1 x9.2.length (x9.2.map u16v)) (hown : ∀ x9 ∈ (L.map Prod.snd), RdC w 0 w.heap.size 1 x9.1 x9.2.length (x9.2.map u16v)) : Ret Try.prog 36 #[.agg #[vL, .int .i64 q]] w (fun v' w' => Below w.heap.size w w' ∧ v' = .tuple #[.pointer none, .int .i64 1]) :=
  (newDB_ret L q vL w hL hll hr hlab hown).mono fun v' w' h => ⟨h.1, h.2.elim (fun q => q.2) (fun q => absurd (hok.symm.trans q.1) zz)⟩
theorem at_nat {S : List KS} {i : Nat} (h : i < S.length) : atS S (i : Int) = S.getD i default ∧ inS S (i : Int) = true := by
  have hi : inS S (i : Int) = true := by unfold inS; simp; omega
  exact ⟨by unfold atS; rw [if_pos hi, Int.toNat_natCast], hi⟩
end Go.Proofs.Ytmhdbphpmgjpcaa

namespace Go.Gx
abbrev LU := List UInt16
abbrev LbU := Value × LU
def DU : LbU := (.slice none 0 0, [])
def AtIs (X : List LU) (A : List Nat) (S : List LU) : Prop := A.length = X.length ∧ S.length = X.length ∧ ∀ k, S.getD k [] = (X.getD k []).drop (A.getD k 0)
theorem AtIs.start (X : List LU) : AtIs X (List.replicate X.length 0) X := ⟨by simp, rfl, fun k => by
  have : (List.replicate X.length 0).getD k 0 = 0 := by simp only [List.getD_eq_getElem?_getD, List.getElem?_replicate]; split <;> rfl
  rw [this]; rfl⟩
theorem getD_set_ne {α : Type} {l : List α} {i j : Nat} {x d : α} (h : i ≠ j) : (l.set i x).getD j d = l.getD j d := by simp [List.getD_eq_getElem?_getD, List.getElem?_set_ne h]
theorem getD_set_eq {α : Type} {l : List α} {i : Nat} {x d : α} (h : i < l.length) : (l.set i x).getD i d = x := by simp [List.getD_eq_getElem?_getD, h]
/-! sums of lengths -/
def AtLe (M : List LbU) (A : List Nat) : Prop := ∀ k, A.getD k 0 ≤ (M.getD k DU).2.length
theorem AtLe.start (M : List LbU) (n : Nat) : AtLe M (List.replicate n 0) := fun k => by
  have : (List.replicate n 0).getD k 0 = 0 := by simp only [List.getD_eq_getElem?_getD, List.getElem?_replicate]; split <;> rfl
  rw [this]; exact Nat.zero_le _
theorem AtLe.step {M : List LbU} {A : List Nat} (h : AtLe M A) {k : Nat} (hn : A.getD k 0 < (M.getD k DU).2.length) : AtLe M (A.set k (A.getD k 0 + 1)) := fun j => by
  by_cases hj : k = j
  · subst hj
    by_cases hk : k < A.length
    · rw [getD_set_eq hk]; omega
    · have := h k
      rw [List.set_eq_of_length_le (by omega)]; exact this
  · rw [getD_set_ne hj]; exact h j
/-! lists of numbers -/
def nv (n : Nat) : Value := .int .i64 (n : Int)
end Go.Gx

namespace Go.Proofs.Ytmhdbphpmgjpcaa
open Go.Gx
theorem labB_inj {x y : List UInt16} (hx : mayL x = true) (hy : mayL y = true) (h : labB x = labB y) : x = y := by
  have h1 := takeL_put hx []
  have h2 := takeL_put hy []
  rw [h, h2] at h1
  exact (congrArg Prod.fst h1).symm
def StampsOk (M : List (List UInt8 × Int)) (A : List (List UInt16)) : Prop := (M.map Prod.fst).Nodup ∧ ∀ x, mayL x = true → (mget M (labB x)).getD 0 = ((A.count x : Nat) : Int)
theorem StampsOk.start : StampsOk [] [] := ⟨by simp, fun x _ => rfl⟩
theorem StampsOk.step {M : List (List UInt8 × Int)} {A : List (List UInt16)} {x : List UInt16} (h : StampsOk M A) (hx : mayL x = true) (hA : A.length ≤ 1000) :
    IntKind.u64.wrap ((mget M (labB x)).getD 0 + 1) = ((A.count x + 1 : Nat) : Int) ∧ StampsOk (mput M (labB x) (IntKind.u64.wrap ((mget M (labB x)).getD 0 + 1))) (A ++ [x]) := by
  have hc : A.count x ≤ A.length := List.count_le_length
  have hw : IntKind.u64.wrap ((mget M (labB x)).getD 0 + 1) = ((A.count x + 1 : Nat) : Int) := by
    rw [h.2 x hx]; simp only [IntKind.wrap, IntKind.bits, IntKind.signed]; simp; omega
  refine ⟨hw, nodup_mput h.1, fun y hy => ?_⟩
  rw [mget_mput h.1, hw]
  by_cases hxy : labB y = labB x
  · obtain rfl := labB_inj hy hx hxy
    rw [if_pos rfl, List.count_append]; simp
  · rw [if_neg hxy, h.2 y hy, List.count_append]
    have : ¬ x = y := fun e => hxy (by rw [e])
    simp [List.count_cons, this]
end Go.Proofs.Ytmhdbphpmgjpcaa

namespace Go.Gx
section
variable {w w' : World} {base d n i : Nat} {S : List KS} {C : List DC} {T : List DT} {M : List (List UInt16 × Int)} {F G F0S FT : Nat → Prop} {v sv9 tv mp : Value}
theorem DbR.sess (h : DbR w base d S M F) (hb : base ≤ w.heap.size) : ∃ (mp sv9 tv : Value) (C : List DC), C.length = S.length ∧ Bx w d 72 [mp, sv9, tv] ∧ Own w base 75 4 sv9 S.length (C.flatMap cellsD) ∧ F d ∧ (∀ x, Bl sv9 x → F x) ∧ (∀ i, i < S.length → DSessR w base (S.getD i default) (C.getD i default)) ∧
    (∀ i, i < S.length → ∀ x, PartD (C.getD i default) x → F x) ∧
    ∀ w' i (s' : KS) (c' : DC), i < S.length → w.grownBy w' sv9.ownBlock → Own w' base 75 4 sv9 S.length ((C.set i c').flatMap cellsD) → DSessR w' base s' c' → (∀ x, PartD c' x → F x ∨ w.heap.size ≤ x) →
      Gr w w' F ∧ ∃ F2, DbR w' base d (S.set i s') M F2 ∧ NewF w.heap.size F F2 := by
  obtain ⟨mp, sv9, tv, C, T, F0S, FT, hd, hM, hx, O, hS, OT, hT, hF⟩ := h
  have hFS : ∀ i, i < S.length → ∀ x, PartD (C.getD i default) x → F0S x := fun i hi x hx => (hS.2.2 x).2 ⟨i, hi, hx⟩
  refine ⟨mp, sv9, tv, C, hS.1, hx, O, (hF d).2 (.inl rfl), fun x hx => (hF x).2 (.inr (.inl hx)), hS.2.1, fun i hi x hx => (hF x).2 (.inr (.inr (.inr (.inl (hFS i hi x hx))))), fun w' i s' c' hi E O' hs' hp => ?_⟩
  have E2 := Gr.of E
  have hn1 : ∀ {v2 : Value} {e sz n2 : Nat} {cs : List Value}, Own w base e sz v2 n2 cs → e ≠ 75 → Own w' base e sz v2 n2 cs := fun O2 he => O2.keepG E2 fun x hx hh => O2.notOwn O he x hx hh
  refine ⟨E2.mono fun x _ hx => (hF x).2 (.inr (.inl hx)), fun x => x = d ∨ Bl sv9 x ∨ Bl tv x ∨ (∃ j, j < (S.set i s').length ∧ PartD ((C.set i c').getD j default) x) ∨ FT x, ⟨mp, sv9, tv, C.set i c', T, _, FT, hd, hM, hx.keepG E2 (fun hh => O.neB hx (by decide) hh), by rw [List.length_set]; exact O', ⟨by simp [hS.1], fun j hj => ?_, fun x => Iff.rfl⟩, hn1 OT (by decide), ⟨fun j hj => hn1 (hT.1 j hj) (by decide), hT.2⟩, fun x => Iff.rfl⟩, fun x hx => ?_⟩
  · rw [List.length_set] at hj
    rw [getD_set hi, getD_set (by rw [hS.1]; exact hi)]
    by_cases e : j = i
    · rw [if_pos e, if_pos e]; exact hs'
    · rw [if_neg e, if_neg e]
      obtain ⟨a1, a2, a3⟩ := hS.2.1 j hj
      exact ⟨hn1 a1 (by decide), hn1 a2 (by decide), hn1 a3 (by decide)⟩
  · rcases hx with hx | hx | hx | ⟨j, hj, hx⟩ | hx
    · exact .inl ((hF x).2 (.inl hx))
    · exact .inl ((hF x).2 (.inr (.inl hx)))
    · exact .inl ((hF x).2 (.inr (.inr (.inl hx))))
    · rw [List.length_set] at hj
      rw [getD_set (by rw [hS.1]; exact hi)] at hx
      by_cases e : j = i
      · rw [if_pos e] at hx; exact hp x hx
      · rw [if_neg e] at hx; exact .inl ((hF x).2 (.inr (.inr (.inr (.inl (hFS j hj x hx))))))
    · exact .inl ((hF x).2 (.inr (.inr (.inr (.inr hx)))))
theorem DbR.stamps (h : DbR w base d S M F) (hb : base ≤ w.heap.size) : ∃ (mp sv9 tv : Value) (T : List DT), T.map tOf = M ∧ Bx w d 72 [mp, sv9, tv] ∧ Own w base 152 2 tv T.length (T.flatMap cellsT) ∧ (∀ i, i < T.length → Own w base 46 1 (T.getD i default).la (T.getD i default).lab.length ((T.getD i default).lab.map u16v)) ∧ F d ∧ (∀ x, Bl tv x → F x) ∧
    (∀ w' i n', i < T.length → Gr w w' (fun x => x = d ∨ Bl tv x) → Bx w' d 72 [mp, sv9, tv] → Own w' base 152 2 tv T.length ((T.set i { T.getD i default with n := n' }).flatMap cellsT) → Gr w w' F ∧ DbR w' base d S (M.set i ((T.getD i default).lab, n')) F) ∧
    (∀ w' (tv' la : Value) (l : List UInt16) (n' : Int), Gr w w' (fun x => x = d ∨ Bl tv x) → Bx w' d 72 [mp, sv9, tv'] → Own w' base 152 2 tv' (T.length + 1) ((T ++ [(⟨la, l, n'⟩ : DT)]).flatMap cellsT) → (∀ x, Bl tv' x → Bl tv x ∨ w.heap.size ≤ x) → Own w' w.heap.size 46 1 la l.length (l.map u16v) →
      Gr w w' F ∧ ∃ F2, DbR w' base d S (M ++ [(l, n')]) F2 ∧ NewF w.heap.size F F2) := by
  obtain ⟨mp, sv9, tv, C, T, F0S, FT, hd, hM, hx, O, hS, OT, hT, hF⟩ := h
  have hbx := hx
  refine ⟨mp, sv9, tv, T, hM, hx, OT, hT.1, (hF d).2 (.inl rfl), fun x hx => (hF x).2 (.inr (.inr (.inl hx))), fun w' i n' hi E hx' O' => ?_, fun w' tv' la l n' E hx' O' hsub hla => ?_⟩
  · have hn1 : ∀ {v2 : Value} {e sz n2 : Nat} {cs : List Value}, Own w base e sz v2 n2 cs → e ≠ 152 → e ≠ 72 → Own w' base e sz v2 n2 cs := fun O2 he h7 => O2.keepG E fun x hx hh => hh.elim (fun q => O2.neB hbx (fun e => h7 e.symm) (q ▸ hx)) (fun q => O2.notOwn OT he x hx q)
    have hl : ∀ j, ((T.set i { T.getD i default with n := n' }).getD j default).la = (T.getD j default).la ∧ ((T.set i { T.getD i default with n := n' }).getD j default).lab = (T.getD j default).lab := fun j => by
      rw [getD_set hi]; split
      · rename_i e; subst e; exact ⟨rfl, rfl⟩
      · exact ⟨rfl, rfl⟩
    refine ⟨E.mono fun x _ hx => hx.elim (fun q => (hF x).2 (.inl q)) (fun q => (hF x).2 (.inr (.inr (.inl q)))), mp, sv9, tv, C, T.set i { T.getD i default with n := n' }, F0S, FT, hd, ?_, hx', hn1 O (by decide) (by decide), ⟨hS.1, fun j hj => ?_, hS.2.2⟩, by rw [List.length_set]; exact O', ⟨fun j hj => ?_, fun x => ?_⟩, hF⟩
    · rw [← hM, List.map_set]; rfl
    · obtain ⟨a1, a2, a3⟩ := hS.2.1 j hj
      exact ⟨hn1 a1 (by decide) (by decide), hn1 a2 (by decide) (by decide), hn1 a3 (by decide) (by decide)⟩
    · rw [List.length_set] at hj
      rw [(hl j).1, (hl j).2]; exact hn1 (hT.1 j hj) (by decide) (by decide)
    · rw [hT.2 x, List.length_set]
      exact ⟨fun ⟨j, hj, q⟩ => ⟨j, hj, by rw [(hl j).1]; exact q⟩, fun ⟨j, hj, q⟩ => ⟨j, hj, by rw [(hl j).1] at q; exact q⟩⟩
  · have hn1 : ∀ {v2 : Value} {e sz n2 : Nat} {cs : List Value}, Own w base e sz v2 n2 cs → e ≠ 152 → e ≠ 72 → Own w' base e sz v2 n2 cs := fun O2 he h7 => O2.keepG E fun x hx hh => hh.elim (fun q => O2.neB hbx (fun e => h7 e.symm) (q ▸ hx)) (fun q => O2.notOwn OT he x hx q)
    have eT : ∀ j, j < T.length → (T ++ [(⟨la, l, n'⟩ : DT)]).getD j default = T.getD j default := fun j hj => getD_snoc_lt hj
    refine ⟨E.mono fun x _ hx => hx.elim (fun q => (hF x).2 (.inl q)) (fun q => (hF x).2 (.inr (.inr (.inl q)))), fun x => x = d ∨ Bl sv9 x ∨ Bl tv' x ∨ F0S x ∨ (FT x ∨ Bl la x), ⟨mp, sv9, tv', C, T ++ [⟨la, l, n'⟩], F0S, _, hd, by rw [← hM, List.map_append]; rfl, hx', hn1 O (by decide) (by decide), ⟨hS.1, fun j hj => ?_, hS.2.2⟩, by rw [List.length_append]; exact O', ⟨fun j hj => ?_, fun x => ?_⟩, fun x => Iff.rfl⟩, fun x hx => ?_⟩
    · obtain ⟨a1, a2, a3⟩ := hS.2.1 j hj
      exact ⟨hn1 a1 (by decide) (by decide), hn1 a2 (by decide) (by decide), hn1 a3 (by decide) (by decide)⟩
    · by_cases hj2 : j < T.length
      · rw [eT j hj2]; exact hn1 (hT.1 j hj2) (by decide) (by decide)
      · obtain rfl : j = T.length := by simp at hj; omega
        rw [getD_snoc_eq]; exact hla.mono hb
    · rw [hT.2 x]
      constructor
      · rintro (⟨j, hj, q⟩ | q)
        · exact ⟨j, by simp; omega, by rw [eT j hj]; exact q⟩
        · exact ⟨T.length, by simp, by rw [getD_snoc_eq]; exact q⟩
      · rintro ⟨j, hj, q⟩
        by_cases hj2 : j < T.length
        · rw [eT j hj2] at q; exact .inl ⟨j, hj2, q⟩
        · obtain rfl : j = T.length := by simp at hj; omega
          rw [getD_snoc_eq] at q; exact .inr q
    · rcases hx with hx | hx | hx | hx | hx | hx
      · exact .inl ((hF x).2 (.inl hx))
      · exact .inl ((hF x).2 (.inr (.inl hx)))
      · exact (hsub x hx).imp (fun q => (hF x).2 (.inr (.inr (.inl q)))) id
      · exact .inl ((hF x).2 (.inr (.inr (.inr (.inl hx)))))
      · exact .inl ((hF x).2 (.inr (.inr (.inr (.inr hx)))))
      · exact .inr (hla.lt x hx).1
end
/-! stamps plainly -/
abbrev ST := List (List UInt16 × Int)
def tVal : ST → List UInt16 → Int
  | [], _ => 0
  | (y, n) :: t, x => if y = x then n else tVal t x
def tUp : ST → List UInt16 → ST
  | [], x => [(x, 1)]
  | (y, n) :: t, x => if y = x then (y, IntKind.u64.wrap (n + 1)) :: t else (y, n) :: tUp t x
theorem tUp_get : ∀ {T : ST} {x y : List UInt16}, tVal (tUp T x) y = if y = x then IntKind.u64.wrap (tVal T x + 1) else tVal T y
  | [], x, y => by
    unfold tUp tVal tVal
    by_cases h : x = y
    · subst h; simp [IntKind.wrap, IntKind.bits, IntKind.signed]
    · have h2 : ¬ y = x := fun e => h e.symm
      simp [h, h2]
  | (z, n) :: t, x, y => by
    have ih := tUp_get (T := t) (x := x) (y := y)
    unfold tUp
    by_cases h : z = x
    · subst h
      simp only [if_true]
      unfold tVal
      by_cases hy : z = y
      · subst hy; simp
      · have h2 : ¬ y = z := fun e => hy e.symm
        simp [hy, h2]
    · simp only [if_neg h]
      rw [show tVal ((z, n) :: tUp t x) y = if z = y then n else tVal (tUp t x) y from rfl, ih, show tVal ((z, n) :: t) x = if z = x then n else tVal t x from rfl, show tVal ((z, n) :: t) y = if z = y then n else tVal t y from rfl, if_neg h]
      by_cases hy : z = y
      · subst hy; simp [h]
      · simp [hy]
theorem tUp_hit : ∀ {T : ST} {x : List UInt16} {i : Nat} {n : Int}, (∀ q, q < i → (T.getD q ([], 0)).1 ≠ x) → T[i]? = some (x, n) → tUp T x = T.set i (x, IntKind.u64.wrap (n + 1)) ∧ tVal T x = n
  | [], _, _, _, _, h => by simp at h
  | (z, m) :: t, x, 0, n, _, h => by
    simp only [List.getElem?_cons_zero, Option.some.injEq, Prod.mk.injEq] at h
    obtain ⟨rfl, rfl⟩ := h
    unfold tUp tVal; simp
  | (z, m) :: t, x, i + 1, n, hq, h => by
    have h0 : z ≠ x := hq 0 (by omega)
    obtain ⟨ih1, ih2⟩ := tUp_hit (T := t) (x := x) (i := i) (n := n) (fun q hq2 => hq (q + 1) (by omega)) (by simpa using h)
    unfold tUp tVal
    rw [if_neg h0, if_neg h0]
    exact ⟨by rw [ih1]; rfl, ih2⟩
theorem tUp_miss : ∀ {T : ST} {x : List UInt16}, (∀ q, q < T.length → (T.getD q ([], 0)).1 ≠ x) → tUp T x = T ++ [(x, 1)] ∧ tVal T x = 0
  | [], _, _ => ⟨rfl, rfl⟩
  | (z, m) :: t, x, hq => by
    have h0 : z ≠ x := hq 0 (by simp)
    obtain ⟨ih1, ih2⟩ := tUp_miss (T := t) (x := x) (fun q hq2 => hq (q + 1) (by simp; omega))
    unfold tUp tVal
    rw [if_neg h0, if_neg h0]
    exact ⟨by rw [ih1]; rfl, ih2⟩
theorem tUp_len : ∀ {T : ST} {x : List UInt16}, (tUp T x).length ≤ T.length + 1
  | [], _ => by simp [tUp]
  | (z, m) :: t, x => by
    unfold tUp
    split
    · simp
    · have := tUp_len (T := t) (x := x); simp; omega
end Go.Gx
namespace Go.Proofs.Ytmhdbphpmgjpcaa
open Go.Gx
def StEq (M : List (List UInt8 × Int)) (T : ST) : Prop := (M.map Prod.fst).Nodup ∧ ∀ x, mayL x = true → (mget M (labB x)).getD 0 = tVal T x
theorem StEq.start : StEq [] [] := ⟨by simp, fun x _ => rfl⟩
theorem StEq.step {M : List (List UInt8 × Int)} {T : ST} {x : List UInt16} (h : StEq M T) (hx : mayL x = true) : IntKind.u64.wrap ((mget M (labB x)).getD 0 + 1) = IntKind.u64.wrap (tVal T x + 1) ∧ StEq (mput M (labB x) (IntKind.u64.wrap ((mget M (labB x)).getD 0 + 1))) (tUp T x) := by
  refine ⟨by rw [h.2 x hx], nodup_mput h.1, fun y hy => ?_⟩
  rw [mget_mput h.1, tUp_get]
  by_cases hxy : labB y = labB x
  · obtain rfl := labB_inj hy hx hxy
    rw [if_pos rfl, if_pos rfl, h.2 y hy]; rfl
  · rw [if_neg hxy, h.2 y hy, if_neg (fun e => hxy (by rw [e]))]
theorem raise_len {l t : List UInt16} (h : (nrm t).length ≤ 8) : raiseOk l t = decide ((joinL l (nrm t)).length ≤ 8) := by
  unfold raiseOk joinL; rw [decide_eq_true h, Bool.true_and, mayL_nrm]
end Go.Proofs.Ytmhdbphpmgjpcaa

namespace Go.Proofs.Ytmhdbphpmgjpcaa
open Go.Gx Go.RowKit
attribute [local irreducible] wpList wpStill Code.wp Calls

theorem set_dc {C : List DC} {i : Nat} {v : Value} (h : i < C.length) : (C.flatMap cellsD).take (i * 4 + 0) ++ [v] ++ (C.flatMap cellsD).drop (i * 4 + 0 + 1) = (C.set i ⟨v, (C.getD i default).ow, (C.getD i default).po⟩).flatMap cellsD :=
  set_flat (d := default) (fun _ _ => rfl) h (by simp) rfl
theorem set_dp {C : List DC} {i : Nat} {v : Value} (h : i < C.length) : (C.flatMap cellsD).take (i * 4 + 2) ++ [v] ++ (C.flatMap cellsD).drop (i * 4 + 2 + 1) = (C.set i ⟨(C.getD i default).la, (C.getD i default).ow, v⟩).flatMap cellsD :=
  set_flat (d := default) (fun _ _ => rfl) h (by simp) rfl
theorem set_dt {T : List DT} {i : Nat} {n : Int} (h : i < T.length) : (T.flatMap cellsT).take (i * 2 + 1) ++ [Value.int .u64 n] ++ (T.flatMap cellsT).drop (i * 2 + 1 + 1) = (T.set i { T.getD i default with n := n }).flatMap cellsT :=
  set_flat (d := default) (fun _ _ => rfl) h (by simp) rfl
theorem set_dc_same {C : List DC} {i : Nat} (h : i < C.length) : C.set i ⟨(C.getD i default).la, (C.getD i default).ow, (C.getD i default).po⟩ = C := by
  apply List.ext_getElem?
  intro j
  by_cases hj : i = j
  · subst hj; simp [List.getD_eq_getElem?_getD, h]
  · rw [List.getElem?_set_ne hj]

theorem RaiseD {C : List DC} {n i d base : Nat} {mp sv9 tv9 tv : Value} {l t : List UInt16} {w : World} (hbase : base ≤ w.heap.size) (hn : n ≤ 6) (hi : i < n) (hC : C.length = n) (hx : Bx w d 72 [mp, sv9, tv9]) (O : Own w base 75 4 sv9 n (C.flatMap cellsD)) (hL : Own w base 46 1 (C.getD i default).la l.length (l.map u16v)) (hll : l.length ≤ 100) (htl : t.length ≤ 100) (ht : RdC w 0 w.heap.size 1 tv t.length (t.map u16v)) : Ret Try.prog 43 #[(ptr d 0), (.int .i64 ((i : Nat) : Int)), tv] w (fun v' w' => w.grownBy w' sv9.ownBlock ∧ v' = .int .i64 (raiseE l t) ∧ ∃ nv, Own w' base 75 4 sv9 n ((C.set i ⟨nv, (C.getD i default).ow, (C.getD i default).po⟩).flatMap cellsD) ∧ Own w' base 46 1 nv (raiseL l t).length ((raiseL l t).map u16v) ∧ (nv = (C.getD i default).la ∨ ∀ x, Bl nv x → w.heap.size ≤ x)) := by
 have hb := grown_refl w sv9.ownBlock
 refine enter (N := 38) Try.func43 rfl rfl (by simp) fun a hN hd hA => ?_
 have b : a.tmps.getD 0 undef = (ptr d 0) := hA 0 (by simp)
 have c : a.tmps.getD 1 undef = (.int .i64 ((i : Nat) : Int)) := hA 1 (by simp)
 have e : a.tmps.getD 2 undef = tv := hA 2 (by simp)
 clear hA
 refine zF fun _ a => zH ?_
 refine zD rfl (zB (a _ _ (zF fun _ a => zH (zG (zC hN rfl e) (zj ok45 (rnormW_ret t _ _ (by first | assumption | omega | (simp only [List.length_append, List.length_cons, List.length_nil, List.length_drop, List.length_take]; omega) | (dsimp only; omega) | decide | (simp [keyV, be8_len]; done)) (show RdC w 0 w.heap.size 1 tv t.length (t.map u16v) from by have hh : RdC w 0 w.heap.size 1 _ _ _ := (ht.mono (L' := 0) (B' := w.heap.size) (Nat.zero_le _) zx); first | exact hh | exact hh.cast (by first | omega | (simp; try omega)) (by first | rfl | simp [u16v]))) ⟨(zA hN rfl), trivial⟩ ?_)))))
 rintro _ e ⟨f, j, rfl, g⟩
 have f := zQ f
 have := f.size
 have hx := hx.keep0 f
 have O := O.keep0 f
 have hL := hL.keep0 f
 have hb := grow_step0 hb f
 have g := g.mono (base' := w.heap.size) zx
 have f := normL_len t
 refine zG (zA hN rfl) ?_
 refine zW (zA hN rfl) rfl (zW (zA hN rfl) rfl (zD (zA hN rfl) (zD (zA hN rfl) (zB (a _ _ (zF fun _ a => zF fun _ f => zH (zG (zA hN rfl) (op_neq (zA hN rfl) rfl (fun k => ?_) (fun k => ?_)))))))))
 ·
  refine zB (f _ _ (wp_cond_true (zA hN rfl) (zF fun _ f => zH (zG (zA hN rfl) (zD (zA hN rfl) (zB (f _ _ (wp_ret (zO ( (ret1 rfl hd (zA hN rfl) ⟨_, rfl, ?_⟩)))))))))))
  have m : ¬ (nrm t).length ≤ 8 := fun h => k (normE_ok zx)
  have hr : raiseOk l t = false := by unfold raiseOk; rw [decide_eq_false m]; rfl
  obtain ⟨o, p⟩ := raise_f hr
  have q : normE t = 7 := normE_bad zx
  exact ⟨hb, congrArg (Value.int .i64) (q.trans p.symm), _, by rw [set_dc_same zx]; exact O, hL.cast (by rw [o]) (by rw [o]), .inl rfl⟩
 refine zB (f _ _ (wp_cond_false (zA hN rfl) (wp_skip (a _ _ (zF fun _ a => zH (zG (zC hN rfl b) (op_nil (zA hN rfl) (zM fld72_1 (zA hN rfl) (zN one69 (zA hN rfl) (hx.cell rfl) (zG (zC hN rfl c) (zh slt69 (zA hN rfl) O.rdw (zA hN rfl) zx zx ?_)))))))))))
 intro y s u z q
 refine zM fld75_0 (zA hN rfl) (zN (v := (C.getD i default).la) one54 (zA hN rfl) (q 0 _ zz ((el_ds (i := i) zx zx) 0 _ rfl)) (zG (zA hN rfl) (zj ok51 (rjoinW_ret l (normL t) _ _ _ (by first | assumption | omega | (simp only [List.length_append, List.length_cons, List.length_nil, List.length_drop, List.length_take]; omega) | (dsimp only; omega) | decide | (simp [keyV, be8_len]; done)) (by first | assumption | omega | (simp only [List.length_append, List.length_cons, List.length_nil, List.length_drop, List.length_take]; omega) | (dsimp only; omega) | decide | (simp [keyV, be8_len]; done)) (show RdC e 0 e.heap.size 1 (C.getD i default).la l.length (l.map u16v) from by have hh : RdC e 0 e.heap.size 1 _ _ _ := (hL.rdw.mono (L' := 0) (B' := e.heap.size) (Nat.zero_le _) zx); first | exact hh | exact hh.cast (by first | omega | (simp; try omega)) (by first | rfl | simp [u16v])) (show RdC e 0 e.heap.size 1 j (normL t).length ((normL t).map u16v) from by have hh : RdC e 0 e.heap.size 1 _ _ _ := (g.rdw.mono (L' := 0) (B' := e.heap.size) (Nat.zero_le _) zx); first | exact hh | exact hh.cast (by first | omega | (simp; try omega)) (by first | rfl | simp [u16v]))) ⟨(zA hN rfl), ⟨(zA hN rfl), trivial⟩⟩ ?_)))
 rintro j q ⟨g, e⟩
 have g := zQ g
 have := g.size
 have hx := hx.keep0 g
 have O := O.keep0 g
 have hL := hL.keep0 g
 have hb := grow_step0 hb g
 have e := e.mono (base' := w.heap.size) zx
 refine zD (zA hN rfl) (zB (a _ _ (zF fun _ a => zF fun _ f => zH ?_)))
 have hjl : (joinL l (normL t)).length ≤ (l ++ normL t).length := nrm_lenL _
 rw [List.length_append] at hjl
 refine zG (zA hN rfl) (op_len_rd Try.underlying54 (zA hN rfl) e.rdw (op_gtr (zA hN rfl) rfl (fun g => ?_) (fun g => ?_)))
 ·
  refine zB (f _ _ (wp_cond_true (zA hN rfl) (zF fun _ f => zH (zD rfl (zB (f _ _ (wp_ret (zO ( (ret1 rfl hd (zA hN rfl) ⟨_, rfl, ?_⟩))))))))))
  have m : (nrm t).length ≤ 8 := Nat.le_of_not_lt fun h => by rw [normE_bad h] at k; omega
  have hnl : normL t = nrm t := normL_ok zx
  have hr : raiseOk l t = false := by rw [raise_len m, ← hnl]; exact decide_eq_false zx
  obtain ⟨o, p⟩ := raise_f hr
  exact ⟨hb, congrArg (Value.int .i64) p.symm, _, by rw [set_dc_same zx]; exact O, hL.cast (by rw [o]) (by rw [o]), .inl rfl⟩
 refine zB (f _ _ (wp_cond_false (zA hN rfl) (wp_skip (a _ _ (zF fun _ a => zH ?_)))))
 skip
 refine zG (zC hN rfl b) (op_nil (zA hN rfl) (zM fld72_1 (zA hN rfl) (zN one69 (zA hN rfl) (hx.cell rfl) (zG (zC hN rfl c) (zG (zA hN rfl) ?_)))))
 skip
 refine op_index_own (i := i) slt69 (zA hN rfl) O (zA hN rfl) zx zx ?_
 intro g f c b
 refine zM fld75_0 (zA hN rfl) ?_
 have c := O
 refine op_store_own (vs := [j]) size54 (zA hN rfl) (zA hN rfl) e.cl rfl (by simp only [yA, yB, yC, yD, e.one]; try rfl) c (b.fld 0) (by have := c.1; simp only [List.length_cons, List.length_nil]; omega) ?_
 intro g f b
 have := b.size
 have hx := hx.keepO c b zz
 have e := e.keepT c b zz
 have hb := grow_stepX hb b rfl
 have f : Own g base 75 4 sv9 n (((C.set i ⟨j, (C.getD i default).ow, (C.getD i default).po⟩)).flatMap cellsD) := by exact f.cast rfl (set_dc zx)
 refine zB (a _ _ (zF fun _ a => zH (zD rfl (zB (a _ _ (wp_ret (ret1 rfl hd (zA hN rfl) ⟨_, rfl, ?_⟩)))))))
 have m : (nrm t).length ≤ 8 := Nat.le_of_not_lt fun h => by rw [normE_bad h] at k; omega
 have hnl : normL t = nrm t := normL_ok zx
 have hr : raiseOk l t = true := by rw [raise_len m, ← hnl]; exact decide_eq_true zx
 obtain ⟨o, p⟩ := raise_t hr
 exact ⟨hb, congrArg (Value.int .i64) p.symm, _, f, (e.mono zx).cast (by rw [o, hnl]) (by rw [o, hnl]), .inr (fun x hx => (e.lt x hx).1)⟩

end Go.Proofs.Ytmhdbphpmgjpcaa

namespace Go.Gx
structure TX where
  label : List UInt16
  stamp : Int
  reads : List (List UInt8 × List UInt16)
  writes : List (List UInt8)
  doomed : Bool
instance : Inhabited TX := ⟨⟨[], 0, [], [], false⟩⟩
structure RD where
  tab : List UInt8
  la : Value
  lab : List UInt16
instance : Inhabited RD := ⟨⟨[], .slice none 0 0, []⟩⟩
def cellsRd (r : RD) : List Value := [.string (bs r.tab), r.la]
def rdL (r : RD) : Value × List UInt16 := (r.la, r.lab)
def rOf (r : RD) : List UInt8 × List UInt16 := (r.tab, r.lab)
structure TC where
  p : Nat
  la : Value
  rv : Value
  wv : Value
  D : List RD
instance : Inhabited TC := ⟨⟨0, .slice none 0 0, .slice none 0 0, .slice none 0 0, []⟩⟩
def pv (p : Nat) : Value := ptr p 0
def TxAt (w : World) (base : Nat) (t : TX) (c : TC) : Prop :=
  base ≤ c.p ∧ Bx w c.p 164 [c.la, .int .u64 t.stamp, c.rv, c.wv, .bool t.doomed] ∧ Own w base 46 1 c.la t.label.length (t.label.map u16v) ∧ Own w base 169 2 c.rv c.D.length (c.D.flatMap cellsRd) ∧
    (∀ x9 ∈ c.D.map rdL, Own w base 46 1 x9.1 x9.2.length (x9.2.map u16v)) ∧ Own w base 9 1 c.wv t.writes.length (t.writes.map sv) ∧ c.D.map rOf = t.reads
def PartT (c : TC) (x : Nat) : Prop := x = c.p ∨ Bl c.la x ∨ Bl c.rv x ∨ Bl c.wv x ∨ ∃ r ∈ c.D, Bl r.la x
abbrev TM := List (Int × TX)
def esOf (M : TM) (C : List TC) : List (Int × Nat) := List.zipWith (fun a c => (a.1, c.p)) M C
def LkAll (w : World) (base : Nat) (M : TM) (C : List TC) (F : Nat → Prop) : Prop :=
  C.length = M.length ∧ (∀ i, i < M.length → TxAt w base (M.getD i default).2 (C.getD i default)) ∧ (∀ i j, i < M.length → j < M.length → i ≠ j → Dj (PartT (C.getD i default)) (PartT (C.getD j default))) ∧ (∀ x, F x ↔ ∃ i, i < M.length ∧ PartT (C.getD i default) x)
def MapN (w : World) (base : Nat) (mv : Value) (es : List (Int × Nat)) : Prop := (mv = .map none ∧ es = []) ∨ ∃ m, mv = .map (some m) ∧ base ≤ m ∧ MapC (Value.int .i64) pv w m es
def LocksR (w : World) (base k : Nat) (M : TM) (F : Nat → Prop) : Prop :=
  ∃ (mv : Value) (C : List TC) (F0 : Nat → Prop), base ≤ k ∧ Bx w k 121 [mv] ∧ MapN w base mv (esOf M C) ∧ LkAll w base M C F0 ∧ (∀ x, F x ↔ x = k ∨ mv = .map (some x) ∨ F0 x)
section
variable {w w' : World} {base k m b t e sz n i j : Nat} {M : TM} {C : List TC} {F G : Nat → Prop} {cs : List Value} {v mv : Value} {T T' : TX} {c c' : TC}
theorem TxAt.lt (h : TxAt w base T c) : ∀ x, PartT c x → base ≤ x ∧ x < w.heap.size := fun x hx => by
  obtain ⟨h0, h1, h2, h3, h4, h5, _⟩ := h
  rcases hx with rfl | hx | hx | hx | ⟨r, hr, hx⟩
  · exact ⟨h0, h1.lt⟩
  · exact h2.lt x hx
  · exact h3.lt x hx
  · exact h5.lt x hx
  · exact (h4 _ (List.mem_map.2 ⟨r, hr, rfl⟩)).lt x hx
theorem TxAt.keepG (h : TxAt w base T c) (E : Gr w w' G) (hd : Dj (PartT c) G) : TxAt w' base T c := by
  obtain ⟨h0, h1, h2, h3, h4, h5, h6⟩ := h
  refine ⟨h0, h1.keepG E (hd _ (.inl rfl)), h2.keepG E fun x hx => hd x (.inr (.inl hx)), h3.keepG E fun x hx => hd x (.inr (.inr (.inl hx))), fun x9 hx9 => (h4 x9 hx9).keepG E fun x hx => ?_, h5.keepG E fun x hx => hd x (.inr (.inr (.inr (.inl hx)))), h6⟩
  obtain ⟨r, hr, rfl⟩ := List.mem_map.1 hx9
  exact hd x (.inr (.inr (.inr (.inr ⟨r, hr, hx⟩))))
theorem TxAt.mono {base' : Nat} (h : TxAt w base T c) (hb : base' ≤ base) : TxAt w base' T c :=
  ⟨Nat.le_trans hb h.1, h.2.1, h.2.2.1.mono hb, h.2.2.2.1.mono hb, fun x9 hx9 => (h.2.2.2.2.1 x9 hx9).mono hb, h.2.2.2.2.2.1.mono hb, h.2.2.2.2.2.2⟩
theorem TxAt.notBx (h : TxAt w base T c) (B : Bx w b t cs) (h1 : t ≠ 164) (h2 : t ≠ 46) (h3 : t ≠ 169) (h4 : t ≠ 9) : ¬ PartT c b := fun hf => by
  obtain ⟨a0, a1, a2, a3, a4, a5, _⟩ := h
  rcases hf with hf | hf | hf | hf | ⟨r, hr, hf⟩
  · exact B.ne a1 h1 hf
  · exact a2.neB B h2 hf
  · exact a3.neB B h3 hf
  · exact a5.neB B h4 hf
  · exact (a4 _ (List.mem_map.2 ⟨r, hr, rfl⟩)).neB B h2 hf
theorem TxAt.notOwn {base2 : Nat} (h : TxAt w base T c) (O : Own w base2 e sz v n cs) (h1 : e ≠ 164) (h2 : e ≠ 46) (h3 : e ≠ 169) (h4 : e ≠ 9) : Dj (Bl v) (PartT c) := fun x hx hf => by
  obtain ⟨a0, a1, a2, a3, a4, a5, _⟩ := h
  rcases hf with rfl | hf | hf | hf | ⟨r, hr, hf⟩
  · exact O.neB a1 (fun q => h1 q.symm) hx
  · exact O.notOwn a2 h2 x hx hf
  · exact O.notOwn a3 h3 x hx hf
  · exact O.notOwn a5 h4 x hx hf
  · exact O.notOwn (a4 _ (List.mem_map.2 ⟨r, hr, rfl⟩)) h2 x hx hf
theorem TxAt.notMap {K V : Type} {kv : K → Value} {vv : V → Value} {es : List (K × V)} (h : TxAt w base T c) (Mp : MapC kv vv w m es) : ¬ PartT c m := fun hf => by
  obtain ⟨a0, a1, a2, a3, a4, a5, _⟩ := h
  rcases hf with hf | hf | hf | hf | ⟨r, hr, hf⟩
  · exact a1.notMap Mp hf.symm
  · exact a2.notMap Mp hf
  · exact a3.notMap Mp hf
  · exact a5.notMap Mp hf
  · exact (a4 _ (List.mem_map.2 ⟨r, hr, rfl⟩)).notMap Mp hf
theorem LkAll.lt (h : LkAll w base M C F) : ∀ x, F x → base ≤ x ∧ x < w.heap.size := fun x hx => by
  obtain ⟨i, hi, hx⟩ := (h.2.2.2 x).1 hx
  exact (h.2.1 i hi).lt x hx
theorem LkAll.keepG (h : LkAll w base M C F) (E : Gr w w' G) (hd : Dj F G) : LkAll w' base M C F :=
  ⟨h.1, fun i hi => (h.2.1 i hi).keepG E fun x hx => hd x ((h.2.2.2 x).2 ⟨i, hi, hx⟩), h.2.2.1, h.2.2.2⟩
theorem LkAll.kz (h : LkAll w base M C F) (E9 : w.grownBy w' none) : LkAll w' base M C F := h.keepG (Gr.of0 E9 NoB) (fun _ _ h => h)
theorem LkAll.mono {base' : Nat} (h : LkAll w base M C F) (hb : base' ≤ base) : LkAll w base' M C F := ⟨h.1, fun i hi => (h.2.1 i hi).mono hb, h.2.2⟩
theorem LkAll.nil (w : World) (base : Nat) : LkAll w base [] [] NoB := ⟨rfl, fun _ h => absurd h (Nat.not_lt_zero _), fun _ _ h => absurd h (Nat.not_lt_zero _), fun x => ⟨fun h => h.elim, fun ⟨_, h, _⟩ => absurd h (Nat.not_lt_zero _)⟩⟩
theorem LkAll.notBx (h : LkAll w base M C F) (B : Bx w b t cs) (h1 : t ≠ 164) (h2 : t ≠ 46) (h3 : t ≠ 169) (h4 : t ≠ 9) : ¬ F b := fun hf => by
  obtain ⟨i, hi, hf⟩ := (h.2.2.2 b).1 hf
  exact (h.2.1 i hi).notBx B h1 h2 h3 h4 hf
theorem LkAll.notOwn {base2 : Nat} (h : LkAll w base M C F) (O : Own w base2 e sz v n cs) (h1 : e ≠ 164) (h2 : e ≠ 46) (h3 : e ≠ 169) (h4 : e ≠ 9) : Dj (Bl v) F := fun x hx hf => by
  obtain ⟨i, hi, hf⟩ := (h.2.2.2 x).1 hf
  exact (h.2.1 i hi).notOwn O h1 h2 h3 h4 x hx hf
theorem LkAll.notMap {K V : Type} {kv : K → Value} {vv : V → Value} {es : List (K × V)} (h : LkAll w base M C F) (Mp : MapC kv vv w m es) : ¬ F m := fun hf => by
  obtain ⟨i, hi, hf⟩ := (h.2.2.2 m).1 hf
  exact (h.2.1 i hi).notMap Mp hf
theorem LkAll.snoc (h : LkAll w base M C F) {n : Int} (hT : TxAt w base T c) (hd : Dj F (PartT c)) : LkAll w base (M ++ [(n, T)]) (C ++ [c]) (fun x => F x ∨ PartT c x) := by
  obtain ⟨h1, h2, h3, h4⟩ := h
  have hlast : ∀ {i}, i < (M ++ [(n, T)]).length → ¬ i < M.length → i = M.length := fun {i} a b => by simp at a; omega
  have eC : (C ++ [c]).getD M.length default = c := by rw [← h1]; exact getD_snoc_eq
  have eM : (M ++ [(n, T)]).getD M.length default = (n, T) := getD_snoc_eq
  have hdj : ∀ i, i < M.length → Dj (PartT (C.getD i default)) (PartT c) := fun i hi x hx => hd x ((h4 x).2 ⟨i, hi, hx⟩)
  refine ⟨by simp [h1], fun i hi => ?_, fun i j hi hj hne => ?_, fun x => ⟨fun hx => ?_, fun hx => ?_⟩⟩
  · by_cases hs : i < M.length
    · rw [getD_snoc_lt hs, getD_snoc_lt (by rw [h1]; exact hs)]; exact h2 i hs
    · obtain rfl := hlast hi hs
      rw [eM, eC]; exact hT
  · by_cases hs : i < M.length <;> by_cases hs2 : j < M.length
    · rw [getD_snoc_lt (by rw [h1]; exact hs), getD_snoc_lt (by rw [h1]; exact hs2)]; exact h3 i j hs hs2 hne
    · obtain rfl := hlast hj hs2
      rw [getD_snoc_lt (by rw [h1]; exact hs), eC]; exact hdj i hs
    · obtain rfl := hlast hi hs
      rw [eC, getD_snoc_lt (by rw [h1]; exact hs2)]; exact (hdj j hs2).symm
    · exact absurd ((hlast hi hs).trans (hlast hj hs2).symm) hne
  · rcases hx with hx | hx
    · obtain ⟨i, hi, hx⟩ := (h4 x).1 hx
      exact ⟨i, by simp; omega, by rw [getD_snoc_lt (by rw [h1]; exact hi)]; exact hx⟩
    · exact ⟨M.length, by simp, by rw [eC]; exact hx⟩
  · obtain ⟨i, hi, hx⟩ := hx
    by_cases hs : i < M.length
    · rw [getD_snoc_lt (by rw [h1]; exact hs)] at hx; exact .inl ((h4 x).2 ⟨i, hs, hx⟩)
    · obtain rfl := hlast hi hs
      rw [eC] at hx; exact .inr hx
theorem getD_erase {α : Type} {l : List α} {i j : Nat} {d : α} : (l.eraseIdx j).getD i d = if i < j then l.getD i d else l.getD (i + 1) d := by
  simp only [List.getD_eq_getElem?_getD, List.getElem?_eraseIdx]
  split <;> rfl
theorem LkAll.erase (h : LkAll w base M C F) (hj : j < M.length) : ∃ F2, LkAll w base (M.eraseIdx j) (C.eraseIdx j) F2 ∧ ∀ x, F2 x → F x := by
  obtain ⟨h1, h2, h3, h4⟩ := h
  have hl : (M.eraseIdx j).length = M.length - 1 := by rw [List.length_eraseIdx, if_pos hj]
  have up : ∀ i, i < (M.eraseIdx j).length → (if i < j then i else i + 1) < M.length := fun i hi => by split <;> omega
  have gM : ∀ i, (M.eraseIdx j).getD i default = M.getD (if i < j then i else i + 1) default := fun i => by rw [getD_erase]; split <;> rfl
  have gC : ∀ i, (C.eraseIdx j).getD i default = C.getD (if i < j then i else i + 1) default := fun i => by rw [getD_erase]; split <;> rfl
  refine ⟨_, ⟨by rw [List.length_eraseIdx, if_pos (by omega), hl, h1], fun i hi => ?_, fun a b ha hb hab => ?_, fun x => Iff.rfl⟩, fun x hx => ?_⟩
  · rw [gM, gC]; exact h2 _ (up i hi)
  · rw [gC, gC]
    refine h3 _ _ (up a ha) (up b hb) ?_
    split <;> split <;> omega
  · obtain ⟨i, hi, hx⟩ := hx
    rw [gC] at hx
    exact (h4 x).2 ⟨_, up i hi, hx⟩
theorem LkAll.turn (h : LkAll w base M C F) (hi : i < M.length) {n : Int} (E : Gr w w' (PartT (C.getD i default))) (hT : TxAt w' base T' c') (hN : ∀ x, PartT c' x → PartT (C.getD i default) x ∨ w.heap.size ≤ x) :
    Gr w w' F ∧ ∃ F2, LkAll w' base (M.set i (n, T')) (C.set i c') F2 ∧ NewF w.heap.size F F2 := by
  obtain ⟨h1, h2, h3, h4⟩ := h
  have hiC : i < C.length := by rw [h1]; exact hi
  have gC : ∀ j, (C.set i c').getD j default = if j = i then c' else C.getD j default := fun j => getD_set hiC
  have gM : ∀ j, (M.set i (n, T')).getD j default = if j = i then (n, T') else M.getD j default := fun j => getD_set hi
  refine ⟨E.mono fun x _ hx => (h4 x).2 ⟨i, hi, hx⟩, _, ⟨by simp [h1], fun j hj => ?_, fun a b ha hb hab => ?_, fun x => Iff.rfl⟩, fun x hx => ?_⟩
  · rw [List.length_set] at hj
    rw [gM, gC]
    by_cases hji : j = i
    · rw [if_pos hji, if_pos hji]; exact hT
    · rw [if_neg hji, if_neg hji]; exact (h2 j hj).keepG E (h3 j i hj hi hji)
  · rw [List.length_set] at ha hb
    rw [gC, gC]
    by_cases q1 : a = i <;> by_cases q2 : b = i
    · exact absurd (q1.trans q2.symm) hab
    · rw [if_pos q1, if_neg q2]
      exact (Dj.stepF hN (fun x hx => ((h2 b hb).lt x hx).2) (h3 b i hb hi q2)).symm
    · rw [if_neg q1, if_pos q2]
      exact Dj.stepF hN (fun x hx => ((h2 a ha).lt x hx).2) (h3 a i ha hi q1)
    · rw [if_neg q1, if_neg q2]; exact h3 a b ha hb hab
  · obtain ⟨j, hj, hx⟩ := hx
    rw [List.length_set] at hj
    rw [gC] at hx
    by_cases hji : j = i
    · rw [if_pos hji] at hx
      exact (hN x hx).imp (fun q => (h4 x).2 ⟨i, hi, q⟩) id
    · rw [if_neg hji] at hx
      exact .inl ((h4 x).2 ⟨j, hj, hx⟩)
/-! the map's own list -/
theorem esOf_look : ∀ {M : TM} {C : List TC} {n : Int}, C.length = M.length → mlook (esOf M C) n = (mlook M n).map fun q => (q.1, (C.getD q.1 default).p)
  | [], [], _, _ => rfl
  | [], _ :: _, _, h => by cases h
  | _ :: _, [], _, h => by cases h
  | (a, t) :: M, c :: C, n, h => by
    have ih := esOf_look (M := M) (C := C) (n := n) (by simpa using h)
    unfold esOf at ih ⊢
    simp only [List.zipWith_cons_cons, mlook]
    split
    · rfl
    · rw [ih]; cases mlook M n <;> rfl
theorem esOf_set (h : C.length = M.length) {n : Int} (hp : c'.p = (C.getD i default).p) (hk : i < M.length → (M.getD i default).1 = n) : esOf (M.set i (n, T')) (C.set i c') = esOf M C := by
  unfold esOf
  apply List.ext_getElem?
  intro q
  simp only [List.getElem?_zipWith, List.getElem?_set]
  by_cases hq : i = q
  · subst hq
    by_cases hi : i < M.length
    · have hiC : i < C.length := by omega
      rw [if_pos rfl, if_pos hi, if_pos rfl, if_pos hiC, List.getElem?_eq_getElem hi, List.getElem?_eq_getElem hiC]
      have h1 := hk hi
      simp only [List.getD_eq_getElem?_getD, List.getElem?_eq_getElem hi, List.getElem?_eq_getElem hiC, Option.getD_some] at h1 hp
      simp only []
      rw [h1, hp]
    · rw [if_pos rfl, if_neg hi, if_pos rfl, if_neg (by omega), List.getElem?_eq_none (by omega), List.getElem?_eq_none (by omega)]
  · rw [if_neg hq, if_neg hq]
/-! the whole -/
theorem LocksR.lt (h : LocksR w base k M F) : ∀ x, F x → base ≤ x ∧ x < w.heap.size := by
  obtain ⟨mv, C, F0, hk, hx, hM, hA, hF⟩ := h
  intro x hf
  rcases (hF x).1 hf with rfl | hf | hf
  · exact ⟨hk, hx.lt⟩
  · rcases hM with ⟨rfl, _⟩ | ⟨m, rfl, hm, hM⟩
    · cases hf
    · injection hf with hf; injection hf with hf; subst hf; exact ⟨hm, hM.lt⟩
  · exact hA.lt x hf
theorem LocksR.keepG (h : LocksR w base k M F) (E : Gr w w' G) (hd : Dj F G) : LocksR w' base k M F := by
  obtain ⟨mv, C, F0, hk, hx, hM, hA, hF⟩ := h
  refine ⟨mv, C, F0, hk, hx.keepG E (hd k ((hF k).2 (.inl rfl))), ?_, hA.keepG E (fun x hx => hd x ((hF x).2 (.inr (.inr hx)))), hF⟩
  rcases hM with hM | ⟨m, rfl, hm, hM⟩
  · exact .inl hM
  · exact .inr ⟨m, rfl, hm, hM.keepG E (hd m ((hF m).2 (.inr (.inl rfl))))⟩
theorem LocksR.kz (h : LocksR w base k M F) (E9 : w.grownBy w' none) : LocksR w' base k M F := h.keepG (Gr.of0 E9 NoB) (fun _ _ h => h)
theorem LocksR.mono {base' : Nat} (h : LocksR w base k M F) (hb : base' ≤ base) : LocksR w base' k M F := by
  obtain ⟨mv, C, F0, hk, hx, hM, hA, hF⟩ := h
  refine ⟨mv, C, F0, Nat.le_trans hb hk, hx, ?_, hA.mono hb, hF⟩
  rcases hM with hM | ⟨m, rfl, hm, hM⟩
  · exact .inl hM
  · exact .inr ⟨m, rfl, Nat.le_trans hb hm, hM⟩
end
end Go.Gx

namespace Go.Proofs.Ytmhdbphpmgjpcaa
open Go.Gx Go.RowKit Go.Maps Go.Sort Go.Shelf Go.Proofs
end Go.Proofs.Ytmhdbphpmgjpcaa

namespace Go.Proofs.Ytmhdbphpmgjpcaa
open Go.Gx
theorem sub_of_hm {v v' : Value} {m n : Nat} (hm : v'.ownBlock = v.ownBlock ∨ ∀ k, v'.ownBlock = some k → n ≤ k) (hle : m ≤ n) : ∀ y, Bl v' y → Bl v y ∨ m ≤ y := fun y hy => hm.elim (fun e => .inl (e.symm.trans hy)) (fun h => .inr (Nat.le_trans hle (h y hy)))
def TOk (t : TX) : Prop := t.label.length ≤ 8 ∧ ∀ r ∈ t.reads, r.2.length ≤ 8
def TxR (w : World) (base p : Nat) (t : TX) (F : Nat → Prop) : Prop := ∃ c : TC, c.p = p ∧ TxAt w base t c ∧ ∀ x, F x ↔ PartT c x
section
variable {w w' : World} {base k m b tt e sz n p : Nat} {M : TM} {C : List TC} {F F0 G FT : Nat → Prop} {cs : List Value} {v mv la rv wv : Value} {T T' : TX} {c c' : TC} {D : List RD} {x i : Int}
theorem TxR.lt (h : TxR w base p T F) : ∀ x, F x → base ≤ x ∧ x < w.heap.size := by
  obtain ⟨c, _, h, hF⟩ := h
  exact fun x hx => h.lt x ((hF x).1 hx)
theorem TxR.keepG (h : TxR w base p T F) (E : Gr w w' G) (hd : Dj F G) : TxR w' base p T F := by
  obtain ⟨c, hp, h, hF⟩ := h
  exact ⟨c, hp, h.keepG E fun x hx => hd x ((hF x).2 hx), hF⟩
theorem TxR.kz (h : TxR w base p T F) (E9 : w.grownBy w' none) : TxR w' base p T F := h.keepG (Gr.of0 E9 NoB) (fun _ _ h => h)
theorem TxR.notBx (h : TxR w base p T F) (B : Bx w b tt cs) (h1 : tt ≠ 164) (h2 : tt ≠ 46) (h3 : tt ≠ 169) (h4 : tt ≠ 9) : ¬ F b := by
  obtain ⟨c, hp, h, hF⟩ := h
  exact fun hf => h.notBx B h1 h2 h3 h4 ((hF b).1 hf)
theorem TxR.notOwn {base2 : Nat} (h : TxR w base p T F) (O : Own w base2 e sz v n cs) (h1 : e ≠ 164) (h2 : e ≠ 46) (h3 : e ≠ 169) (h4 : e ≠ 9) : Dj (Bl v) F := by
  obtain ⟨c, hp, h, hF⟩ := h
  exact fun x hx hf => h.notOwn O h1 h2 h3 h4 x hx ((hF x).1 hf)
theorem TxR.notMap {K V : Type} {kv : K → Value} {vv : V → Value} {es : List (K × V)} (h : TxR w base p T F) (Mp : MapC kv vv w m es) : ¬ F m := by
  obtain ⟨c, hp, h, hF⟩ := h
  exact fun hf => h.notMap Mp ((hF m).1 hf)
theorem TxR.parts (h : TxR w base p T F) : ∃ (la rv wv : Value) (D : List RD), base ≤ p ∧ Bx w p 164 [la, .int .u64 T.stamp, rv, wv, .bool T.doomed] ∧ Own w base 46 1 la T.label.length (T.label.map u16v) ∧ Own w base 169 2 rv D.length (D.flatMap cellsRd) ∧
    (∀ x9 ∈ D.map rdL, Own w base 46 1 x9.1 x9.2.length (x9.2.map u16v)) ∧ Own w base 9 1 wv T.writes.length (T.writes.map sv) ∧ D.map rOf = T.reads ∧ (∀ x, F x ↔ x = p ∨ Bl la x ∨ Bl rv x ∨ Bl wv x ∨ ∃ r ∈ D, Bl r.la x) := by
  obtain ⟨⟨q, la, rv, wv, D⟩, rfl, ⟨h0, h1, h2, h3, h4, h5, h6⟩, hF⟩ := h
  exact ⟨la, rv, wv, D, h0, h1, h2, h3, h4, h5, h6, hF⟩
theorem TOk.rd (h : TOk T) (hD : D.map rOf = T.reads) : ∀ r ∈ D, r.lab.length ≤ 8 := fun r hr => h.2 (rOf r) (by rw [← hD]; exact List.mem_map.2 ⟨r, hr, rfl⟩)
theorem LkAll.key (h : LkAll w base M C F) (hx : mget M x = some T) : ∃ (j p : Nat) (la rv wv : Value) (D : List RD), j < M.length ∧ mlook M x = some (j, T) ∧ M.getD j default = (x, T) ∧ C.getD j default = ⟨p, la, rv, wv, D⟩ ∧ mget (esOf M C) x = some p ∧ base ≤ p ∧
    Bx w p 164 [la, .int .u64 T.stamp, rv, wv, .bool T.doomed] ∧ Own w base 46 1 la T.label.length (T.label.map u16v) ∧ Own w base 169 2 rv D.length (D.flatMap cellsRd) ∧ (∀ x9 ∈ D.map rdL, Own w base 46 1 x9.1 x9.2.length (x9.2.map u16v)) ∧ Own w base 9 1 wv T.writes.length (T.writes.map sv) ∧ D.map rOf = T.reads := by
  obtain ⟨h1, h2, h3, h4⟩ := h
  unfold mget at hx
  obtain ⟨⟨j, t⟩, hq, rfl⟩ := Option.map_eq_some_iff.1 hx
  have hj := mlook_some hq
  obtain ⟨hjl, hjv⟩ := List.getElem?_eq_some_iff.1 hj
  have hM : M.getD j default = (x, t) := by simp [List.getD_eq_getElem?_getD, hj]
  have hT := h2 j hjl
  obtain ⟨⟨p, la, rv, wv, D⟩, hC⟩ : ∃ c, C.getD j default = c := ⟨_, rfl⟩
  rw [hC, hM] at hT
  obtain ⟨a0, a1, a2, a3, a4, a5, a6⟩ := hT
  refine ⟨j, p, la, rv, wv, D, hjl, hq, hM, hC, ?_, a0, a1, a2, a3, a4, a5, a6⟩
  unfold mget
  rw [esOf_look h1, hq]
  simp only [Option.map_some]
  rw [hC]
theorem LocksR.hit {nn : Int} (h : LocksR w base k M F) (hg : mget M nn = some T) : ∃ m C F0 p FT, Bx w k 121 [.map (some m)] ∧ MapC (Value.int .i64) pv w m (esOf M C) ∧ LkAll w base M C F0 ∧ mget (esOf M C) nn = some p ∧ TxR w base p T FT ∧
    (∀ x, FT x → F x) ∧ (∀ w' T' FT', Gr w w' FT → TxR w' base p T' FT' → NewF w.heap.size FT FT' → Gr w w' F ∧ ∃ F2, LocksR w' base k (mput M nn T') F2 ∧ NewF w.heap.size F F2) := by
  obtain ⟨mv, C, F0, hk, hx, hM, hA, hF⟩ := h
  obtain ⟨j, p, la, rv, wv, D, hj, hl, hMj, hCj, hes, b0, b1, b2, b3, b4, b5, b6⟩ := LkAll.key hA hg
  rcases hM with ⟨rfl, he⟩ | ⟨m, rfl, hm, hM⟩
  · rw [he] at hes; cases hes
  · have hPC : PartT (C.getD j default) = PartT ⟨p, la, rv, wv, D⟩ := by rw [hCj]
    have hT0 : TxAt w base T ⟨p, la, rv, wv, D⟩ := ⟨b0, b1, b2, b3, b4, b5, b6⟩
    have hin : ∀ x, PartT ⟨p, la, rv, wv, D⟩ x → F x := fun x hx => (hF x).2 (.inr (.inr ((hA.2.2.2 x).2 ⟨j, hj, by rw [hCj]; exact hx⟩)))
    refine ⟨m, C, F0, p, PartT ⟨p, la, rv, wv, D⟩, hx, hM, hA, hes, ⟨_, rfl, hT0, fun _ => Iff.rfl⟩, hin, fun w' T' FT' E hT' hN => ?_⟩
    obtain ⟨c', hp', hT', hF'⟩ := hT'
    have hN' : ∀ x, PartT c' x → PartT (C.getD j default) x ∨ w.heap.size ≤ x := fun x hx => by rw [hPC]; exact hN x ((hF' x).2 hx)
    obtain ⟨E2, F2, hA2, hN2⟩ := hA.turn hj (n := nn) (by rw [hPC]; exact E) hT' hN'
    have hput : mput M nn T' = M.set j (nn, T') := by unfold mput; rw [hl]
    refine ⟨E2.mono fun x _ hx => (hF x).2 (.inr (.inr hx)), _, ⟨.map (some m), C.set j c', F2, hk, hx.keepG E (hT0.notBx hx (by decide) (by decide) (by decide) (by decide)), .inr ⟨m, rfl, hm, ?_⟩, by rw [hput]; exact hA2, fun x => Iff.rfl⟩, fun x hx => ?_⟩
    · rw [hput, esOf_set hA.1 (by rw [hp', hCj]) (fun _ => by rw [hMj])]
      exact hM.keepG E (hT0.notMap hM)
    · rcases hx with rfl | hx | hx
      · exact .inl ((hF x).2 (.inl rfl))
      · exact .inl ((hF x).2 (.inr (.inl hx)))
      · exact (hN2 x hx).imp (fun q => (hF x).2 (.inr (.inr q))) id
end
end Go.Proofs.Ytmhdbphpmgjpcaa
