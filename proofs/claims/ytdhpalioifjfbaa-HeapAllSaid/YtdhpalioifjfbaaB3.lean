/- Walks, written by a program: what each function of the translation hands back. -/
import Derived.Test.YtdhpalioifjfbaaB2
set_option linter.unusedVariables false
set_option linter.unusedSimpArgs false

namespace Go.Proofs.Ytdhpalioifjfbaa
open Go.Gx Go.RowKit
attribute [local irreducible] wpList wpStill Code.wp Calls

theorem mcopy_ret {dm sm : Nat} {M : AM} {w : World} (hDm : MapC (.int .u64) plv w dm []) (hSm : MapC (.int .u64) plv w sm M) (hne : dm ≠ sm) (hMn : (M.map Prod.fst).Nodup) : Ret Try.prog 48 #[(Value.map (some dm)), (Value.map (some sm))] w (fun v' w' => w.grownBy w' (some dm) ∧ ∃ M2 : AM, M2.Perm M ∧ MapC (.int .u64) plv w' dm M2) := by
 have hi_dm := hDm.lt
 have hi_sm := hSm.lt
 have hb := grown_refl w (some dm)
 refine enter (N := 16) Try.func48 rfl rfl (by simp) fun a hN hd hA => ?_
 have b : a.tmps.getD 0 undef = (Value.map (some dm)) := hA 0 (by simp)
 have c : a.tmps.getD 1 undef = (Value.map (some sm)) := hA 1 (by simp)
 clear hA
 refine zF fun _ a => zH (zG (zC hN rfl c) (op_range Try.underlying69 (zA hN rfl) hSm ?_))
 intro e d g f hI c
 have := c.size
 have hDm := hDm.keep0 c
 have hb := grow_step0 hb c
 refine zB (a _ _ (wp_block (loop_m (fun mz_ az_ w' => ∃ (Dd : List Nat), mz_ = M.length - Dd.length ∧ (Sl az_ 0 (Value.map (some dm))) ∧ (Sl az_ 7 (ptr d 0)) ∧ (w.grownBy w' (some dm)) ∧ (e.heap.size ≤ w'.heap.size) ∧ (ItC (.int .u64) plv w' d sm M Dd) ∧ (MapC (.int .u64) plv w' dm (pick M Dd))) _ hN hd ⟨[], rfl, (zL hN rfl b), (zU hN rfl), hb, (Nat.le_refl _), hI, hDm⟩ ?_)))
 rintro _ g f b d ⟨Dd, rfl, e, c, hb, l, hI, hDm⟩
 have := hb.size
 refine zF fun _ a => zH (op_next (zC b rfl c) hI (fun hall => ?_) (fun p o l f m n hI g => ?_))
 ·
  refine zW (zA b rfl) rfl (zB (a _ _ (zF fun _ a => wp_cond_false (zA b rfl) (wp_exit (then_exit (then_exit (blk_hit (end_ret (ret0 rfl d  ⟨_, rfl, ?_⟩)))))))))
  exact ⟨hb, _, pick_perm hI.rng.1 hI.rng.2 hall, hDm⟩
 have := g.size
 have hb := grow_step1 hb g zx
 refine zW (zA b rfl) rfl (zB (a _ _ (zF fun _ a => wp_cond_true (zA b rfl) (wp_skip (a _ _ (wp_block (zF fun _ a => zH ?_)))))))
 have hDl := fun j hj => hI.rng.2 j (List.mem_append.2 (.inl hj))
 refine op_entry (k := l) (v := f) (zC b rfl c) hI m (zW (zA b rfl) rfl (zW (zA b rfl) rfl (op_alloc (cs := [(.int .i64 0), (.int .i64 0)]) zero80 rfl ?_)))
 intro t x s u p r
 have := r.size
 have hb := grow_step0 hb r
 refine zD (zA b rfl) ?_
 have s := p
 refine zZ size80 (zA b rfl) (zA b rfl) rfl rfl p rfl ?_
 intro u p t
 have := t.size
 have hDm := ((hDm.keep g sB).keep0 r).keepB s t
 have hb := grow_step1 hb t zx
 refine zB (a _ _ (zH (zG (zC b rfl e) (zG (zA b rfl) (zY agg80 rfl (zA b rfl) p (op_mapput (k := l) (v := (f.1, f.2)) Try.underlying69 (Go.Gx.key_int Try.underlying57) (zA b rfl) (zA b rfl) (zA b rfl) hDm ?_))))))
 intro g f a
 have := a.size
 have hI := ((hI.keepG (zi r NoB) (fun h => h) (fun h => h)).keepG (Gr.of t) (fun q => by have := zE q; omega) (fun q => by have := zE q; omega)).keepG (Gr.of a) (fun q => by have := zE q; omega) (fun q => by have := zE q; omega)
 have hb := grown_trans hb a
 refine zB (blk_normal ?_)
 -- round 8T
 exact zg _ b d ⟨(Dd ++ [o]), rfl, (zL b rfl e), (zL b rfl c), hb, zx, hI, (by have h9 := f; rw [pick_put hMn m n hDl] at h9; exact h9)⟩ (by have := pick_lt hI.rng.1 hI.rng.2; simp; omega)

theorem mcopyN_ret {dm : Nat} {w : World} (hDm : MapC (.int .u64) plv w dm []) : Ret Try.prog 48 #[(Value.map (some dm)), (Value.map none)] w (fun v' w' => Below w.heap.size w w' ∧ v' = .tuple #[]) := by
 have hb := Below.refl w.heap.size w
 refine enter (N := 16) Try.func48 rfl rfl (by simp) fun a hN hd hA => ?_
 have b : a.tmps.getD 0 undef = (Value.map (some dm)) := hA 0 (by simp)
 have c : a.tmps.getD 1 undef = (Value.map none) := hA 1 (by simp)
 clear hA
 refine zF fun _ a => zH (zG (zC hN rfl c) (op_range_nil Try.underlying69 (zA hN rfl) ?_))
 intro e d g f hI c
 obtain ⟨hb, _⟩ := yE hb c
 have hDm := hDm.keep0 c
 refine zB (a _ _ (wp_block (loop_m (fun mz_ az_ w' => ∃ (c : Unit), mz_ = 0 ∧ (Sl az_ 0 (Value.map (some dm))) ∧ (Sl az_ 7 (ptr d 0)) ∧ (Below w.heap.size w w') ∧ (e.heap.size ≤ w'.heap.size) ∧ (MapC (.int .u64) plv w' dm ([] : AM)) ∧ (It0 w' d)) _ hN hd ⟨(), rfl, (zL hN rfl b), (zU hN rfl), hb, (Nat.le_refl _), hDm, hI⟩ ?_)))
 rintro _ f g b e ⟨c, rfl, h, d, hb, j, hDm, hI⟩
 have := hb.size
 refine zF fun _ a => zH (op_next_nil (zC b rfl d) hI (zW (zA b rfl) rfl (zB (a _ _ (zF fun _ a => wp_cond_false (zA b rfl) (wp_exit (then_exit (then_exit (blk_hit (end_ret (ret0 rfl e  ⟨_, rfl, ?_⟩)))))))))))
 exact ⟨hb, rfl⟩

theorem num_ret (bs : By) (vb : Value) (base p : Nat) (w : World) (hl : bs.length = 256) (hx : Bx w p 50 [vb]) (O : Own w base 5 1 vb 256 (bs.map u8v)) (k : Nat) (hk : k + 1 < 256) : Ret Try.prog 52 #[(ptr p 0), (.int .i64 ((k : Nat) : Int))] w (fun v' w' => Below w.heap.size w w' ∧ v' = .int .i64 (numB bs k : Int)) := by
 have hb := Below.refl w.heap.size w
 refine enter (N := 24) Try.func52 rfl rfl (by simp) fun a hN hd hA => ?_
 have b : a.tmps.getD 0 undef = (ptr p 0) := hA 0 (by simp)
 have c : a.tmps.getD 1 undef = (.int .i64 ((k : Nat) : Int)) := hA 1 (by simp)
 clear hA
 refine zF fun _ a => zH (zD rfl (zB (a _ _ (zF fun _ a => reg_still mixed zy ?_))))
 intro e d
 obtain ⟨hb, _⟩ := yE hb d
 have hx := hx.keep0 d
 have O := O.keep0 d
 refine st_step rfl (fun _ d => zG (zC hN rfl b) d) (st_step rfl (fun _ d => op_nil (zA hN rfl) d) (st_step rfl (fun _ d => zM fld50_0 (zA hN rfl) d) (st_step rfl (fun _ d => zN one22 (zA hN rfl) (hx.cell rfl) d) (st_step rfl (fun _ d => zG (zC hN rfl c) d) (st_index_rd slt22 (zA hN rfl) O.rdw (zA hN rfl) zx zx ?_)))))
 intro f j g h e
 refine st_step rfl (fun _ d => zN (v := (Value.int .u8 ((bs.getD k 0).toNat : Int))) one5 (zA hN rfl) (by have := e 0 (.int .u8 ((bs.getD k 0).toNat : Int)) zz (el_u8 (i := k) zx zx); simpa using this) d) (st_step rfl (fun _ d => op_conv (r := ((bs.getD k 0).toNat : Int)) (zA hN rfl) us5 Try.underlying3 (wrap_i64 (by have := ((bs.getD k 0)).toNat_lt; omega)) d) (st_step rfl (fun _ d => op_shl (r := (((bs.getD k 0).toNat : Int) * 256)) (zA hN rfl) rfl zz (shl8i (by have := (bs.getD k 0).toNat_lt; omega)) d) (st_step rfl (fun _ d => zG (zC hN rfl b) d) (st_step rfl (fun _ d => op_nil (zA hN rfl) d) (st_step rfl (fun _ d => zM fld50_0 (zA hN rfl) d) (st_step rfl (fun _ d => zN one22 (zA hN rfl) (hx.cell rfl) d) (st_step rfl (fun _ d => zG (zC hN rfl c) d) (st_step rfl (fun _ d => op_add (zA hN rfl) rfl (add64 zx) d) (st_index_rd slt22 (zA hN rfl) O.rdw (zA hN rfl) zx zx ?_)))))))))
 intro e c f g b
 refine st_step rfl (fun _ d => zN (v := (Value.int .u8 ((bs.getD (k + 1) 0).toNat : Int))) one5 (zA hN rfl) (by have := b 0 (.int .u8 ((bs.getD (k + 1) 0).toNat : Int)) zz (el_u8 (i := (k + 1)) zx zx); simpa using this) d) (st_step rfl (fun _ d => op_conv (r := ((bs.getD (k + 1) 0).toNat : Int)) (zA hN rfl) us5 Try.underlying3 (wrap_i64 (by have := ((bs.getD (k + 1) 0)).toNat_lt; omega)) d) (st_step rfl (fun _ d => op_or (r := ((numB bs k : Nat) : Int)) (zA hN rfl) (zA hN rfl) (or8i (bs.getD k 0).toNat_lt (bs.getD (k + 1) 0).toNat_lt) d) (st_step rfl (fun _ d => zD (zA hN rfl) d) (st_nil (a _ _ (wp_ret (ret1 rfl hd (zA hN rfl) ⟨_, rfl, ?_⟩)))))))
 exact ⟨hb, rfl⟩

theorem set_ret (bs : By) (vb : Value) (base p : Nat) (w : World) (hl : bs.length = 256) (hx : Bx w p 50 [vb]) (O : Own w base 5 1 vb 256 (bs.map u8v)) (k n : Nat) (hk : k + 1 < 256) (hn : n < 65536) : Ret Try.prog 42 #[(ptr p 0), (.int .i64 ((k : Nat) : Int)), (.int .i64 ((n : Nat) : Int))] w (fun v' w' => w.grownBy w' vb.ownBlock ∧ v' = .tuple #[] ∧ Own w' base 5 1 vb 256 ((setB bs k n).map u8v)) := by
 have hb := grown_refl w vb.ownBlock
 refine enter (N := 24) Try.func42 rfl rfl (by simp) fun a hN hd hA => ?_
 have b : a.tmps.getD 0 undef = (ptr p 0) := hA 0 (by simp)
 have c : a.tmps.getD 1 undef = (.int .i64 ((k : Nat) : Int)) := hA 1 (by simp)
 have d : a.tmps.getD 2 undef = (.int .i64 ((n : Nat) : Int)) := hA 2 (by simp)
 clear hA
 refine reg_mid (e := 5) (sz := 1) (base := base) (n := 256) (v := vb) (Φ := phiL [(fun uz _ => uz = (ptr p 0)), (fun uz _ => uz = (ptr p 0)), (fun uz _ => uz = (ptr p 0)), (fun uz _ => uz = vb), (fun uz _ => uz = (.int .i64 ((k : Nat) : Int))), (fun uz _ => uz = (ptr p 0)), (fun uz _ => uz = (ptr p 0)), (fun uz _ => uz = (ptr p 0)), (fun uz _ => uz = vb), (fun uz _ => uz = (.int .i64 ((k : Nat) : Int))), (fun uz _ => uz = (.int .i64 (((k : Nat) : Int) + 1))), (fun uz _ => uz = (.int .i64 ((n : Nat) : Int))), (fun uz _ => uz = (.int .i64 ((n / 2 ^ 8 : Nat) : Int))), (fun uz _ => uz = (.int .u8 ((UInt8.ofNat (n / 2 ^ 8)).toNat : Int))), (fun uz _ => uz = (.int .i64 ((n : Nat) : Int))), (fun uz _ => uz = (.int .u8 ((UInt8.ofNat n).toNat : Int))), (fun uz _ => ∃ bz oz, uz = ptr bz oz ∧ AtV vb k bz oz), (fun _ _ => True), (fun uz _ => ∃ bz oz, uz = ptr bz oz ∧ AtV vb (k + 1) bz oz), (fun _ _ => True)]) [17, 19] [(bs.map u8v), ((bs.set k (UInt8.ofNat (n / 2 ^ 8))).map u8v), (((bs.set k (UInt8.ofNat (n / 2 ^ 8))).set (k + 1) (UInt8.ofNat n)).map u8v)] mixed zy zy zy zy hN O (StL.get (StL.eq (StL.eq (StL.eq (StL.eq (StL.eq (StL.eq (StL.eq (StL.eq (StL.eq (StL.eq (StL.eq (StL.eq (StL.eq (StL.eq (StL.eq (StL.eq (StL.at (StL.cons (fun _ _ _ _ h => h) (StL.at (StL.cons (fun _ _ _ _ h => h) (StL.nil _)))))))))))))))))))))) (ObRs.get (ObRs.cons ?_ (ObRs.cons ?_ (ObRs.cons ?_ (ObRs.cons ?_ (ObRs.cons ?_ (ObRs.cons ?_ (ObRs.cons ?_ (ObRs.cons ?_ (ObRs.cons ?_ (ObRs.cons ?_ (ObRs.cons ?_ (ObRs.cons ?_ (ObRs.cons ?_ (ObRs.cons ?_ (ObRs.cons ?_ (ObRs.cons ?_ (ObRs.cons ?_ (ObRs.pass rfl (ObRs.cons ?_ (ObRs.pass rfl (ObRs.nil)))))))))))))))))))))) (ObWs.get (ObWs.cons ?_ (ObWs.cons ?_ (ObWs.nil)))) ?_
 ·
  intro aA wA cA hNA hRA hckA hOA hbsA hdpA
  have a := (hbsA 0 rfl).trans (zL hN rfl b)
  clear hbsA hdpA
  refine zG (zC hNA rfl a) ?_
  exact obR_end rfl rfl (grown_refl _ _)
 ·
  intro aA wA cA hNA hRA hckA hOA hbsA hdpA
  have f : Sl aA 6 (ptr p 0) := hdpA 0 _ 6 zy rfl rfl
  clear hbsA hdpA
  refine op_nil (zC hNA rfl f) ?_
  exact obR_end rfl rfl (grown_refl _ _)
 ·
  intro aA wA cA hNA hRA hckA hOA hbsA hdpA
  have f : Sl aA 7 (ptr p 0) := hdpA 1 _ 7 zy rfl rfl
  clear hbsA hdpA
  refine zM fld50_0 (zC hNA rfl f) ?_
  exact obR_end rfl rfl (grown_refl _ _)
 ·
  intro aA wA cA hNA hRA hckA hOA hbsA hdpA
  have f : Sl aA 8 (ptr p 0) := hdpA 2 _ 8 zy rfl rfl
  clear hbsA hdpA
  have hx := hx.keepO O hRA zz
  refine zN one22 (zC hNA rfl f) (hx.cell rfl) ?_
  exact obR_end rfl rfl (grown_refl _ _)
 ·
  intro aA wA cA hNA hRA hckA hOA hbsA hdpA
  have f := (hbsA 1 rfl).trans (zL hN rfl c)
  clear hbsA hdpA
  refine zG (zC hNA rfl f) ?_
  exact obR_end rfl rfl (grown_refl _ _)
 ·
  intro aA wA cA hNA hRA hckA hOA hbsA hdpA
  have a := (hbsA 0 rfl).trans (zL hN rfl b)
  clear hbsA hdpA
  refine zG (zC hNA rfl a) ?_
  exact obR_end rfl rfl (grown_refl _ _)
 ·
  intro aA wA cA hNA hRA hckA hOA hbsA hdpA
  have a : Sl aA 11 (ptr p 0) := hdpA 5 _ 11 zy rfl rfl
  clear hbsA hdpA
  refine op_nil (zC hNA rfl a) ?_
  exact obR_end rfl rfl (grown_refl _ _)
 ·
  intro aA wA cA hNA hRA hckA hOA hbsA hdpA
  have a : Sl aA 12 (ptr p 0) := hdpA 6 _ 12 zy rfl rfl
  clear hbsA hdpA
  refine zM fld50_0 (zC hNA rfl a) ?_
  exact obR_end rfl rfl (grown_refl _ _)
 ·
  intro aA wA cA hNA hRA hckA hOA hbsA hdpA
  have a : Sl aA 13 (ptr p 0) := hdpA 7 _ 13 zy rfl rfl
  clear hbsA hdpA
  have hx := hx.keepO O hRA zz
  refine zN one22 (zC hNA rfl a) (hx.cell rfl) ?_
  exact obR_end rfl rfl (grown_refl _ _)
 ·
  intro aA wA cA hNA hRA hckA hOA hbsA hdpA
  have f := (hbsA 1 rfl).trans (zL hN rfl c)
  clear hbsA hdpA
  refine zG (zC hNA rfl f) ?_
  exact obR_end rfl rfl (grown_refl _ _)
 ·
  intro aA wA cA hNA hRA hckA hOA hbsA hdpA
  have a : Sl aA 15 (.int .i64 ((k : Nat) : Int)) := hdpA 9 _ 15 zy rfl rfl
  clear hbsA hdpA
  refine op_add (zC hNA rfl a) rfl (add64 zx) ?_
  exact obR_end rfl rfl (grown_refl _ _)
 ·
  intro aA wA cA hNA hRA hckA hOA hbsA hdpA
  have a := (hbsA 2 rfl).trans (zL hN rfl d)
  clear hbsA hdpA
  refine zG (zC hNA rfl a) ?_
  exact obR_end rfl rfl (grown_refl _ _)
 ·
  intro aA wA cA hNA hRA hckA hOA hbsA hdpA
  have b : Sl aA 17 (.int .i64 ((n : Nat) : Int)) := hdpA 11 _ 17 zy rfl rfl
  clear hbsA hdpA
  refine op_shr (r := ((n / 2 ^ 8 : Nat) : Int)) (zC hNA rfl b) rfl zz (shr_nat rfl zz) ?_
  exact obR_end rfl rfl (grown_refl _ _)
 ·
  intro aA wA cA hNA hRA hckA hOA hbsA hdpA
  have b : Sl aA 18 (.int .i64 ((n / 2 ^ 8 : Nat) : Int)) := hdpA 12 _ 18 zy rfl rfl
  clear hbsA hdpA
  refine op_conv (r := ((UInt8.ofNat (n / 2 ^ 8)).toNat : Int)) (zC hNA rfl b) us3 Try.underlying5 conv_u8 ?_
  exact obR_end rfl rfl (grown_refl _ _)
 ·
  intro aA wA cA hNA hRA hckA hOA hbsA hdpA
  have a := (hbsA 2 rfl).trans (zL hN rfl d)
  clear hbsA hdpA
  refine zG (zC hNA rfl a) ?_
  exact obR_end rfl rfl (grown_refl _ _)
 ·
  intro aA wA cA hNA hRA hckA hOA hbsA hdpA
  have a : Sl aA 20 (.int .i64 ((n : Nat) : Int)) := hdpA 14 _ 20 zy rfl rfl
  clear hbsA hdpA
  refine op_conv (r := ((UInt8.ofNat n).toNat : Int)) (zC hNA rfl a) us3 Try.underlying5 conv_u8 ?_
  exact obR_end rfl rfl (grown_refl _ _)
 ·
  intro aA wA cA hNA hRA hckA hOA hbsA hdpA
  have a : Sl aA 9 vb := hdpA 3 _ 9 zy rfl rfl
  have b : Sl aA 10 (.int .i64 ((k : Nat) : Int)) := hdpA 4 _ 10 zy rfl rfl
  clear hbsA hdpA
  refine op_index_own (i := k) slt22 (zC hNA rfl a) hOA (zC hNA rfl b) zx zx ?_
  intro b_ o_ _ hA_
  exact obR_end rfl ⟨b_, o_, rfl, by simpa using hA_⟩ (grown_refl _ _)
 ·
  intro aA wA cA hNA hRA hckA hOA hbsA hdpA
  have a : Sl aA 14 vb := hdpA 8 _ 14 zy rfl rfl
  have b : Sl aA 16 (.int .i64 (((k : Nat) : Int) + 1)) := hdpA 10 _ 16 zy rfl rfl
  clear hbsA hdpA
  refine op_index_own (i := (k + 1)) slt22 (zC hNA rfl a) hOA (zC hNA rfl b) zx zx ?_
  intro b_ o_ _ hA_
  exact obR_end rfl ⟨b_, o_, rfl, by simpa using hA_⟩ (grown_refl _ _)
 ·
  intro o_ ho_; obtain rfl := zE ho_; intro aA wA hNA hRA hbsA hdpA hOA
  obtain ⟨d, c, b, a⟩ := hdpA 16 _ 22 zy rfl rfl
  have c : Sl aA 19 (.int .u8 ((UInt8.ofNat (n / 2 ^ 8)).toNat : Int)) := hdpA 13 _ 19 zy rfl rfl
  clear hbsA hdpA
  have hOA : Own wA base 5 1 vb 256 (bs.map u8v) := hOA
  refine op_store_own (vs := [(.int .u8 ((UInt8.ofNat (n / 2 ^ 8)).toNat : Int))]) size5 (zC hNA rfl b) (zC hNA rfl c) rfl rfl rfl hOA a (by have := hOA.1; simp at this ⊢; omega) ?_
  intro w_ hO_ E_
  exact obW_end rfl (hO_.cast rfl (set_u8 (by first | omega | (simp; omega)))) E_
 ·
  intro o_ ho_; obtain rfl := zE ho_; intro aA wA hNA hRA hbsA hdpA hOA
  obtain ⟨d, c, a, b⟩ := hdpA 18 _ 23 zy rfl rfl
  have c : Sl aA 21 (.int .u8 ((UInt8.ofNat n).toNat : Int)) := hdpA 15 _ 21 zy rfl rfl
  clear hbsA hdpA
  have hOA : Own wA base 5 1 vb 256 ((bs.set k (UInt8.ofNat (n / 2 ^ 8))).map u8v) := hOA
  refine op_store_own (vs := [(.int .u8 ((UInt8.ofNat n).toNat : Int))]) size5 (zC hNA rfl a) (zC hNA rfl c) rfl rfl rfl hOA b (by have := hOA.1; simp at this ⊢; omega) ?_
  intro w_ hO_ E_
  exact obW_end rfl (hO_.cast rfl (set_u8 (by first | omega | (simp; omega)))) E_
 intro l d j a g f b c
 have a := a.trans hd
 clear g f
 have b : Own d base 5 1 vb 256 (((bs.set k (UInt8.ofNat (n / 2 ^ 8))).set (k + 1) (UInt8.ofNat n)).map u8v) := b
 have := c.size
 have hb := grow_stepX hb c rfl
 refine end_ret (ret0 rfl a  ⟨_, rfl, ?_⟩)
 exact ⟨hb, rfl, b⟩

theorem pts_ret (bs : By) (vb : Value) (base p : Nat) (w : World) (hl : bs.length = 256) (hx : Bx w p 50 [vb]) (O : Own w base 5 1 vb 256 (bs.map u8v)) (k a n : Nat) (hk : k < 62) (ha : a < 65536) (hn : n < 65536) : Ret Try.prog 41 #[(ptr p 0), (.int .i64 ((k : Nat) : Int)), (.int .i64 ((a : Nat) : Int)), (.int .i64 ((n : Nat) : Int))] w (fun v' w' => w.grownBy w' vb.ownBlock ∧ v' = .tuple #[] ∧ Own w' base 5 1 vb 256 ((ptsB bs k a n).map u8v)) := by
 have hb := grown_refl w vb.ownBlock
 refine enter (N := 21) Try.func41 rfl rfl (by simp) fun b hN hd hA => ?_
 have c : b.tmps.getD 0 undef = (ptr p 0) := hA 0 (by simp)
 have d : b.tmps.getD 1 undef = (.int .i64 ((k : Nat) : Int)) := hA 1 (by simp)
 have e : b.tmps.getD 2 undef = (.int .i64 ((a : Nat) : Int)) := hA 2 (by simp)
 have f : b.tmps.getD 3 undef = (.int .i64 ((n : Nat) : Int)) := hA 3 (by simp)
 clear hA
 refine zF fun _ b => zH ?_
 refine zG (zC hN rfl c) (zG (zC hN rfl d) (op_mul (zA hN rfl) rfl (mul64 zx) (op_add rfl (zA hN rfl) (add64 zx) (zG (zC hN rfl e) (zj ok42 (set_ret bs _ _ _ _ (by first | assumption | exact Rep.len (by assumption)) hx O (8 + (k * 4)) a zx zx) ⟨(zA hN rfl), ⟨(zA hN rfl), ⟨(zA hN rfl), trivial⟩⟩⟩ ?_)))))
 rintro _ h ⟨e, rfl, g⟩
 have := e.size
 have hx := hx.keepO O e zz
 have hb := grow_stepX hb e rfl
 have e : (setB bs (8 + (k * 4)) a).length = 256 := (setB_len _ _ _).trans (by first | assumption | exact Rep.len (by assumption))
 refine zB (b _ _ (zH (zG (zC hN rfl c) ?_)))
 refine zG (zC hN rfl d) (op_mul (zA hN rfl) rfl (mul64 zx) (op_add rfl (zA hN rfl) (add64 zx) (op_add (zA hN rfl) rfl (add64 zx) (zG (zC hN rfl f) (zj ok42 (set_ret (setB bs (8 + (k * 4)) a) _ _ _ _ (by first | assumption | exact Rep.len (by assumption)) hx g ((8 + (k * 4)) + 2) n zx zx) ⟨(zA hN rfl), ⟨(zA hN rfl), ⟨(zA hN rfl), trivial⟩⟩⟩ ?_)))))
 rintro _ d ⟨b, rfl, c⟩
 have := b.size
 have hb := grow_stepX hb b rfl
 have b : (setB (setB bs (8 + (k * 4)) a) ((8 + (k * 4)) + 2) n).length = 256 := (setB_len _ _ _).trans (by first | assumption | exact Rep.len (by assumption))
 refine zB (end_ret (ret0 rfl hd  ⟨_, rfl, ?_⟩))
 exact ⟨hb, rfl, c⟩

theorem many_ret (bs : By) (vb : Value) (base p : Nat) (w : World) (hl : bs.length = 256) (hx : Bx w p 50 [vb]) (O : Own w base 5 1 vb 256 (bs.map u8v)) (L : List By) (R : Rep bs L) : Ret Try.prog 37 #[(ptr p 0)] w (fun v' w' => Below w.heap.size w w' ∧ v' = .int .i64 (L.length : Int)) := by
 have hb := Below.refl w.heap.size w
 refine enter (N := 5) Try.func37 rfl rfl (by simp) fun a hN hd hA => ?_
 have b : a.tmps.getD 0 undef = (ptr p 0) := hA 0 (by simp)
 clear hA
 refine zF fun _ a => zH ?_
 refine zD rfl (zB (a _ _ (zF fun _ a => zH (zG (zC hN rfl b) (zj ok52 (num_ret bs _ _ _ _ (by first | assumption | exact Rep.len (by assumption)) hx O 0 zx) ⟨(zA hN rfl), ⟨rfl, trivial⟩⟩ ?_)))))
 rintro _ c ⟨b, rfl⟩
 have b := zQ b
 obtain ⟨hb, _⟩ := yE hb b
 refine zD (zA hN rfl) (zB (a _ _ (wp_ret (ret1 rfl hd (zA hN rfl) ⟨_, rfl, ?_⟩))))
 exact ⟨hb, by rw [R.many]⟩

theorem at_ret (bs : By) (vb : Value) (base p : Nat) (w : World) (hl : bs.length = 256) (hx : Bx w p 50 [vb]) (O : Own w base 5 1 vb 256 (bs.map u8v)) (k : Nat) (hk : k < 62) : Ret Try.prog 43 #[(ptr p 0), (.int .i64 ((k : Nat) : Int))] w (fun v' w' => Below w.heap.size w w' ∧ v' = .int .i64 (numB bs (8 + k * 4) : Int)) := by
 have hb := Below.refl w.heap.size w
 refine enter (N := 10) Try.func43 rfl rfl (by simp) fun a hN hd hA => ?_
 have b : a.tmps.getD 0 undef = (ptr p 0) := hA 0 (by simp)
 have c : a.tmps.getD 1 undef = (.int .i64 ((k : Nat) : Int)) := hA 1 (by simp)
 clear hA
 refine zF fun _ a => zH (zD rfl (zB (a _ _ (zF fun _ a => ?_))))
 refine zH (zG (zC hN rfl b) (zG (zC hN rfl c) (op_mul (zA hN rfl) rfl (mul64 zx) (op_add rfl (zA hN rfl) (add64 zx) (zj ok52 (num_ret bs _ _ _ _ (by first | assumption | exact Rep.len (by assumption)) hx O (8 + (k * 4)) zx) ⟨(zA hN rfl), ⟨(zA hN rfl), trivial⟩⟩ ?_)))))
 rintro _ c ⟨b, rfl⟩
 have b := zQ b
 obtain ⟨hb, _⟩ := yE hb b
 refine zD (zA hN rfl) (zB (a _ _ (wp_ret (ret1 rfl hd (zA hN rfl) ⟨_, rfl, ?_⟩))))
 exact ⟨hb, rfl⟩

theorem size_ret (bs : By) (vb : Value) (base p : Nat) (w : World) (hl : bs.length = 256) (hx : Bx w p 50 [vb]) (O : Own w base 5 1 vb 256 (bs.map u8v)) (L : List By) (R : Rep bs L) (s : Int) (hs : -9223372036854775808 ≤ s ∧ s ≤ 9223372036854775807) : Ret Try.prog 38 #[(ptr p 0), (.int .i64 s)] w (fun v' w' => Below w.heap.size w w' ∧ v' = .int .i64 (sizeL L s : Int)) := by
 have hb := Below.refl w.heap.size w
 refine enter (N := 19) Try.func38 rfl rfl (by simp) fun a hN hd hA => ?_
 have c : a.tmps.getD 0 undef = (ptr p 0) := hA 0 (by simp)
 have d : a.tmps.getD 1 undef = (.int .i64 s) := hA 1 (by simp)
 clear hA
 refine zF fun _ e => zH (zD rfl (zB (e _ _ (zF fun _ e => zF fun _ a => zH (zG (zC hN rfl d) (op_lss (zA hN rfl) rfl (fun f => ?_) (fun f => ?_)))))))
 ·
  refine zG (zA hN rfl) (zR (j := 2) (dj := 7) (b := false) rfl rfl rfl (zA hN rfl) rfl rfl (zR (j := 2) (dj := 7) (b := false) rfl rfl rfl (zA hN rfl) rfl rfl ?_))
  refine zR (j := 2) (dj := 7) (b := false) rfl rfl rfl (zA hN rfl) rfl rfl (zR (j := 2) (dj := 7) (b := false) rfl rfl rfl (zA hN rfl) rfl rfl (zc (zA hN rfl) rfl (zB (a _ _ (wp_cond_true (zA hN rfl) (zF fun _ a => zH (zD rfl (zB (a _ _ (wp_ret (zO ( (ret1 rfl hd (zA hN rfl) ⟨_, rfl, ?_⟩)))))))))))))
  exact ⟨hb, congrArg (Value.int .i64) (by rw [sizeL_out zx]; rfl)⟩
 refine zG (zA hN rfl) ?_
 refine zS (j := 2) (dj := 7) (b := false) rfl rfl rfl (zA hN rfl) (zG (zC hN rfl d) (zS (j := 2) (dj := 7) (b := false) rfl rfl rfl (zA hN rfl) (zG (zC hN rfl c) (zS (j := 2) (dj := 7) (b := false) rfl rfl rfl (zA hN rfl) (zj ok37 (many_ret bs _ _ _ _ (by first | assumption | exact Rep.len (by assumption)) hx O L R) ⟨(zA hN rfl), trivial⟩ ?_)))))
 rintro _ g ⟨f, rfl⟩
 have f := zQ f
 obtain ⟨hb, _⟩ := yE hb f
 have hx := hx.keep0 f
 have O := O.keep0 f
 have f := Rep.fits R
 refine zS (j := 2) (dj := 7) (b := false) rfl rfl rfl (zA hN rfl) (op_geq (zA hN rfl) (zA hN rfl) (fun f => ?_) (fun f => ?_))
 ·
  refine zd (zA hN rfl) (zA hN rfl) (zB (a _ _ (wp_cond_true (zA hN rfl) (zF fun _ a => zH (zD rfl (zB (a _ _ (wp_ret (zO ( (ret1 rfl hd (zA hN rfl) ⟨_, rfl, ?_⟩)))))))))))
  exact ⟨hb, congrArg (Value.int .i64) (by rw [sizeL_out zx]; rfl)⟩
 refine zd (zA hN rfl) (zA hN rfl) (zB (a _ _ (wp_cond_false (zA hN rfl) (wp_skip (e _ _ (zF fun _ e => zH ?_))))))
 refine zG (zC hN rfl c) (zG ((zC hN rfl d).trans (congrArg (Value.int .i64) (show _ = ((s.toNat : Nat) : Int) by omega))) (op_mul (zA hN rfl) rfl (mul64 zx) (op_add rfl (zA hN rfl) (add64 zx) (op_add (zA hN rfl) rfl (add64 zx) (zj ok52 (num_ret bs _ _ _ _ (by first | assumption | exact Rep.len (by assumption)) hx O ((8 + (s.toNat * 4)) + 2) zx) ⟨(zA hN rfl), ⟨(zA hN rfl), trivial⟩⟩ ?_)))))
 rintro _ c ⟨a, rfl⟩
 have a := zQ a
 obtain ⟨hb, _⟩ := yE hb a
 refine zD (zA hN rfl) (zB (e _ _ (wp_ret (ret1 rfl hd (zA hN rfl) ⟨_, rfl, ?_⟩))))
 exact ⟨hb, congrArg (Value.int .i64) (by rw [R.size zx]; unfold sizeL; rw [if_neg zx])⟩

theorem left_ret (bs : By) (vb : Value) (base p : Nat) (w : World) (hl : bs.length = 256) (hx : Bx w p 50 [vb]) (O : Own w base 5 1 vb 256 (bs.map u8v)) (L : List By) (R : Rep bs L) (m : Nat) (hm : m ≤ 1000) : Ret Try.prog 39 #[(ptr p 0), (.int .i64 ((m : Nat) : Int))] w (fun v' w' => Below w.heap.size w w' ∧ v' = .int .i64 (leftL L m)) := by
 have hb := Below.refl w.heap.size w
 refine enter (N := 22) Try.func39 rfl rfl (by simp) fun a hN hd hA => ?_
 have b : a.tmps.getD 0 undef = (ptr p 0) := hA 0 (by simp)
 have c : a.tmps.getD 1 undef = (.int .i64 ((m : Nat) : Int)) := hA 1 (by simp)
 clear hA
 refine zF fun _ a => zH (zD rfl (zB (a _ _ (zF fun _ a => zH (zG (zC hN rfl c) (op_mul (zA hN rfl) rfl (mul64 zx) (op_sub rfl (zA hN rfl) (sub64 zx) (zD (zA hN rfl) ?_))))))))
 refine zB (a _ _ (zF fun _ a => zF fun _ c => zH (zG (zC hN rfl b) (zj ok37 (many_ret bs _ _ _ _ (by first | assumption | exact Rep.len (by assumption)) hx O L R) ⟨(zA hN rfl), trivial⟩ ?_))))
 rintro _ e ⟨d, rfl⟩
 have d := zQ d
 obtain ⟨hb, _⟩ := yE hb d
 have hx := hx.keep0 d
 have O := O.keep0 d
 have d := Rep.fits R
 refine zG rfl (zB (c _ _ (wp_block (loop_m (fun mz_ az_ w' => ∃ (s : Nat), mz_ = L.length - s ∧ (Sl az_ 0 (ptr p 0)) ∧ (Sl az_ 4 (.int .i64 0)) ∧ (Sl az_ 11 (.int .i64 ((L.length : Nat) : Int))) ∧ (Sl az_ 12 (.int .i64 ((s : Nat) : Int))) ∧ (Sl az_ 5 (.int .i64 (248 - ((m : Nat) : Int) * 4 - ((sumL (L.take s) : Nat) : Int)))) ∧ (s ≤ L.length) ∧ (Below w.heap.size w w') ∧ (e.heap.size ≤ w'.heap.size) ∧ (Bx w' p 50 [vb]) ∧ (Own w' base 5 1 vb 256 (bs.map u8v))) _ hN hd ⟨0, rfl, (zL hN rfl b), (zU hN rfl), (zU hN rfl), (zU hN rfl), (zU hN rfl).trans (congrArg (Value.int .i64) (by rw [List.take_zero, show sumL [] = 0 from rfl]; omega)), Nat.zero_le _, hb, (Nat.le_refl _), hx, O⟩ ?_))))
 rintro _ n k b e ⟨s, rfl, h, j, f, d, g, hs, hb, l, hx, O⟩
 have := hb.size
 refine zF fun _ c => zH (op_lss (zC b rfl d) (zC b rfl f) (fun k => ?_) (fun k => ?_))
 ·
  refine zB (c _ _ (zF fun _ c => wp_cond_true (zA b rfl) (wp_skip (c _ _ (zF fun _ c => wp_block (zF fun _ k => zH (zG (zC b rfl d) (zD (zA b rfl) (zB (k _ _ (zH ?_)))))))))))
  have hts := sumL_take_le L s
  have k := R.sum
  refine zG (zC b rfl g) (zG (zC b rfl h) (zG (zA b rfl) (zj ok38 (size_ret bs _ _ _ _ (by first | assumption | exact Rep.len (by assumption)) hx O L R ((s : Nat) : Int) zx) ⟨(zA b rfl), ⟨(zA b rfl), trivial⟩⟩ ?_)))
  rintro _ l ⟨k, rfl⟩
  have k := zQ k
  obtain ⟨hb, _⟩ := yE hb k
  have hx := hx.keep0 k
  have O := O.keep0 k
  have k := sizeL_le R ((s : Nat) : Int)
  refine op_sub (zA b rfl) (zA b rfl) (sub64 zx) (zD (zA b rfl) (zB (c _ _ (zH (op_add (zC b rfl d) rfl (add64 zx) (zG (zA b rfl) (zB ?_)))))))
  -- round 13T
  have hst := sumL_step (L := L) (i := s) zx
  have hsi := sizeL_in (L := L) (s := s) zx
  exact zg _ b e ⟨s + 1, rfl, (zL b rfl h), (zL b rfl j), (zL b rfl f), (zU b rfl).trans (congrArg (Value.int .i64) zx), (zU b rfl).trans (congrArg (Value.int .i64) zx), zx, hb, zx, hx, O⟩ zx
 refine zB (c _ _ (zF fun _ c => wp_cond_false (zA b rfl) (wp_exit (then_exit (then_exit (blk_hit (a _ _ (zF fun _ a => zH (zG (zC b rfl g) (zD (zA b rfl) (zB (a _ _ (wp_ret (ret1 rfl e (zA b rfl) ⟨_, rfl, ?_⟩))))))))))))))
 exact ⟨hb, congrArg (Value.int .i64) (by rw [List.take_of_length_le zx]; rfl)⟩

theorem ready0_ret (vb : Value) (base p : Nat) (w : World) (hx : Bx w p 50 [vb]) (O : Own w base 5 1 vb 0 []) : Ret Try.prog 36 #[(ptr p 0)] w (fun v' w' => w.grownBy w' (some p) ∧ v' = .tuple #[] ∧ ∃ u, Bx w' p 50 [u] ∧ Own w' w.heap.size 5 1 u 256 (newB.map u8v)) := by
 have hb := grown_refl w (some p)
 refine enter (N := 14) Try.func36 rfl rfl (by simp) fun a hN hd hA => ?_
 have b : a.tmps.getD 0 undef = (ptr p 0) := hA 0 (by simp)
 clear hA
 refine zF fun _ a => ?_
 refine zH (zG (zC hN rfl b) (op_nil (zA hN rfl) (zM fld50_0 (zA hN rfl) (zN one22 (zA hN rfl) (hx.cell rfl) (op_len_rd Try.underlying22 (zA hN rfl) O.rdw (op_bin (v := .bool true) (zA hN rfl) rfl (by rw [binOp_eql]; rfl) (zB (a _ _ (wp_cond_true (zA hN rfl) (zF fun _ a => zH (zG (zC hN rfl b) (op_make (n := 256) (y' := .const undef) slt22 rfl rfl rfl zx zx hb.size ?_))))))))))))
 intro e f c d g
 have := d.size
 have hx := hx.keep0 d
 have hb := grow_step0 hb d
 have c : Own f w.heap.size 5 1 e 256 (((List.replicate 256 0 : By)).map u8v) := by exact c.cast rfl (zeros_u8 _)
 refine op_nil (zA hN rfl) (zM fld50_0 (zA hN rfl) ?_)
 have hx_old := hx
 refine za (vs := [e]) (cs' := [e]) size22 (zA hN rfl) (zA hN rfl) c.cl rfl (by simp only [yA, yB, yC, yD, c.one]; try rfl) hx (zI rfl) rfl ?_
 intro e hx d
 have := d.size
 have c := c.keepX hx_old d zz
 have hb := grown_trans hb d
 refine zB (a _ _ (zH (zG (zC hN rfl b) ?_)))
 have a : (List.replicate 256 0 : By).length = 256 := List.length_replicate
 refine zj ok42 (set_ret (List.replicate 256 0 : By) _ _ _ _ (by first | assumption | exact Rep.len (by assumption)) hx c 2 256 zx zx) ⟨(zA hN rfl), ⟨rfl, ⟨rfl, trivial⟩⟩⟩ ?_
 rintro _ d ⟨a, rfl, b⟩
 have := a.size
 have hx := hx.keepO c a zz
 have hb := grow_stepO hb c a zx
 have a : (setB (List.replicate 256 0 : By) 2 256).length = 256 := (setB_len _ _ _).trans (by first | assumption | exact Rep.len (by assumption))
 refine zB (end_ret (ret0 rfl hd  ⟨_, rfl, ?_⟩))
 exact ⟨hb, rfl, _, hx, b⟩

theorem ready1_ret (bs : By) (vb : Value) (base p : Nat) (w : World) (hl : bs.length = 256) (hx : Bx w p 50 [vb]) (O : Own w base 5 1 vb 256 (bs.map u8v))  : Ret Try.prog 36 #[(ptr p 0)] w (fun v' w' => Below w.heap.size w w' ∧ v' = .tuple #[]) := by
 have hb := Below.refl w.heap.size w
 refine enter (N := 14) Try.func36 rfl rfl (by simp) fun a hN hd hA => ?_
 have b : a.tmps.getD 0 undef = (ptr p 0) := hA 0 (by simp)
 clear hA
 refine zF fun _ a => zH (zG (zC hN rfl b) (op_nil (zA hN rfl) (zM fld50_0 (zA hN rfl) (zN one22 (zA hN rfl) (hx.cell rfl) (op_len_rd Try.underlying22 (zA hN rfl) O.rdw (op_bin (v := .bool false) (zA hN rfl) rfl (by rw [binOp_eql]; rfl) (zB (a _ _ (wp_cond_false (zA hN rfl) (wp_skip (end_ret (ret0 rfl hd  ⟨_, rfl, ?_⟩))))))))))))
 exact ⟨hb, rfl⟩

theorem ready_ret (L : List By) (bs : By) (n : Nat) (vb : Value) (base p : Nat) (w : World) (hbase : base ≤ w.heap.size) (hx : Bx w p 50 [vb]) (O : Own w base 5 1 vb n (bs.map u8v)) (hP : Pg n bs L vb) : Ret Try.prog 36 #[ptr p 0] w (fun v' w' => w.grownBy w' (pgRow p n vb) ∧ v' = .tuple #[] ∧ ∃ u bs', Bx w' p 50 [u] ∧ Own w' base 5 1 u 256 (bs'.map u8v) ∧ Rep bs' L ∧ RowOr u (pgRow p n vb) w.heap.size) := by
  rcases hP with ⟨rfl, rfl, rfl, _⟩ | ⟨rfl, R⟩
  · exact (ready0_ret vb base p w hx O).mono fun v' w' ⟨E, hv, u, hx', O'⟩ => ⟨E, hv, u, newB, hx', O'.mono hbase, Rep.new, .inr fun k hk => (O'.lt k hk).1⟩
  · exact (ready1_ret bs vb base p w R.len hx O).mono fun v' w' ⟨hb, hv⟩ => ⟨grown_any (zQ hb) _, hv, vb, bs, hx.keep0 (zQ hb), O.keep0 (zQ hb), R, .inl rfl⟩

theorem packs_ret (bs : By) (vb : Value) (base p : Nat) (w : World) (hl : bs.length = 256) (hx : Bx w p 50 [vb]) (O : Own w base 5 1 vb 256 (bs.map u8v)) (L : List By) (R : Rep bs L) : Ret Try.prog 53 #[(ptr p 0)] w (fun v' w' => w.grownBy w' vb.ownBlock ∧ v' = .tuple #[] ∧ ∃ bs', Own w' base 5 1 vb 256 (bs'.map u8v) ∧ Rep bs' L ∧ numB bs' 2 + sumL L = 256) := by
 have hvk : ∀ k, vb.ownBlock = some k → k < w.heap.size := fun k hk => (O.lt k hk).2
 have hfit : 8 + L.length * 4 + sumL L ≤ 256 := by have := R.fit; have := R.sum; omega
 have hb := grown_refl w vb.ownBlock
 refine enter (N := 62) Try.func53 rfl rfl (by simp) fun a hN hd hA => ?_
 have b : a.tmps.getD 0 undef = (ptr p 0) := hA 0 (by simp)
 clear hA
 refine zF fun _ a => zH (zD rfl ?_)
 refine zB (a _ _ (zF fun _ a => zF fun _ f => zH (zG (zC hN rfl b) (zj ok37 (many_ret bs _ _ _ _ (by first | assumption | exact Rep.len (by assumption)) hx O L R) ⟨(zA hN rfl), trivial⟩ ?_))))
 rintro _ g ⟨j, rfl⟩
 have j := zQ j
 have := j.size
 have hx := hx.keep0 j
 have O := O.keep0 j
 have hb := grow_step0 hb j
 have j := Rep.fits R
 refine zG rfl (zB (f _ _ (wp_block (loop_m (fun mz_ az_ w' => ∃ (s : Nat) (u : Value) (acc : List ByV), mz_ = L.length - s ∧ (Sl az_ 0 (ptr p 0)) ∧ (Sl az_ 8 (.int .i64 ((L.length : Nat) : Int))) ∧ (Sl az_ 9 (.int .i64 ((s : Nat) : Int))) ∧ (Sl az_ 2 u) ∧ (s ≤ L.length) ∧ (acc.map Prod.snd = L.take s) ∧ (w.grownBy w' vb.ownBlock) ∧ (g.heap.size ≤ w'.heap.size) ∧ (Bx w' p 50 [vb]) ∧ (Own w' base 5 1 vb 256 (bs.map u8v)) ∧ (∀ j ∈ acc, Own w' w.heap.size 5 1 j.1 j.2.length (j.2.map u8v)) ∧ (Own w' w.heap.size 22 1 u s (acc.flatMap (fun j => [j.1])))) _ hN hd ⟨0, _, [], rfl, (zL hN rfl b), (zU hN rfl), (zU hN rfl), (zU hN rfl), Nat.zero_le _, rfl, hb, (Nat.le_refl _), hx, O, (fun j l => absurd l List.not_mem_nil), (Own.nil _ _ _ _)⟩ ?_))))
 rintro _ B b m y ⟨s, u, acc, rfl, q, x, t, z, hs, hacc, hb, A, hx, O, hall, o⟩
 have := hb.size
 refine zF fun _ f => zH (op_lss (zC m rfl t) (zC m rfl x) (fun A => ?_) (fun A => ?_))
 ·
  refine zB (f _ _ (zF fun _ f => wp_cond_true (zA m rfl) (wp_skip (f _ _ (zF fun _ f => wp_block (zF fun _ A => zH (zG (zC m rfl t) (zD (zA m rfl) (zB (A _ _ ?_))))))))))
  have hsi := sizeL_in (L := L) (s := s) zx
  have hrc := (R.recs s zx).2.1
  have hgt := R.get (s := s) zx
  have O_s := O
  refine reg_split (hd := [_, _, _, _, _, _, _, _, _, _, _, _, _, _, _, _, _, _, _]) (tl := _) 19 mixed zy rfl rfl ?_
  refine any_chain (Φ := phiC [(fun _ _ uz _ => uz = u), chP 0, (fun _ _ uz _ => uz = (ptr p 0)), (fun _ _ uz _ => uz = (ptr p 0)), (fun _ _ uz _ => uz = (ptr p 0)), (fun _ _ uz _ => uz = vb), (fun _ _ uz _ => uz = (ptr p 0)), (fun _ _ uz _ => uz = (.int .i64 ((s : Nat) : Int))), (fun _ _ uz _ => uz = (.int .i64 (((numB bs (8 + s * 4)) : Nat) : Int))), (fun _ _ uz _ => uz = (ptr p 0)), (fun _ _ uz _ => uz = (.int .i64 ((s : Nat) : Int))), (fun _ _ uz _ => uz = (.int .i64 (((numB bs (8 + s * 4)) : Nat) : Int))), (fun _ _ uz _ => uz = (ptr p 0)), (fun _ _ uz _ => uz = (.int .i64 ((s : Nat) : Int))), (fun _ _ uz _ => uz = (.int .i64 (((sizeL L ((s : Nat) : Int)) : Nat) : Int))), (fun _ _ uz _ => uz = (.int .i64 ((((numB bs (8 + s * 4)) : Nat) : Int) + (((sizeL L ((s : Nat) : Int)) : Nat) : Int)))), (fun _ vz uz w' => ∃ (J : Value), uz = J ∧ RdC w' base b.heap.size 1 J ((L.getD s []).length) (((L.getD s [])).map u8v) ∧ (b.heap.size ≤ w'.heap.size ∧ ∀ k, vz.ownBlock = some k → b.heap.size ≤ k)), chQ 1, (fun cz vz uz w' => cz = 2 ∧  ∃ (I : Nat), uz = (.slice (some ⟨I, 0, none⟩) 1 1) ∧ b.heap.size ≤ I ∧ Bx w' I 22 [vz] ∧ vz.ownBlock ≠ some I)]) (C := CL [(fun vz w' => Own w' w.heap.size 5 1 vz 0 ([])), (fun vz w' => Own w' w.heap.size 5 1 vz 0 ([])), (fun vz w' => Own w' w.heap.size 5 1 vz (0 + ((L.getD s []).length)) (((L.getD s [])).map u8v))]) ⟨[1, 17], fun c => [62, 13, 29].getD c 62⟩ (.slice none 0 0) zy zy zy zy m (StK.get0 (n := 2) (StK.eq (StK.ch (StK.eq (StK.eq (StK.eq (StK.eq (StK.eq (StK.eq (StK.eq (StK.eq (StK.eq (StK.eq (StK.eq (StK.eq (StK.eq (StK.eq (StK.cons (fun c v u G g E h => by obtain ⟨F, hv, D, B⟩ := h; exact ⟨F, hv, D.keep0 E, ⟨Nat.le_trans B.1 E.size, B.2⟩⟩) (fun c v v' u G g _ E h => by obtain ⟨F, hv, D, B⟩ := h; exact ⟨F, hv, D.keep E.1 (fun k hk => .inr (B.2 k hk)), ⟨Nat.le_trans B.1 E.1.size, ge_step E B.1 B.2⟩⟩) (StK.chq (StK.cons (fun c v u G g E h => by obtain ⟨H, F, hv, K, D, B⟩ := h; exact ⟨H, F, hv, K, D.keep0 E, B⟩) (fun c v v' u G g H E h => absurd h.1 (Nat.ne_of_lt H)) (StK.nil))))))))))))))))))))) (StK.get1 (n := 2) (StK.eq (StK.ch (StK.eq (StK.eq (StK.eq (StK.eq (StK.eq (StK.eq (StK.eq (StK.eq (StK.eq (StK.eq (StK.eq (StK.eq (StK.eq (StK.eq (StK.cons (fun c v u G g E h => by obtain ⟨F, hv, D, B⟩ := h; exact ⟨F, hv, D.keep0 E, ⟨Nat.le_trans B.1 E.size, B.2⟩⟩) (fun c v v' u G g _ E h => by obtain ⟨F, hv, D, B⟩ := h; exact ⟨F, hv, D.keep E.1 (fun k hk => .inr (B.2 k hk)), ⟨Nat.le_trans B.1 E.1.size, ge_step E B.1 B.2⟩⟩) (StK.chq (StK.cons (fun c v u G g E h => by obtain ⟨H, F, hv, K, D, B⟩ := h; exact ⟨H, F, hv, K, D.keep0 E, B⟩) (fun c v v' u G g H E h => absurd h.1 (Nat.ne_of_lt H)) (StK.nil))))))))))))))))))))) (StL2.get0 (StL2.own (StL2.own (StL2.own (StL2.nil))))) (StL2.get1 (StL2.own (StL2.own (StL2.own (StL2.nil))))) (Own.nil b w.heap.size 5 1) (ObLn.get (ObLn.cons ?_ (ObLn.pass rfl (ObLn.cons ?_ (ObLn.cons ?_ (ObLn.cons ?_ (ObLn.cons ?_ (ObLn.cons ?_ (ObLn.cons ?_ (ObLn.cons ?_ (ObLn.cons ?_ (ObLn.cons ?_ (ObLn.cons ?_ (ObLn.cons ?_ (ObLn.cons ?_ (ObLn.cons ?_ (ObLn.cons ?_ (ObLn.cons ?_ (ObLn.pass rfl (ObLn.cons ?_ (ObLn.nil))))))))))))))))))))) (ObLc.get (ObLc.cons ?_ (ObLc.cons ?_ (ObLc.nil)))) ?_
  ·
   intro aA wA ccA cvA hNA hclA hRA hltA hvoA hbsA hdpA
   have g := (hbsA 2 rfl).trans (zL m rfl z)
   refine zG (zC hNA rfl g) ?_
   exact obNc_end rfl rfl (grown_refl _ _)
  ·
   intro aA wA ccA cvA hNA hclA hRA hltA hvoA hbsA hdpA
   have g := (hbsA 0 rfl).trans (zL m rfl q)
   refine zG (zC hNA rfl g) ?_
   exact obNc_end rfl rfl (grown_refl _ _)
  ·
   intro aA wA ccA cvA hNA hclA hRA hltA hvoA hbsA hdpA
   have B : Sl aA 14 (ptr p 0) := hdpA 2 _ 14 zy rfl rfl
   refine op_nil (zC hNA rfl B) ?_
   exact obNc_end rfl rfl (grown_refl _ _)
  ·
   intro aA wA ccA cvA hNA hclA hRA hltA hvoA hbsA hdpA
   have B : Sl aA 15 (ptr p 0) := hdpA 3 _ 15 zy rfl rfl
   refine zM fld50_0 (zC hNA rfl B) ?_
   exact obNc_end rfl rfl (grown_refl _ _)
  ·
   intro aA wA ccA cvA hNA hclA hRA hltA hvoA hbsA hdpA
   have hRA : b.grownBy wA (Value.slice none 0 0).ownBlock := hRA
   have hnil_o := (Own.nil b w.heap.size 5 1)
   have := hRA.size
   have hx := hx.keep0 hRA
   have hall := fun j l => (hall j l).keep0 hRA
   have B : Sl aA 16 (ptr p 0) := hdpA 4 _ 16 zy rfl rfl
   clear hbsA hdpA
   refine zN one22 (zC hNA rfl B) (hx.cell rfl) ?_
   exact obNc_end rfl rfl (grown_refl _ _)
  ·
   intro aA wA ccA cvA hNA hclA hRA hltA hvoA hbsA hdpA
   have g := (hbsA 0 rfl).trans (zL m rfl q)
   refine zG (zC hNA rfl g) ?_
   exact obNc_end rfl rfl (grown_refl _ _)
  ·
   intro aA wA ccA cvA hNA hclA hRA hltA hvoA hbsA hdpA
   have B := (hbsA 3 rfl).trans (zU m rfl)
   refine zG (zC hNA rfl B) ?_
   exact obNc_end rfl rfl (grown_refl _ _)
  ·
   intro aA wA ccA cvA hNA hclA hRA hltA hvoA hbsA hdpA
   have hRA : b.grownBy wA (Value.slice none 0 0).ownBlock := hRA
   have hnil_o := (Own.nil b w.heap.size 5 1)
   have := hRA.size
   have hx := hx.keep0 hRA
   have O := O.keep0 hRA
   have hall := fun j l => (hall j l).keep0 hRA
   have D : Sl aA 18 (ptr p 0) := hdpA 6 _ 18 zy rfl rfl
   have F : Sl aA 19 (.int .i64 ((s : Nat) : Int)) := hdpA 7 _ 19 zy rfl rfl
   clear hbsA hdpA
   refine zj ok43 (at_ret bs _ _ _ _ (by first | assumption | exact Rep.len (by assumption)) hx O s zx) ⟨(zC hNA rfl D), ⟨(zC hNA rfl F), trivial⟩⟩ ?_
   rintro _ F ⟨D, rfl⟩
   have D := zQ D
   have := D.size
   exact obNc_end rfl rfl (D)
  ·
   intro aA wA ccA cvA hNA hclA hRA hltA hvoA hbsA hdpA
   have g := (hbsA 0 rfl).trans (zL m rfl q)
   refine zG (zC hNA rfl g) ?_
   exact obNc_end rfl rfl (grown_refl _ _)
  ·
   intro aA wA ccA cvA hNA hclA hRA hltA hvoA hbsA hdpA
   have B := (hbsA 3 rfl).trans (zU m rfl)
   refine zG (zC hNA rfl B) ?_
   exact obNc_end rfl rfl (grown_refl _ _)
  ·
   intro aA wA ccA cvA hNA hclA hRA hltA hvoA hbsA hdpA
   have hRA : b.grownBy wA (Value.slice none 0 0).ownBlock := hRA
   have hnil_o := (Own.nil b w.heap.size 5 1)
   have := hRA.size
   have hx := hx.keep0 hRA
   have O := O.keep0 hRA
   have hall := fun j l => (hall j l).keep0 hRA
   have D : Sl aA 21 (ptr p 0) := hdpA 9 _ 21 zy rfl rfl
   have F : Sl aA 22 (.int .i64 ((s : Nat) : Int)) := hdpA 10 _ 22 zy rfl rfl
   clear hbsA hdpA
   refine zj ok43 (at_ret bs _ _ _ _ (by first | assumption | exact Rep.len (by assumption)) hx O s zx) ⟨(zC hNA rfl D), ⟨(zC hNA rfl F), trivial⟩⟩ ?_
   rintro _ F ⟨D, rfl⟩
   have D := zQ D
   have := D.size
   exact obNc_end rfl rfl (D)
  ·
   intro aA wA ccA cvA hNA hclA hRA hltA hvoA hbsA hdpA
   have g := (hbsA 0 rfl).trans (zL m rfl q)
   refine zG (zC hNA rfl g) ?_
   exact obNc_end rfl rfl (grown_refl _ _)
  ·
   intro aA wA ccA cvA hNA hclA hRA hltA hvoA hbsA hdpA
   have B := (hbsA 3 rfl).trans (zU m rfl)
   refine zG (zC hNA rfl B) ?_
   exact obNc_end rfl rfl (grown_refl _ _)
  ·
   intro aA wA ccA cvA hNA hclA hRA hltA hvoA hbsA hdpA
   have hRA : b.grownBy wA (Value.slice none 0 0).ownBlock := hRA
   have hnil_o := (Own.nil b w.heap.size 5 1)
   have := hRA.size
   have hx := hx.keep0 hRA
   have O := O.keep0 hRA
   have hall := fun j l => (hall j l).keep0 hRA
   have g : Sl aA 24 (ptr p 0) := hdpA 12 _ 24 zy rfl rfl
   have B : Sl aA 25 (.int .i64 ((s : Nat) : Int)) := hdpA 13 _ 25 zy rfl rfl
   clear hbsA hdpA
   refine zj ok38 (size_ret bs _ _ _ _ (by first | assumption | exact Rep.len (by assumption)) hx O L R ((s : Nat) : Int) zx) ⟨(zC hNA rfl g), ⟨(zC hNA rfl B), trivial⟩⟩ ?_
   rintro _ B ⟨g, rfl⟩
   have g := zQ g
   have := g.size
   have B := sizeL_le R ((s : Nat) : Int)
   exact obNc_end rfl rfl (g)
  ·
   intro aA wA ccA cvA hNA hclA hRA hltA hvoA hbsA hdpA
   have g : Sl aA 23 (.int .i64 (((numB bs (8 + s * 4)) : Nat) : Int)) := hdpA 11 _ 23 zy rfl rfl
   have B : Sl aA 26 (.int .i64 (((sizeL L ((s : Nat) : Int)) : Nat) : Int)) := hdpA 14 _ 26 zy rfl rfl
   refine op_add (zC hNA rfl g) (zC hNA rfl B) (add64 zx) ?_
   exact obNc_end rfl rfl (grown_refl _ _)
  ·
   intro aA wA ccA cvA hNA hclA hRA hltA hvoA hbsA hdpA
   have hRA : b.grownBy wA (Value.slice none 0 0).ownBlock := hRA
   have hnil_o := (Own.nil b w.heap.size 5 1)
   have := hRA.size
   have O := O.keep0 hRA
   have hall := fun j l => (hall j l).keep0 hRA
   have g : Sl aA 17 vb := hdpA 5 _ 17 zy rfl rfl
   have B : Sl aA 20 (.int .i64 (((numB bs (8 + s * 4)) : Nat) : Int)) := hdpA 8 _ 20 zy rfl rfl
   have D : Sl aA 27 (.int .i64 ((((numB bs (8 + s * 4)) : Nat) : Int) + (((sizeL L ((s : Nat) : Int)) : Nat) : Int))) := hdpA 15 _ 27 zy rfl rfl
   clear hbsA hdpA
   refine op_slice_rd (lo := ((numB bs (8 + s * 4)))) (hi := (((numB bs (8 + s * 4))) + ((sizeL L ((s : Nat) : Int))))) slt22 (zC hNA rfl g) (Own.rdB O O_s) (.inr ⟨_, _, rfl, (zC hNA rfl B)⟩) (.inr ⟨_, _, rfl, (zC hNA rfl D)⟩) zx zx ?_
   intro B g
   have g : RdC wA base b.heap.size 1 B ((L.getD s []).length) (((L.getD s [])).map u8v) := by have h9 := g; rw [hsi, Nat.add_sub_cancel_left, Nat.mul_one, Nat.mul_one, ← List.map_drop, ← List.map_take, hgt] at h9; exact h9
   exact obNc_end rfl ⟨B, rfl, g, ⟨by omega, ge_of hvoA (fun k hk => by simp [Value.ownBlock] at hk) zx⟩⟩ (grown_refl _ _)
  ·
   intro aA wA ccA cvA hNA hclA hRA hltA hvoA hbsA hdpA
   have hRA : b.grownBy wA (Value.slice none 0 0).ownBlock := hRA
   have hnil_o := (Own.nil b w.heap.size 5 1)
   have := hRA.size
   have hall := fun j l => (hall j l).keep0 hRA
   have hchA : chQ 1 ccA cvA (aA.tmps.getD 29 undef) wA := hdpA 17 _ 29 zy rfl rfl
   have hccA : ccA = 2 := Nat.le_antisymm hclA hchA.1
   have g := hchA.2.1 hccA
   have hslA : IsSl cvA := g ▸ hchA.2.2
   clear hbsA hdpA
   refine op_bslice (e := 22) (pv := [(0, cvA)]) (cs := [cvA]) ⟨rfl, (zC hNA rfl g), trivial⟩ (by obtain ⟨_, _, _, rfl⟩ := hslA.sl; kernel_rfl) ?_
   intro G D H F B g
   have := g.size
   exact obNc_end rfl ⟨hccA, D, rfl, zx, B, (fun hh => by have := hltA _ hh; omega)⟩ (g)
  ·
   intro o_ ho_; obtain rfl := zE ho_; intro aA wA cvA hNA hRA g hbsA hdpA hCA
   have hRA : b.grownBy wA (Value.slice none 0 0).ownBlock := hRA
   have hnil_o := (Own.nil b w.heap.size 5 1)
   have := hRA.size
   have hcvA : (Value.slice none 0 0) = cvA := (g rfl).symm
   subst hcvA
   clear hbsA hdpA
   refine op_bslice (e := 5) (pv := []) (cs := []) trivial zy ?_
   intro D H K G F B
   have := B.size
   exact obCc_end rfl rfl (chP_now (w := D)) (Own.ofBx (base := w.heap.size) (sz := 1) (n := 0) F rfl zz zx) ⟨B, .inr (fun k hk => by simp [Value.ownBlock] at hk; omega)⟩
  ·
   intro o_ ho_; obtain rfl := zE ho_; intro aA wA cvA hNA hRA g hbsA hdpA hCA
   have hRA : b.grownBy wA (Value.slice none 0 0).ownBlock := hRA
   have hnil_o := (Own.nil b w.heap.size 5 1)
   have := hRA.size
   have hb := grow_step0 hb hRA
   have hCA : Own wA w.heap.size 5 1 cvA 0 ([]) := hCA
   have g : aA.tmps.getD 13 undef = cvA := (show chP 0 1 cvA (aA.tmps.getD 13 undef) wA from hdpA 1 _ 13 zy rfl rfl).2 rfl
   obtain ⟨J, D, B, F⟩ := hdpA 16 _ 28 zy rfl rfl
   have B : RdC wA base b.heap.size 1 J ((L.getD s []).length) (((L.getD s [])).map u8v) := B
   clear hbsA hdpA
   have F := hCA
   refine op_append slt22 (zC hNA rfl g) F (zC hNA rfl D) (Src.ofRd Try.underlying22 zz B (by simp [Value.oneCell', u8v])) (by unfold maxLen; omega) zx hb.size ?_
   intro G D g B F
   have := B.size
   have g : Own D w.heap.size 5 1 G (0 + ((L.getD s []).length)) (((L.getD s [])).map u8v) := by simpa [u8v] using g
   exact obCc_end rfl rfl (chQ_now (w := D) ⟨g.sl⟩) g ⟨B, F⟩
  intro M F H B K G J D g P
  have K := K.trans y
  have P := (G 0 rfl).trans (zL m rfl q)
  have Q := (G 8 rfl).trans (zL m rfl x)
  have x := (G 9 rfl).trans (zL m rfl t)
  have t : Sl M 12 u := J 0 _ 12 rfl rfl
  obtain ⟨_, I, S, U, M, T⟩ := J 18 _ 30 rfl rfl
  have M : Bx F I 22 [H] := M
  have I := M.lt
  clear G J
  have g : b.grownBy F (Value.slice none 0 0).ownBlock := g
  have D : Own F w.heap.size 5 1 H (0 + ((L.getD s []).length)) (((L.getD s [])).map u8v) := D
  have g : b.grownBy F none := g
  have := g.size
  have hall := all9 hall fun _ h => h.keep0 g
  have o := o.keep0 g
  have hb := grow_step0 hb g
  refine split_end (from_seq (tl := [_, _]) zz zy rfl ?_)
  have F := o
  refine op_append slt38 (zC B rfl t) F (zC B rfl S) (Src.ofRd Try.underlying38 zz (RdC.ofBx (sz := 1) (n := 1) M rfl zz) (by simp only [yA, yB, yC, yD, D.one]; try rfl)) (by unfold maxLen; omega) zx hb.size ?_
  intro J I G t M
  have := t.size
  have hx := (hx.keep0 g).keepO F t zz
  have O := (O.keep0 g).keepT F t zz
  have hall := all9 hall fun _ h => h.keepT F t zz
  have D := D.keepT F t zz
  have hb := grow_stepO hb F t zx
  have G : Own I w.heap.size 22 1 J (s + 1) (((acc ++ [(H, (L.getD s []))])).flatMap (fun j => [j.1])) := by exact G.cast rfl (by simp)
  refine zD (zA B rfl) (zB (f _ _ (zH (op_add (zC B rfl x) rfl (add64 zx) (zG (zA B rfl) (zB ?_))))))
  -- round 10T
  exact zg _ B K ⟨s + 1, _, (acc ++ [(H, (L.getD s []))]), rfl, (zL B rfl P), (zL B rfl Q), (zU B rfl).trans (congrArg (Value.int .i64) zx), (zU B rfl), zx, (acc_snoc hacc zx), hb, zx, hx, O, (oall_snoc hall (D.cast (by first | rfl | omega | (simp; done)) (by first | rfl | (simp; done)))), (G.cast rfl (by simp))⟩ zx
 refine zB (f _ _ (zF fun _ f => wp_cond_false (zA m rfl) (wp_exit (then_exit (then_exit (blk_hit (a _ _ (zF fun _ a => zH (zD rfl (zB (a _ _ (zF fun _ a => zF fun _ f => zH ?_))))))))))))
 have hal := acc_len hacc zx
 refine zG (zC m rfl z) (op_len_rd Try.underlying38 (zA m rfl) o.rdw (zG rfl (zB (f _ _ (wp_block (loop_m (fun mz_ az_ w' => ∃ (i low : Nat) (bq : By), mz_ = L.length - i ∧ (Sl az_ 0 (ptr p 0)) ∧ (Sl az_ 33 u) ∧ (Sl az_ 34 (.int .i64 ((s : Nat) : Int))) ∧ (Sl az_ 35 (.int .i64 ((i : Nat) : Int))) ∧ (Sl az_ 4 (.int .i64 ((low : Nat) : Int))) ∧ (i ≤ L.length) ∧ (Pk bq L i low) ∧ (w.grownBy w' vb.ownBlock) ∧ (b.heap.size ≤ w'.heap.size) ∧ (Bx w' p 50 [vb]) ∧ (∀ j ∈ acc, Own w' w.heap.size 5 1 j.1 j.2.length (j.2.map u8v)) ∧ (Own w' w.heap.size 22 1 u s (acc.flatMap (fun j => [j.1]))) ∧ (Own w' base 5 1 vb 256 (bq.map u8v))) _ m y ⟨0, 256, _, rfl, (zL m rfl q), (zU m rfl), (zU m rfl), (zU m rfl), (zU m rfl), Nat.zero_le _, (Pk.start R), hb, (Nat.le_refl _), hx, hall, o, O⟩ ?_))))))
 rintro _ F B b z ⟨i, low, bq, rfl, m, y, x, g, t, hi, hk, hb, D, hx, hall, o, q⟩
 have := hb.size
 refine zF fun _ f => zH (op_lss (zC b rfl g) (zC b rfl x) (fun D => ?_) (fun D => ?_))
 ·
  refine zB (f _ _ (zF fun _ f => wp_cond_true (zA b rfl) (wp_skip (f _ _ (zF fun _ f => wp_block (zF fun _ A => zH (zG (zC b rfl g) (zh slt38 (zC b rfl y) o.rdw (zC b rfl g) zx zx ?_))))))))
  intro G H F I D
  have F : Own B w.heap.size 5 1 (acc.getD i D0).1 (acc.getD i D0).2.length ((acc.getD i D0).2.map u8v) := hall _ (getD_mem zx)
  refine zN (v := (acc.getD i D0).1) one22 (zA b rfl) (by have := D 0 (acc.getD i D0).1 zz (el_ll (i := i) (d := D0) zx zx); simpa using this) (zD (zA b rfl) (zD (zA b rfl) (zB (A _ _ (zF fun _ A => zH (zG (zC b rfl t) ?_))))))
  have hri := acc_get (i := i) hacc zx zx
  have hro := hk.room hfit (i := i) zx
  have hrl := congrArg List.length hri
  refine zG (zA b rfl) (op_len_rd Try.underlying22 (zA b rfl) F.rdw (op_sub (r := (((low - (acc.getD i D0).2.length) : Nat) : Int)) (zA b rfl) (zA b rfl) (by rw [IntKind.wrap_i64]; omega) ?_))
  refine zD (zA b rfl) (zB (A _ _ (zF fun _ A => zH (zG (zC b rfl m) (op_nil (zA b rfl) (zM fld50_0 (zA b rfl) (zN one22 (zA b rfl) (hx.cell rfl) (zG (zA b rfl) (op_slice_cut (k := (low - (acc.getD i D0).2.length)) slt22 (zA b rfl) q (zA b rfl) zx zx (zG (zA b rfl) ?_))))))))))
  have B := q
  refine op_copy_cut slt22 (zA b rfl) B (zA b rfl) F.rdw (by simp [Value.oneCell', u8v]) zx ?_
  intro H G D
  have := D.size
  have hx := hx.keepO B D zz
  have hall : ∀ j ∈ acc, Own H w.heap.size 5 1 j.1 j.2.length (j.2.map u8v) := fun j l => (hall j l).keep D (own_apart (hall j l) hvk)
  have F := F.keep D (own_apart F hvk)
  have hb := grow_stepX hb D rfl
  have G : Own H base 5 1 vb 256 (((cpB bq (low - (acc.getD i D0).2.length) (acc.getD i D0).2)).map u8v) := by exact G.cast rfl (by simp [cpB])
  refine zB (A _ _ (zH ?_))
  have hl_c : (cpB bq (low - (acc.getD i D0).2.length) (acc.getD i D0).2).length = 256 := (cp_len (by have := hk.len; omega)).trans hk.len
  refine zG (zC b rfl m) (zG (zA b rfl) (zG (zA b rfl) (zG (zA b rfl) (op_len_rd Try.underlying22 (zA b rfl) F.rdw (zj ok41 (pts_ret (cpB bq (low - (acc.getD i D0).2.length) (acc.getD i D0).2) _ _ _ _ (by first | assumption | exact Rep.len (by assumption)) hx G i (low - (acc.getD i D0).2.length) ((acc.getD i D0).2.length) zx zx zx) ⟨(zA b rfl), ⟨(zA b rfl), ⟨(zA b rfl), ⟨(zA b rfl), trivial⟩⟩⟩⟩ ?_)))))
  rintro _ F ⟨A, rfl, H⟩
  have := A.size
  have hx := hx.keepO G A zz
  have hall : ∀ j ∈ acc, Own F w.heap.size 5 1 j.1 j.2.length (j.2.map u8v) := fun j l => (hall j l).keep A (own_apart (hall j l) hvk)
  have o := (o.keepT B D zz).keepT G A zz
  have hb := grow_stepX hb A rfl
  have j : (ptsB (cpB bq (low - (acc.getD i D0).2.length) (acc.getD i D0).2) i (low - (acc.getD i D0).2.length) ((acc.getD i D0).2.length)).length = 256 := (pts_len _ _ _ _).trans (by first | assumption | exact Rep.len (by assumption))
  refine zB (f _ _ (zH (op_add (zC b rfl g) rfl (add64 zx) (zG (zA b rfl) (zB ?_)))))
  -- round 10F 36T
  exact zg _ b z ⟨i + 1, _, _, rfl, (zL b rfl m), (zL b rfl y), (zL b rfl x), (zU b rfl).trans (congrArg (Value.int .i64) zx), (zU b rfl), zx, (by have h9 := hk.step hfit (i := i) zx; rw [← hri] at h9; exact h9), hb, zx, hx, hall, o, H⟩ zx
 refine zB (f _ _ (zF fun _ f => wp_cond_false (zA b rfl) (wp_exit (then_exit (then_exit (blk_hit (a _ _ (zH ?_))))))))
 have hl_e := hk.len
 have he : i = L.length := by omega
 have hse := hk.sum
 refine zG (zC b rfl m) (zG (zC b rfl t) (zj ok42 (set_ret bq _ _ _ _ (by first | assumption | exact Rep.len (by assumption)) hx q 2 low zx zx) ⟨(zA b rfl), ⟨rfl, ⟨(zA b rfl), trivial⟩⟩⟩ ?_))
 rintro _ f ⟨a, rfl, b⟩
 have := a.size
 have hb := grow_stepX hb a rfl
 have a : (setB bq 2 low).length = 256 := (setB_len _ _ _).trans (by first | assumption | exact Rep.len (by assumption))
 refine zB (end_ret (ret0 rfl z  ⟨_, rfl, ?_⟩))
 exact ⟨hb, rfl, _, b, (he ▸ hk : Pk bq L L.length low).last hfit⟩

theorem lays_ret (bs : By) (vb : Value) (base p : Nat) (w : World) (hl : bs.length = 256) (hx : Bx w p 50 [vb]) (O : Own w base 5 1 vb 256 (bs.map u8v)) (r : By) (bv : Value) (Lo Bo : Nat) (hbr : RdC w Lo Bo 1 bv r.length (r.map u8v)) (hap : ∀ q, vb.ownBlock = some q → q < Lo ∨ Bo ≤ q) (L : List By) (R : Rep bs L) (k : Nat) (hk : k ≤ L.length) (he : L.getD k [] = []) (hroom : 8 + max L.length (k + 1) * 4 + sumL L + r.length ≤ 256) : Ret Try.prog 40 #[(ptr p 0), (.int .i64 ((k : Nat) : Int)), bv] w (fun v' w' => w.grownBy w' vb.ownBlock ∧ v' = .tuple #[] ∧ ∃ bs', Own w' base 5 1 vb 256 (bs'.map u8v) ∧ Rep bs' (layL L k r)) := by
 have hb := grown_refl w vb.ownBlock
 refine enter (N := 54) Try.func40 rfl rfl (by simp) fun a hN hd hA => ?_
 have b : a.tmps.getD 0 undef = (ptr p 0) := hA 0 (by simp)
 have c : a.tmps.getD 1 undef = (.int .i64 ((k : Nat) : Int)) := hA 1 (by simp)
 have d : a.tmps.getD 2 undef = bv := hA 2 (by simp)
 clear hA
 refine zF fun _ a => zH (zG (zC hN rfl b) (zj ok37 (many_ret bs _ _ _ _ (by first | assumption | exact Rep.len (by assumption)) hx O L R) ⟨(zA hN rfl), trivial⟩ ?_))
 rintro _ f ⟨e, rfl⟩
 have e := zQ e
 have := e.size
 have hx := hx.keep0 e
 have O := O.keep0 e
 have hbr := hbr.keep0 e
 have hb := grow_step0 hb e
 have e := Rep.fits R
 refine zG (zC hN rfl c) (op_add (zA hN rfl) rfl (add64 zx) (op_max (r := ((max L.length (k + 1) : Nat) : Int)) (zA hN rfl) (zA hN rfl) zx (zD (zA hN rfl) (zB (a _ _ (seq_join1 (N := 54) (fun az_ w' => ∃ (bq : By), (Sl az_ 0 (ptr p 0)) ∧ (Sl az_ 1 (.int .i64 ((k : Nat) : Int))) ∧ (Sl az_ 2 bv) ∧ (Rep bq L) ∧ (8 + max L.length (k + 1) * 4 + r.length ≤ numB bq 2) ∧ (w.grownBy w' vb.ownBlock) ∧ (f.heap.size ≤ w'.heap.size) ∧ (Bx w' p 50 [vb]) ∧ (RdC w' Lo Bo 1 bv r.length (r.map u8v)) ∧ (Own w' base 5 1 vb 256 (bq.map u8v))) (fun e => ?_) ?_))))))
 ·
  refine zF fun _ a => zF fun _ f => zH (zG (zC hN rfl b) (zj ok52 (num_ret bs _ _ _ _ (by first | assumption | exact Rep.len (by assumption)) hx O 2 zx) ⟨(zA hN rfl), ⟨rfl, trivial⟩⟩ ?_))
  rintro _ h ⟨g, rfl⟩
  have g := zQ g
  have := g.size
  have hx := hx.keep0 g
  have O := O.keep0 g
  have hbr := hbr.keep0 g
  have hb := grow_step0 hb g
  have g := numB_lt bs 2
  refine zG (zC hN rfl d) (op_len_rd Try.underlying22 (zA hN rfl) hbr (op_sub (zA hN rfl) (zA hN rfl) (sub64 zx) (zG (zA hN rfl) (op_mul (zA hN rfl) rfl (mul64 zx) (op_add rfl (zA hN rfl) (add64 zx) (op_lss (zA hN rfl) (zA hN rfl) (fun g => ?_) (fun g => ?_)))))))
  ·
   refine zB (f _ _ (wp_cond_true (zA hN rfl) (zH (zG (zC hN rfl b) (zj ok53 (packs_ret bs _ _ _ _ (by first | assumption | exact Rep.len (by assumption)) hx O L R) ⟨(zA hN rfl), trivial⟩ ?_)))))
   rintro _ m ⟨g, rfl, l, j, h, n⟩
   have := g.size
   have hx := hx.keepO O g zz
   have hbr := hbr.keep g hap
   have hb := grow_stepX hb g rfl
   have g : l.length = 256 := h.len
   refine zB (a _ _ ?_)
   exact e _ _ _ hN hd ⟨_, (zL hN rfl b), (zL hN rfl c), (zL hN rfl d), h, zx, hb, zx, hx, hbr, j⟩
  refine zB (f _ _ (wp_cond_false (zA hN rfl) (wp_skip (a _ _ ?_))))
  exact e _ _ _ hN hd ⟨_, (zL hN rfl b), (zL hN rfl c), (zL hN rfl d), R, zx, hb, zx, hx, hbr, O⟩
 rintro o l b j ⟨bq, g, e, h, c, m, hb, n, hx, hbr, d⟩
 have := hb.size
 refine seq_join1 (N := 54) (fun az_ w' => ∃ (n : By), (Sl az_ 0 (ptr p 0)) ∧ (Sl az_ 1 (.int .i64 ((k : Nat) : Int))) ∧ (Sl az_ 2 bv) ∧ (n = lay1 bq k) ∧ (n.length = 256) ∧ (numB n 2 = numB bq 2) ∧ (w.grownBy w' vb.ownBlock) ∧ (l.heap.size ≤ w'.heap.size) ∧ (Bx w' p 50 [vb]) ∧ (RdC w' Lo Bo 1 bv r.length (r.map u8v)) ∧ (Own w' base 5 1 vb 256 (n.map u8v))) (fun o => ?_) ?_
 ·
  refine zF fun _ a => zF fun _ f => zH (zG (zC b rfl e) (zG (zC b rfl g) (zj ok37 (many_ret bq _ _ _ _ (by first | assumption | exact Rep.len (by assumption)) hx d L c) ⟨(zA b rfl), trivial⟩ ?_)))
  rintro _ s ⟨l, rfl⟩
  have l := zQ l
  have := l.size
  have hx := hx.keep0 l
  have hbr := hbr.keep0 l
  have d := d.keep0 l
  have hb := grow_step0 hb l
  have l := Rep.fits c
  refine op_geq (zA b rfl) (zA b rfl) (fun l => ?_) (fun l => ?_)
  ·
   refine zB (f _ _ (wp_cond_true (zA b rfl) (zH (zG (zC b rfl g) (zG (zC b rfl e) (op_add (zA b rfl) rfl (add64 zx) (zj ok42 (set_ret bq _ _ _ _ (by first | assumption | exact Rep.len (by assumption)) hx d 0 (k + 1) zx zx) ⟨(zA b rfl), ⟨rfl, ⟨(zA b rfl), trivial⟩⟩⟩ ?_)))))))
   rintro _ t ⟨l, rfl, s⟩
   have := l.size
   have hx := hx.keepO d l zz
   have hbr := hbr.keep l hap
   have hb := grow_stepX hb l rfl
   have l : (setB bq 0 (k + 1)).length = 256 := (setB_len _ _ _).trans (by first | assumption | exact Rep.len (by assumption))
   refine zB (a _ _ ?_)
   exact o _ _ _ b j ⟨_, (zL b rfl g), (zL b rfl e), (zL b rfl h), (by have := c.many; unfold lay1; rw [if_pos zx]), (by first | assumption | exact c.len), (numB_other zx), hb, zx, hx, hbr, s⟩
  refine zB (f _ _ (wp_cond_false (zA b rfl) (wp_skip (a _ _ ?_))))
  exact o _ _ _ b j ⟨_, (zL b rfl g), (zL b rfl e), (zL b rfl h), (by have := c.many; unfold lay1; rw [if_neg zx]), (by first | assumption | exact c.len), rfl, hb, zx, hx, hbr, d⟩
 rintro s o b l ⟨n, e, j, f, g, h, u, hb, t, hx, hbr, d⟩
 have := hb.size
 refine zF fun _ a => zH (zG (zC b rfl e) (zj ok52 (num_ret n _ _ _ _ (by first | assumption | exact Rep.len (by assumption)) hx d 2 zx) ⟨(zA b rfl), ⟨rfl, trivial⟩⟩ ?_))
 rintro _ s ⟨o, rfl⟩
 have o := zQ o
 have := o.size
 have hx := hx.keep0 o
 have hbr := hbr.keep0 o
 have d := d.keep0 o
 have hb := grow_step0 hb o
 have o := numB_lt bq 2
 refine zG (zC b rfl f) (op_len_rd Try.underlying22 (zA b rfl) hbr (op_sub (r := (((numB n 2 - r.length) : Nat) : Int)) (zA b rfl) (zA b rfl) (by rw [IntKind.wrap_i64]; omega) ?_))
 refine zD (zA b rfl) (zB (a _ _ (zF fun _ a => zH (zG (zC b rfl e) (op_nil (zA b rfl) (zM fld50_0 (zA b rfl) (zN one22 (zA b rfl) (hx.cell rfl) (zG (zA b rfl) (op_slice_cut (k := (numB n 2 - r.length)) slt22 (zA b rfl) d (zA b rfl) zx (by have := c.low; omega) (zG (zC b rfl f) ?_))))))))))
 have o := d
 refine op_copy_cut slt22 (zA b rfl) o (zA b rfl) hbr (by simp [Value.oneCell', u8v]) (by have := c.low; omega) ?_
 intro t d s
 have := s.size
 have hx := hx.keepO o s zz
 have hbr := hbr.keep s hap
 have hb := grow_stepX hb s rfl
 have d : Own t base 5 1 vb 256 (((cpB n (numB n 2 - r.length) r)).map u8v) := by exact d.cast rfl (by simp [cpB])
 refine zB (a _ _ (zF fun _ a => zH ?_))
 have o := c.low
 have hl_c : (cpB n (numB n 2 - r.length) r).length = 256 := (cp_len zx).trans h
 have hkf := c.fits
 refine zG (zC b rfl e) (zG (zC b rfl j) (zG (zA b rfl) (zG (zC b rfl f) (op_len_rd Try.underlying22 (zA b rfl) hbr (zj ok41 (pts_ret (cpB n (numB n 2 - r.length) r) _ _ _ _ (by first | assumption | exact Rep.len (by assumption)) hx d k (numB n 2 - r.length) (r.length) zx zx zx) ⟨(zA b rfl), ⟨(zA b rfl), ⟨(zA b rfl), ⟨(zA b rfl), trivial⟩⟩⟩⟩ ?_)))))
 rintro _ j ⟨f, rfl, h⟩
 have := f.size
 have hx := hx.keepO d f zz
 have hb := grow_stepX hb f rfl
 have d : (ptsB (cpB n (numB n 2 - r.length) r) k (numB n 2 - r.length) (r.length)).length = 256 := (pts_len _ _ _ _).trans (by first | assumption | exact Rep.len (by assumption))
 refine zB (a _ _ (zH (zG (zC b rfl e) (zG (zA b rfl) (zj ok42 (set_ret (ptsB (cpB n (numB n 2 - r.length) r) k (numB n 2 - r.length) (r.length)) _ _ _ _ (by first | assumption | exact Rep.len (by assumption)) hx h 2 (numB n 2 - r.length) zx zx) ⟨(zA b rfl), ⟨rfl, ⟨(zA b rfl), trivial⟩⟩⟩ ?_)))))
 rintro _ d ⟨a, rfl, b⟩
 have := a.size
 have hb := grow_stepX hb a rfl
 have a : (setB (ptsB (cpB n (numB n 2 - r.length) r) k (numB n 2 - r.length) (r.length)) 2 (numB n 2 - r.length)).length = 256 := (setB_len _ _ _).trans (by first | assumption | exact Rep.len (by assumption))
 refine zB (end_ret (ret0 rfl l  ⟨_, rfl, ?_⟩))
 subst g
 exact ⟨hb, rfl, _, b, c.lay hk he m⟩

theorem put_ret (L : List By) (bs : By) (n : Nat) (vb : Value) (base p : Nat) (w : World) (hbase : base ≤ w.heap.size) (hx : Bx w p 50 [vb]) (O : Own w base 5 1 vb n (bs.map u8v)) (hP : Pg n bs L vb) (r : By) (bv : Value) (Lo Bo : Nat) (hbr : RdC w Lo Bo 1 bv r.length (r.map u8v)) (hpa : ∀ q, pgRow p n vb = some q → q < Lo ∨ Bo ≤ q) (hBw : Bo ≤ w.heap.size)  : Ret Try.prog 11 #[(ptr p 0), bv] w (fun v' w' => w.grownBy w' (pgRow p n vb) ∧ v' = .tuple #[.int .i64 (putK L r), .int .i64 (putE L r)] ∧ ∃ u n' bs', Bx w' p 50 [u] ∧ Own w' base 5 1 u n' (bs'.map u8v) ∧ Pg n' bs' (putN L r) u ∧ RowP p n' u (pgRow p n vb) w.heap.size) := by
 have hb := grown_refl w (pgRow p n vb)
 refine enter (N := 45) Try.func11 rfl rfl (by simp) fun a hN hd hA => ?_
 have c : a.tmps.getD 0 undef = (ptr p 0) := hA 0 (by simp)
 have d : a.tmps.getD 1 undef = bv := hA 1 (by simp)
 clear hA
 refine zF fun _ e => zH (zD rfl (zD rfl (zB (e _ _ (zF fun _ e => zF fun _ a => ?_)))))
 refine zH (zG (zC hN rfl c) (op_peq_some ptrt24 (zA hN rfl) rfl (zB (a _ _ (wp_cond_false (zA hN rfl) (wp_skip (e _ _ (zF fun _ e => zF fun _ a => zH (zG (zC hN rfl d) (op_len_rd Try.underlying22 (zA hN rfl) hbr (op_eql (zA hN rfl) rfl (fun f => ?_) (fun f => ?_))))))))))))
 ·
  refine zG (zA hN rfl) (zR (j := 3) (dj := 11) (b := false) rfl rfl rfl (zA hN rfl) rfl rfl (zR (j := 3) (dj := 11) (b := false) rfl rfl rfl (zA hN rfl) rfl rfl ?_))
  refine zR (j := 3) (dj := 11) (b := false) rfl rfl rfl (zA hN rfl) rfl rfl (zc (zA hN rfl) rfl (zB (a _ _ (wp_cond_true (zA hN rfl) (zF fun _ a => zH (zD rfl (zD rfl (zB (a _ _ (wp_ret (zO ( (ret2 rfl hd (zA hN rfl) (zA hN rfl) ⟨_, rfl, ?_⟩)))))))))))))
  obtain ⟨g, h, f⟩ := put_bad (L := L) (badB_t (r := r) zx)
  rw [g, h, f]
  exact ⟨hb, rfl, ⟨_, _, _, hx, O, hP, hP.rowP⟩⟩
 refine zG (zA hN rfl) (zS (j := 3) (dj := 11) (b := false) rfl rfl rfl (zA hN rfl) (zG (zC hN rfl d) (zS (j := 3) (dj := 11) (b := false) rfl rfl rfl (zA hN rfl) (op_len_rd Try.underlying22 (zA hN rfl) hbr (zS (j := 3) (dj := 11) (b := false) rfl rfl rfl (zA hN rfl) (op_gtr (zA hN rfl) rfl (fun l => ?_) (fun l => ?_)))))))
 ·
  refine zd (zA hN rfl) (zA hN rfl) (zB (a _ _ (wp_cond_true (zA hN rfl) (zF fun _ a => zH (zD rfl (zD rfl (zB (a _ _ (wp_ret (zO ( (ret2 rfl hd (zA hN rfl) (zA hN rfl) ⟨_, rfl, ?_⟩))))))))))))
  obtain ⟨g, h, f⟩ := put_bad (L := L) (badB_t (r := r) zx)
  rw [g, h, f]
  exact ⟨hb, rfl, ⟨_, _, _, hx, O, hP, hP.rowP⟩⟩
 refine zd (zA hN rfl) (zA hN rfl) (zB (a _ _ (wp_cond_false (zA hN rfl) (wp_skip (e _ _ (zF fun _ e => zH (zG (zC hN rfl c) (zj ok36 (ready_ret L bs n _ _ _ _ hbase hx O hP) ⟨(zA hN rfl), trivial⟩ ?_))))))))
 rintro _ z ⟨y, rfl, x, t, l, m, o, v⟩
 have := y.size
 have hbr := hbr.keep y hpa
 have hb := grown_trans hb y
 refine zB (e _ _ (seq_join1 (N := 45) (fun az_ w' => ∃ (k : Nat), (Sl az_ 0 (ptr p 0)) ∧ (Sl az_ 1 bv) ∧ (Sl az_ 5 (.int .i64 0)) ∧ (Sl az_ 4 (.int .i64 ((k : Nat) : Int))) ∧ (k = freeL L) ∧ (w.grownBy w' (pgRow p n vb)) ∧ (z.heap.size ≤ w'.heap.size) ∧ (RdC w' Lo Bo 1 bv r.length (r.map u8v)) ∧ (Bx w' p 50 [x]) ∧ (Own w' base 5 1 x 256 (t.map u8v))) (fun y => ?_) ?_))
 ·
  refine zF fun _ e => wp_block (loop_m (fun mz_ az_ w' => ∃ (k : Nat), mz_ = (freeL L - k) ∧ (Sl az_ 0 (ptr p 0)) ∧ (Sl az_ 1 bv) ∧ (Sl az_ 5 (.int .i64 0)) ∧ (Sl az_ 4 (.int .i64 ((k : Nat) : Int))) ∧ (k ≤ freeL L) ∧ (w.grownBy w' (pgRow p n vb)) ∧ (z.heap.size ≤ w'.heap.size) ∧ (RdC w' Lo Bo 1 bv r.length (r.map u8v)) ∧ (Bx w' p 50 [x]) ∧ (Own w' base 5 1 x 256 (t.map u8v))) _ hN hd ⟨0, rfl, (zL hN rfl c), (zL hN rfl d), (zU hN rfl), (zU hN rfl), Nat.zero_le _, hb, (Nat.le_refl _), hbr, l, m⟩ ?_)
  rintro _ C E c A ⟨k, rfl, x, z, B, d, hkf, hb, D, hbr, l, m⟩
  have := hb.size
  refine zF fun _ a => zF fun _ C => zH (zG (zC c rfl d) (zG (zC c rfl x) (zj ok37 (many_ret t _ _ _ _ (by first | assumption | exact Rep.len (by assumption)) l m L o) ⟨(zA c rfl), trivial⟩ ?_)))
  rintro _ E ⟨D, rfl⟩
  have D := zQ D
  have := D.size
  have hbr := hbr.keep0 D
  have l := l.keep0 D
  have m := m.keep0 D
  have hb := grow_step0 hb D
  have D := Rep.fits o
  refine op_lss (zA c rfl) (zA c rfl) (fun D => ?_) (fun D => ?_)
  ·
   refine zG (zA c rfl) ?_
   refine zS (j := 4) (dj := 22) (b := true) rfl rfl rfl (zA c rfl) (zG (zC c rfl x) (zS (j := 4) (dj := 22) (b := true) rfl rfl rfl (zA c rfl) (zG (zC c rfl d) (zS (j := 4) (dj := 22) (b := true) rfl rfl rfl (zA c rfl) (zj ok38 (size_ret t _ _ _ _ (by first | assumption | exact Rep.len (by assumption)) l m L o ((k : Nat) : Int) zx) ⟨(zA c rfl), ⟨(zA c rfl), trivial⟩⟩ ?_)))))
   rintro _ E ⟨D, rfl⟩
   have D := zQ D
   have := D.size
   have hbr := hbr.keep0 D
   have l := l.keep0 D
   have m := m.keep0 D
   have hb := grow_step0 hb D
   have D := sizeL_le o ((k : Nat) : Int)
   refine zS (j := 4) (dj := 22) (b := true) rfl rfl rfl (zA c rfl) (op_gtr (zA c rfl) rfl (fun D => ?_) (fun D => ?_))
   ·
    refine zc (zA c rfl) (zA c rfl) (zB (C _ _ (wp_cond_true (zA c rfl) (wp_skip (a _ _ (wp_block (zH (zG (zC c rfl d) (op_add (zA c rfl) rfl (add64 zx) (zD (zA c rfl) (zB (blk_normal ?_))))))))))))
    -- round 10F 14F 21T 26T
    exact zg _ c A ⟨k + 1, rfl, (zL c rfl x), (zL c rfl z), (zL c rfl B), (zU c rfl).trans (congrArg (Value.int .i64) zx), (freeL_go hkf zx (fun D => by have h8 := sizeL_in (L := L) (s := k) zx; rw [D] at h8; simp at h8; omega)), hb, zx, hbr, l, m⟩ (by have h7 := freeL_go hkf zx (fun D => by have h8 := sizeL_in (L := L) (s := k) zx; rw [D] at h8; simp at h8; omega); omega)
   refine zc (zA c rfl) (zA c rfl) (zB (C _ _ (wp_cond_false (zA c rfl) (wp_exit (then_exit (then_exit (blk_hit (e _ _ ?_))))))))
   exact y _ _ _ c A ⟨k, (zL c rfl x), (zL c rfl z), (zL c rfl B), (zL c rfl d), (freeL_stop hkf (.inr (List.eq_nil_of_length_eq_zero (by have h8 := sizeL_in (L := L) (s := k) zx; omega)))).symm, hb, zx, hbr, l, m⟩
  refine zG (zA c rfl) (zR (j := 4) (dj := 22) (b := true) rfl rfl rfl (zA c rfl) rfl rfl (zR (j := 4) (dj := 22) (b := true) rfl rfl rfl (zA c rfl) rfl rfl (zR (j := 4) (dj := 22) (b := true) rfl rfl rfl (zA c rfl) rfl rfl (zR (j := 4) (dj := 22) (b := true) rfl rfl rfl (zA c rfl) rfl rfl (zd (zA c rfl) rfl (zB (C _ _ (wp_cond_false (zA c rfl) (wp_exit (then_exit (then_exit (blk_hit (e _ _ ?_)))))))))))))
  exact y _ _ _ c A ⟨k, (zL c rfl x), (zL c rfl z), (zL c rfl B), (zL c rfl d), (freeL_stop hkf (.inl zx)).symm, hb, zx, hbr, l, m⟩
 rintro E C c z ⟨k, x, y, B, d, hkf, hb, A, hbr, l, m⟩
 have := hb.size
 refine zF fun _ e => zF fun _ a => zH (zG (zC c rfl x) (zG (zC c rfl x) (zj ok37 (many_ret t _ _ _ _ (by first | assumption | exact Rep.len (by assumption)) l m L o) ⟨(zA c rfl), trivial⟩ ?_)))
 rintro _ B ⟨A, rfl⟩
 have A := zQ A
 have := A.size
 have l := l.keep0 A
 have m := m.keep0 A
 have hb := grow_step0 hb A
 have B := Rep.fits o
 refine zG (zC c rfl d) ?_
 have hfl := freeL_le L
 refine op_add (zA c rfl) rfl (add64 zx) (op_max (r := (((max L.length (k + 1)) : Nat) : Int)) (zA c rfl) (zA c rfl) zx (zj ok39 (left_ret t _ _ _ _ (by first | assumption | exact Rep.len (by assumption)) l m L o (max L.length (k + 1)) zx) ⟨(zA c rfl), ⟨(zA c rfl), trivial⟩⟩ ?_))
 rintro _ C ⟨B, rfl⟩
 have B := zQ B
 have := B.size
 have hbr := (hbr.keep0 A).keep0 B
 have l := l.keep0 B
 have m := m.keep0 B
 have hb := grow_step0 hb B
 have A := leftL_rng o (max L.length (k + 1)) zx
 refine zG (zC c rfl y) (op_len_rd Try.underlying22 (zA c rfl) hbr (op_lss (zA c rfl) (zA c rfl) (fun A => ?_) (fun A => ?_)))
 ·
  refine zB (a _ _ (wp_cond_true (zA c rfl) (zF fun _ a => zH (zD rfl (zD rfl (zB (a _ _ (wp_ret (zO ( (ret2 rfl z (zA c rfl) (zA c rfl) ⟨_, rfl, ?_⟩)))))))))))
  obtain ⟨g, h, f⟩ := put_full (L := L) (badB_f (r := r) zx) (hkf ▸ A)
  rw [g, h, f]
  exact ⟨hb, rfl, ⟨_, _, _, l, m, o.pg, (RowP.laid zz v)⟩⟩
 refine zB ?_
 refine a _ _ (wp_cond_false (zA c rfl) (wp_skip (e _ _ (zF fun _ e => zH (zG (zC c rfl x) (zG (zC c rfl d) (zG (zC c rfl y) (zj ok40 (lays_ret t _ _ _ _ (by first | assumption | exact Rep.len (by assumption)) l m r _ _ _ hbr (v.apart hpa hBw) L o k zx (by rw [hkf]; exact freeL_get) (by have D := A; unfold leftL at D; omega)) ⟨(zA c rfl), ⟨(zA c rfl), ⟨(zA c rfl), trivial⟩⟩⟩ ?_))))))))
 rintro _ y ⟨a, rfl, x, t, o⟩
 have := a.size
 have l := l.keepO m a zz
 have hb := grow_stepP hb a v
 have a : x.length = 256 := o.len
 refine zB (e _ _ (zF fun _ e => zH (zG (zC c rfl d) (zD (zA c rfl) (zD rfl (zB (e _ _ (wp_ret (ret2 rfl z (zA c rfl) (zA c rfl) ⟨_, rfl, ?_⟩)))))))))
 obtain ⟨g, h, f⟩ := put_ok (L := L) (badB_f (r := r) zx) (hkf ▸ A)
 rw [g, h, f]
 subst hkf
 exact ⟨hb, rfl, ⟨_, _, _, l, t, o.pg, (RowP.laid zz v)⟩⟩

theorem get_ret (L : List By) (bs : By) (n : Nat) (vb : Value) (base p : Nat) (w : World) (hbase : base ≤ w.heap.size) (hx : Bx w p 50 [vb]) (O : Own w base 5 1 vb n (bs.map u8v)) (hP : Pg n bs L vb) (k : Int) (hk : -9223372036854775808 ≤ k ∧ k ≤ 9223372036854775807) : Ret Try.prog 15 #[(ptr p 0), (.int .i64 k)] w (fun v' w' => w.grownBy w' (pgRow p n vb) ∧ ∃ x, v' = .tuple #[x, .int .i64 (dropE L k)] ∧ Own w' w.heap.size 5 1 x (getL L k).length ((getL L k).map u8v) ∧ ∃ u n' bs', Bx w' p 50 [u] ∧ Own w' base 5 1 u n' (bs'.map u8v) ∧ Pg n' bs' (L) u ∧ RowP p n' u (pgRow p n vb) w.heap.size ∧ DJ x u) := by
 have hb := grown_refl w (pgRow p n vb)
 refine enter (N := 31) Try.func15 rfl rfl (by simp) fun a hN hd hA => ?_
 have b : a.tmps.getD 0 undef = (ptr p 0) := hA 0 (by simp)
 have c : a.tmps.getD 1 undef = (.int .i64 k) := hA 1 (by simp)
 clear hA
 refine zF fun _ a => zH (zD rfl (zD rfl (zB (a _ _ (zF fun _ a => zF fun _ d => zH (zG (zC hN rfl b) ?_))))))
 refine op_peq_some ptrt24 (zA hN rfl) rfl (zB (d _ _ (wp_cond_false (zA hN rfl) (wp_skip (a _ _ (zF fun _ a => zH (zG (zC hN rfl b) (zj ok36 (ready_ret L bs n _ _ _ _ hbase hx O hP) ⟨(zA hN rfl), trivial⟩ ?_))))))))
 rintro _ o ⟨r, rfl, m, j, g, f, l, q⟩
 have := r.size
 have hb := grown_trans hb r
 refine zB (a _ _ (zF fun _ a => zH (zG (zC hN rfl b) (zG (zC hN rfl c) (zj ok38 (size_ret j _ _ _ _ (by first | assumption | exact Rep.len (by assumption)) g f L l k zx) ⟨(zA hN rfl), ⟨(zA hN rfl), trivial⟩⟩ ?_)))))
 rintro _ r ⟨t, rfl⟩
 have t := zQ t
 have := t.size
 have g := g.keep0 t
 have f := f.keep0 t
 have hb := grow_step0 hb t
 have t := sizeL_le l k
 refine zD (zA hN rfl) (zB (a _ _ (zF fun _ a => zF fun _ d => zH (zG (zA hN rfl) (op_eql (zA hN rfl) rfl (fun t => ?_) (fun t => ?_))))))
 ·
  refine zB (d _ _ (wp_cond_true (zA hN rfl) (zF fun _ d => zH (zD rfl (zD rfl (zB (d _ _ (wp_ret (zO ( (ret2 rfl hd (zA hN rfl) (zA hN rfl) ⟨_, rfl, ?_⟩)))))))))))
  have t : sizeL L k = 0 := by omega
  rw [(drop_none t).1, getL_nil t]
  exact ⟨hb, .slice none 0 0, rfl, Own.nil _ _ _ _, ⟨_, _, _, g, f, l.pg, (RowP.laid zz q), (fun k9 (hk9 : (none : Option Nat) = some k9) => (by cases hk9))⟩⟩
 refine zB (d _ _ (wp_cond_false (zA hN rfl) (wp_skip (a _ _ (zF fun _ a => ?_)))))
 have hmm := l.fits
 have hplt := g.lt
 have hkn := sizeL_nat (L := L) (s := k) zx
 have hrc := (l.recs k.toNat zx).2.1
 have hgt := l.get (s := k.toNat) zx
 have hsi : sizeL L k = (L.getD k.toNat []).length := by rw [← getL_len, getL_in zx]
 have d := f
 refine reg_split (hd := [_, _, _, _, _, _, _, _, _, _, _, _, _, _]) (tl := _) 14 mixed zy rfl rfl (any_quiet (Φ := phiL [(fun uz w' => ∃ (t : Nat), uz = (.slice (some ⟨t, 0, none⟩) 0 0) ∧ r.heap.size ≤ t ∧ Bx w' t 5 []), (fun uz _ => uz = (ptr p 0)), (fun uz _ => uz = (ptr p 0)), (fun uz _ => uz = (ptr p 0)), (fun uz _ => uz = m), (fun uz _ => uz = (ptr p 0)), (fun uz _ => uz = (.int .i64 ((k.toNat : Nat) : Int))), (fun uz _ => uz = (.int .i64 (((numB j (8 + k.toNat * 4)) : Nat) : Int))), (fun uz _ => uz = (ptr p 0)), (fun uz _ => uz = (.int .i64 ((k.toNat : Nat) : Int))), (fun uz _ => uz = (.int .i64 (((numB j (8 + k.toNat * 4)) : Nat) : Int))), (fun uz _ => uz = (.int .i64 (((sizeL L k) : Nat) : Int))), (fun uz _ => uz = (.int .i64 ((((numB j (8 + k.toNat * 4)) : Nat) : Int) + (((sizeL L k) : Nat) : Int)))), (fun uz w' => ∃ (v : Value), uz = v ∧ RdC w' base r.heap.size 1 v ((L.getD k.toNat []).length) (((L.getD k.toNat [])).map u8v))]) zy zy zy hN (StL.get (StL.cons (fun u B o E h => by obtain ⟨z, hv, A, y⟩ := h; exact ⟨z, hv, A, y.keep0 E⟩) (StL.eq (StL.eq (StL.eq (StL.eq (StL.eq (StL.eq (StL.eq (StL.eq (StL.eq (StL.eq (StL.eq (StL.eq (StL.cons (fun u B o E h => by obtain ⟨z, hv, y⟩ := h; exact ⟨z, hv, y.keep0 E⟩) (StL.nil _)))))))))))))))) (ObL.get (s := 14) (ObL.cons ?_ (ObL.cons ?_ (ObL.cons ?_ (ObL.cons ?_ (ObL.cons ?_ (ObL.cons ?_ (ObL.cons ?_ (ObL.cons ?_ (ObL.cons ?_ (ObL.cons ?_ (ObL.cons ?_ (ObL.cons ?_ (ObL.cons ?_ (ObL.cons ?_ (ObL.nil))))))))))))))) rfl) ?_)
 ·
  intro aA wA hNA hRA hbsA hdpA
  have hRA : r.grownBy wA none := hRA
  have := hRA.size
  clear hbsA hdpA
  refine op_bslice (e := 5) (pv := []) (cs := []) trivial zy ?_
  intro B t A z o y
  have := y.size
  exact obN_end rfl ⟨t, rfl, zx, o⟩ (y)
 ·
  intro aA wA hNA hRA hbsA hdpA
  have y := (hbsA 0 rfl).trans (zL hN rfl b)
  refine zG (zC hNA rfl y) ?_
  exact obN_end rfl rfl (grown_refl _ _)
 ·
  intro aA wA hNA hRA hbsA hdpA
  have A : Sl aA 17 (ptr p 0) := hdpA 1 _ 17 zy rfl rfl
  refine op_nil (zC hNA rfl A) ?_
  exact obN_end rfl rfl (grown_refl _ _)
 ·
  intro aA wA hNA hRA hbsA hdpA
  have A : Sl aA 18 (ptr p 0) := hdpA 2 _ 18 zy rfl rfl
  refine zM fld50_0 (zC hNA rfl A) ?_
  exact obN_end rfl rfl (grown_refl _ _)
 ·
  intro aA wA hNA hRA hbsA hdpA
  have hRA : r.grownBy wA none := hRA
  have := hRA.size
  have g := g.keep0 hRA
  have A : Sl aA 19 (ptr p 0) := hdpA 3 _ 19 zy rfl rfl
  clear hbsA hdpA
  refine zN one22 (zC hNA rfl A) (g.cell rfl) ?_
  exact obN_end rfl rfl (grown_refl _ _)
 ·
  intro aA wA hNA hRA hbsA hdpA
  have y := (hbsA 0 rfl).trans (zL hN rfl b)
  refine zG (zC hNA rfl y) ?_
  exact obN_end rfl rfl (grown_refl _ _)
 ·
  intro aA wA hNA hRA hbsA hdpA
  have A := (hbsA 1 rfl).trans (zL hN rfl c)
  refine zG ((zC hNA rfl A).trans (congrArg (Value.int .i64) (show _ = ((k.toNat : Nat) : Int) by omega))) ?_
  exact obN_end rfl rfl (grown_refl _ _)
 ·
  intro aA wA hNA hRA hbsA hdpA
  have hRA : r.grownBy wA none := hRA
  have := hRA.size
  have g := g.keep0 hRA
  have f := f.keep0 hRA
  have B : Sl aA 21 (ptr p 0) := hdpA 5 _ 21 zy rfl rfl
  have C : Sl aA 22 (.int .i64 ((k.toNat : Nat) : Int)) := hdpA 6 _ 22 zy rfl rfl
  clear hbsA hdpA
  refine zj ok43 (at_ret j _ _ _ _ (by first | assumption | exact Rep.len (by assumption)) g f k.toNat zx) ⟨(zC hNA rfl B), ⟨(zC hNA rfl C), trivial⟩⟩ ?_
  rintro _ C ⟨B, rfl⟩
  have B := zQ B
  have := B.size
  exact obN_end rfl rfl (B)
 ·
  intro aA wA hNA hRA hbsA hdpA
  have y := (hbsA 0 rfl).trans (zL hN rfl b)
  refine zG (zC hNA rfl y) ?_
  exact obN_end rfl rfl (grown_refl _ _)
 ·
  intro aA wA hNA hRA hbsA hdpA
  have A := (hbsA 1 rfl).trans (zL hN rfl c)
  refine zG ((zC hNA rfl A).trans (congrArg (Value.int .i64) (show _ = ((k.toNat : Nat) : Int) by omega))) ?_
  exact obN_end rfl rfl (grown_refl _ _)
 ·
  intro aA wA hNA hRA hbsA hdpA
  have hRA : r.grownBy wA none := hRA
  have := hRA.size
  have g := g.keep0 hRA
  have f := f.keep0 hRA
  have b : Sl aA 24 (ptr p 0) := hdpA 8 _ 24 zy rfl rfl
  have c : Sl aA 25 (.int .i64 ((k.toNat : Nat) : Int)) := hdpA 9 _ 25 zy rfl rfl
  clear hbsA hdpA
  refine zj ok43 (at_ret j _ _ _ _ (by first | assumption | exact Rep.len (by assumption)) g f k.toNat zx) ⟨(zC hNA rfl b), ⟨(zC hNA rfl c), trivial⟩⟩ ?_
  rintro _ c ⟨b, rfl⟩
  have b := zQ b
  have := b.size
  exact obN_end rfl rfl (b)
 ·
  intro aA wA hNA hRA hbsA hdpA
  have b := (hbsA 6 rfl).trans (zU hN rfl)
  refine zG (zC hNA rfl b) ?_
  exact obN_end rfl rfl (grown_refl _ _)
 ·
  intro aA wA hNA hRA hbsA hdpA
  have b : Sl aA 26 (.int .i64 (((numB j (8 + k.toNat * 4)) : Nat) : Int)) := hdpA 10 _ 26 zy rfl rfl
  have c : Sl aA 27 (.int .i64 (((sizeL L k) : Nat) : Int)) := hdpA 11 _ 27 zy rfl rfl
  refine op_add (zC hNA rfl b) (zC hNA rfl c) (add64 zx) ?_
  exact obN_end rfl rfl (grown_refl _ _)
 ·
  intro aA wA hNA hRA hbsA hdpA
  have hRA : r.grownBy wA none := hRA
  have := hRA.size
  have f := f.keep0 hRA
  have b : Sl aA 20 m := hdpA 4 _ 20 zy rfl rfl
  have c : Sl aA 23 (.int .i64 (((numB j (8 + k.toNat * 4)) : Nat) : Int)) := hdpA 7 _ 23 zy rfl rfl
  have y : Sl aA 28 (.int .i64 ((((numB j (8 + k.toNat * 4)) : Nat) : Int) + (((sizeL L k) : Nat) : Int))) := hdpA 12 _ 28 zy rfl rfl
  clear hbsA hdpA
  refine op_slice_rd (lo := ((numB j (8 + k.toNat * 4)))) (hi := (((numB j (8 + k.toNat * 4))) + ((sizeL L k)))) slt22 (zC hNA rfl b) (Own.rdB f d) (.inr ⟨_, _, rfl, (zC hNA rfl c)⟩) (.inr ⟨_, _, rfl, (zC hNA rfl y)⟩) zx zx ?_
  intro v b
  have b : RdC wA base r.heap.size 1 v ((L.getD k.toNat []).length) (((L.getD k.toNat [])).map u8v) := by have h9 := b; rw [hsi, Nat.add_sub_cancel_left, Nat.mul_one, Nat.mul_one, ← List.map_drop, ← List.map_take, hgt] at h9; exact h9
  exact obN_end rfl ⟨v, rfl, b⟩ (grown_refl _ _)
 intro C y d j B A c
 have j := j.trans hd
 obtain ⟨t, C, D, o⟩ := A 0 _ 16 rfl rfl
 have o : Bx y t 5 [] := o
 have z := o.lt
 have z : m.ownBlock ≠ some t := fun hh => by have := (f.lt _ hh).2; omega
 obtain ⟨v, D, b⟩ := A 13 _ 29 rfl rfl
 have b : RdC y base r.heap.size 1 v ((L.getD k.toNat []).length) (((L.getD k.toNat [])).map u8v) := b
 clear B A
 have c : r.grownBy y none := c
 have := c.size
 have f := f.keep0 c
 have hb := grow_step0 hb c
 refine split_end (from_seq (tl := [_, _, _]) zz zy rfl ?_)
 have r := (Own.ofBx (base := w.heap.size) (sz := 1) (n := 0) o rfl zz zx)
 refine op_append slt22 (zC d rfl C) r (zC d rfl D) (Src.ofRd Try.underlying22 zz b (by simp [Value.oneCell', u8v])) (by unfold maxLen; omega) zx hb.size ?_
 intro v A o b y
 have B : DJ m (.slice (some ⟨t, 0, none⟩) 0 0) := fun k hk hg => by simp [Value.ownBlock] at hg; subst hg; exact z hk
 have t : DJ m v := DJ.step y (fun k hk => (f.lt k hk).2) B
 have := b.size
 have g := (g.keep0 c).keep b (by simp [Value.ownBlock]; try omega)
 have f := f.keepD b B
 have hb := grow_stepO hb r b zx
 have o : Own A w.heap.size 5 1 v (0 + ((L.getD k.toNat []).length)) (((L.getD k.toNat [])).map u8v) := by simpa [u8v] using o
 refine zD (zA d rfl) (zD rfl (zB (a _ _ (wp_ret (ret2 rfl j (zA d rfl) (zA d rfl) ⟨_, rfl, ?_⟩)))))
 have a : sizeL L k ≠ 0 := by omega
 rw [(drop_ok a).1, getL_in a]
 exact ⟨hb, _, rfl, o.cast zx rfl, ⟨_, _, _, g, f, l.pg, (RowP.laid zz q), t.symm⟩⟩

theorem setx_ret (L : List By) (bs : By) (n : Nat) (vb : Value) (base p : Nat) (w : World) (hbase : base ≤ w.heap.size) (hx : Bx w p 50 [vb]) (O : Own w base 5 1 vb n (bs.map u8v)) (hP : Pg n bs L vb) (r : By) (bv : Value) (Lo Bo : Nat) (hbr : RdC w Lo Bo 1 bv r.length (r.map u8v)) (hpa : ∀ q, pgRow p n vb = some q → q < Lo ∨ Bo ≤ q) (hBw : Bo ≤ w.heap.size) (k : Int) (hk : -9223372036854775808 ≤ k ∧ k ≤ 9223372036854775807) : Ret Try.prog 20 #[(ptr p 0), (.int .i64 k), bv] w (fun v' w' => w.grownBy w' (pgRow p n vb) ∧ v' = .int .i64 (setE L k r) ∧ ∃ u n' bs', Bx w' p 50 [u] ∧ Own w' base 5 1 u n' (bs'.map u8v) ∧ Pg n' bs' (setN L k r) u ∧ RowP p n' u (pgRow p n vb) w.heap.size) := by
 have hb := grown_refl w (pgRow p n vb)
 refine enter (N := 44) Try.func20 rfl rfl (by simp) fun a hN hd hA => ?_
 have c : a.tmps.getD 0 undef = (ptr p 0) := hA 0 (by simp)
 have d : a.tmps.getD 1 undef = (.int .i64 k) := hA 1 (by simp)
 have e : a.tmps.getD 2 undef = bv := hA 2 (by simp)
 clear hA
 refine zF fun _ f => zH (zD rfl (zB (f _ _ (zF fun _ f => zF fun _ a => zH (zG (zC hN rfl c) ?_)))))
 refine op_peq_some ptrt24 (zA hN rfl) rfl (zB (a _ _ (wp_cond_false (zA hN rfl) (wp_skip (f _ _ (zF fun _ f => zH (zG (zC hN rfl c) (zj ok36 (ready_ret L bs n _ _ _ _ hbase hx O hP) ⟨(zA hN rfl), trivial⟩ ?_))))))))
 rintro _ v ⟨t, rfl, x, o, g, h, l, m⟩
 have := t.size
 have hb := grown_trans hb t
 refine zB (f _ _ (zF fun _ f => zH (zG (zC hN rfl c) (zG (zC hN rfl d) (zj ok38 (size_ret o _ _ _ _ (by first | assumption | exact Rep.len (by assumption)) g h L l k zx) ⟨(zA hN rfl), ⟨(zA hN rfl), trivial⟩⟩ ?_)))))
 rintro _ x ⟨v, rfl⟩
 have v := zQ v
 have := v.size
 have hbr := (hbr.keep t hpa).keep0 v
 have g := g.keep0 v
 have h := h.keep0 v
 have hb := grow_step0 hb v
 have t := sizeL_le l k
 refine zD (zA hN rfl) (zB (f _ _ (zF fun _ f => wp_block (zF fun _ a => zH (zG (zA hN rfl) (op_eql (zA hN rfl) rfl (fun t => ?_) (fun t => ?_)))))))
 ·
  refine zD (zA hN rfl) (zB (a _ _ (wp_cond_true (zA hN rfl) (zF fun _ a => zH (zD rfl (zB (a _ _ (wp_ret (zb (zO ( (ret1 rfl hd (zA hN rfl) ⟨_, rfl, ?_⟩))))))))))))
  obtain ⟨t, v⟩ := set_none (L := L) (k := k) (r := r) zx
  rw [t, v]
  exact ⟨hb, rfl, ⟨_, _, _, g, h, l.pg, (RowP.laid zz m)⟩⟩
 refine zD (zA hN rfl) (zB (a _ _ (wp_cond_false (zA hN rfl) (zF fun _ a => zH (zG (zC hN rfl e) (op_len_rd Try.underlying22 (zA hN rfl) hbr (op_eql (zA hN rfl) rfl (fun x => ?_) (fun x => ?_))))))))
 ·
  refine zG (zA hN rfl) (zR (j := 3) (dj := 22) (b := false) rfl rfl rfl (zA hN rfl) rfl rfl (zR (j := 3) (dj := 22) (b := false) rfl rfl rfl (zA hN rfl) rfl rfl ?_))
  refine zR (j := 3) (dj := 22) (b := false) rfl rfl rfl (zA hN rfl) rfl rfl (zc (zA hN rfl) rfl (zD (zA hN rfl) (zB (a _ _ (wp_cond_true (zA hN rfl) (zF fun _ a => zH (zD rfl (zB (a _ _ (wp_ret (zb (zO ( (ret1 rfl hd (zA hN rfl) ⟨_, rfl, ?_⟩))))))))))))))
  obtain ⟨t, v⟩ := set_bad (L := L) (k := k) zx (badB_t (r := r) zx)
  rw [t, v]
  exact ⟨hb, rfl, ⟨_, _, _, g, h, l.pg, (RowP.laid zz m)⟩⟩
 refine zG (zA hN rfl) (zS (j := 3) (dj := 22) (b := false) rfl rfl rfl (zA hN rfl) (zG (zC hN rfl e) (zS (j := 3) (dj := 22) (b := false) rfl rfl rfl (zA hN rfl) (op_len_rd Try.underlying22 (zA hN rfl) hbr (zS (j := 3) (dj := 22) (b := false) rfl rfl rfl (zA hN rfl) (op_gtr (zA hN rfl) rfl (fun x => ?_) (fun x => ?_)))))))
 ·
  refine zd (zA hN rfl) (zA hN rfl) (zD (zA hN rfl) (zB (a _ _ (wp_cond_true (zA hN rfl) (zF fun _ a => zH (zD rfl (zB (a _ _ (wp_ret (zb (zO ( (ret1 rfl hd (zA hN rfl) ⟨_, rfl, ?_⟩)))))))))))))
  obtain ⟨t, v⟩ := set_bad (L := L) (k := k) zx (badB_t (r := r) zx)
  rw [t, v]
  exact ⟨hb, rfl, ⟨_, _, _, g, h, l.pg, (RowP.laid zz m)⟩⟩
 refine zd (zA hN rfl) (zA hN rfl) (zD (zA hN rfl) ?_)
 refine zB (a _ _ (wp_cond_false (zA hN rfl) (zF fun _ a => zH (zG (zC hN rfl c) (zG (zC hN rfl c) (zj ok37 (many_ret o _ _ _ _ (by first | assumption | exact Rep.len (by assumption)) g h L l) ⟨(zA hN rfl), trivial⟩ ?_))))))
 rintro _ y ⟨x, rfl⟩
 have x := zQ x
 have := x.size
 have g := g.keep0 x
 have h := h.keep0 x
 have hb := grow_step0 hb x
 have y := Rep.fits l
 refine zj ok39 (left_ret o _ _ _ _ (by first | assumption | exact Rep.len (by assumption)) g h L l (L.length) zx) ⟨(zA hN rfl), ⟨(zA hN rfl), trivial⟩⟩ ?_
 rintro _ z ⟨y, rfl⟩
 have y := zQ y
 have := y.size
 have hbr := (hbr.keep0 x).keep0 y
 have g := g.keep0 y
 have h := h.keep0 y
 have hb := grow_step0 hb y
 have x := leftL_rng l (L.length) zx
 refine zG (zA hN rfl) (op_add (zA hN rfl) (zA hN rfl) (add64 zx) (zG (zC hN rfl e) (op_len_rd Try.underlying22 (zA hN rfl) hbr (op_lss (zA hN rfl) (zA hN rfl) (fun x => ?_) (fun x => ?_)))))
 ·
  refine zD (zA hN rfl) (zB (a _ _ (wp_cond_true (zA hN rfl) (zF fun _ a => zH (zD rfl (zB (a _ _ (wp_ret (zb (zO ( (ret1 rfl hd (zA hN rfl) ⟨_, rfl, ?_⟩))))))))))))
  obtain ⟨t, v⟩ := set_full (L := L) (k := k) zx (badB_f (r := r) zx) zx
  rw [t, v]
  exact ⟨hb, rfl, ⟨_, _, _, g, h, l.pg, (RowP.laid zz m)⟩⟩
 refine zD (zA hN rfl) (zB (a _ _ (wp_cond_false (zA hN rfl) (wp_skip (f _ _ (zF fun _ f => zH ?_))))))
 have hkn := sizeL_nat (L := L) (s := k) zx
 have hmm := l.fits
 have hss := sumL_set (L := L) (i := k.toNat) (r := []) zx
 have hsi : sizeL L k = (L.getD k.toNat []).length := by rw [← getL_len, getL_in zx]
 refine zG (zC hN rfl c) (zG ((zC hN rfl d).trans (congrArg (Value.int .i64) (show _ = ((k.toNat : Nat) : Int) by omega))) (zj ok41 (pts_ret o _ _ _ _ (by first | assumption | exact Rep.len (by assumption)) g h k.toNat 0 0 zx zx zx) ⟨(zA hN rfl), ⟨(zA hN rfl), ⟨rfl, ⟨rfl, trivial⟩⟩⟩⟩ ?_))
 rintro _ y ⟨a, rfl, x⟩
 have := a.size
 have hbr := hbr.keep a (m.apart hpa hBw)
 have g := g.keepO h a zz
 have hb := grow_stepP hb a m
 have a : (ptsB o k.toNat 0 0).length = 256 := (pts_len _ _ _ _).trans (by first | assumption | exact Rep.len (by assumption))
 have a := l.empty (k := k.toNat) zx
 refine zB ?_
 refine f _ _ (zF fun _ f => zH (zG (zC hN rfl c) (zG ((zC hN rfl d).trans (congrArg (Value.int .i64) (show _ = ((k.toNat : Nat) : Int) by omega))) (zG (zC hN rfl e) (zj ok40 (lays_ret (ptsB o k.toNat 0 0) _ _ _ _ (by first | assumption | exact Rep.len (by assumption)) g x r _ _ _ hbr (m.apart hpa hBw) (L.set k.toNat []) a k.toNat (by simp; omega) (set_get zx) (by simp only [List.length_set]; simp only [List.length_nil] at hss; unfold leftL at *; omega)) ⟨(zA hN rfl), ⟨(zA hN rfl), ⟨(zA hN rfl), trivial⟩⟩⟩ ?_)))))
 rintro _ h ⟨a, rfl, d, e, c⟩
 have := a.size
 have g := g.keepO x a zz
 have hb := grow_stepP hb a m
 have a : d.length = 256 := c.len
 refine zB (f _ _ (zF fun _ f => zH (zD rfl (zB (f _ _ (wp_ret (ret1 rfl hd (zA hN rfl) ⟨_, rfl, ?_⟩)))))))
 obtain ⟨t, v⟩ := set_ok (L := L) (k := k) zx (badB_f (r := r) zx) zx
 rw [t, v, ← layL_set zx]
 exact ⟨hb, rfl, ⟨_, _, _, g, e, c.pg, (RowP.laid zz m)⟩⟩

theorem drop_ret (L : List By) (bs : By) (n : Nat) (vb : Value) (base p : Nat) (w : World) (hbase : base ≤ w.heap.size) (hx : Bx w p 50 [vb]) (O : Own w base 5 1 vb n (bs.map u8v)) (hP : Pg n bs L vb) (k : Int) (hk : -9223372036854775808 ≤ k ∧ k ≤ 9223372036854775807) : Ret Try.prog 13 #[(ptr p 0), (.int .i64 k)] w (fun v' w' => w.grownBy w' (pgRow p n vb) ∧ v' = .int .i64 (dropE L k) ∧ ∃ u n' bs', Bx w' p 50 [u] ∧ Own w' base 5 1 u n' (bs'.map u8v) ∧ Pg n' bs' (dropN L k) u ∧ RowP p n' u (pgRow p n vb) w.heap.size) := by
 have hb := grown_refl w (pgRow p n vb)
 refine enter (N := 33) Try.func13 rfl rfl (by simp) fun a hN hd hA => ?_
 have c : a.tmps.getD 0 undef = (ptr p 0) := hA 0 (by simp)
 have d : a.tmps.getD 1 undef = (.int .i64 k) := hA 1 (by simp)
 clear hA
 refine zF fun _ a => zH (zD rfl (zB (a _ _ (zF fun _ a => zF fun _ e => zH (zG (zC hN rfl c) ?_)))))
 refine op_peq_some ptrt24 (zA hN rfl) rfl (zB (e _ _ (wp_cond_false (zA hN rfl) (wp_skip (a _ _ (zF fun _ a => zH (zG (zC hN rfl c) (zj ok36 (ready_ret L bs n _ _ _ _ hbase hx O hP) ⟨(zA hN rfl), trivial⟩ ?_))))))))
 rintro _ v ⟨t, rfl, q, g, f, h, l, o⟩
 have := t.size
 have hb := grown_trans hb t
 refine zB ?_
 refine a _ _ (zF fun _ a => zF fun _ e => zH (zG (zC hN rfl c) (zG (zC hN rfl d) (zj ok38 (size_ret g _ _ _ _ (by first | assumption | exact Rep.len (by assumption)) f h L l k zx) ⟨(zA hN rfl), ⟨(zA hN rfl), trivial⟩⟩ ?_))))
 rintro _ v ⟨t, rfl⟩
 have t := zQ t
 have := t.size
 have f := f.keep0 t
 have h := h.keep0 t
 have hb := grow_step0 hb t
 have t := sizeL_le l k
 refine op_eql (zA hN rfl) rfl (fun t => ?_) (fun t => ?_)
 ·
  refine zB (e _ _ (wp_cond_true (zA hN rfl) (zF fun _ e => zH (zD rfl (zB (e _ _ (wp_ret (zO ( (ret1 rfl hd (zA hN rfl) ⟨_, rfl, ?_⟩))))))))))
  obtain ⟨t, v⟩ := drop_none (L := L) (k := k) zx
  rw [t, v]
  exact ⟨hb, rfl, ⟨_, _, _, f, h, l.pg, (RowP.laid zz o)⟩⟩
 refine zB (e _ _ (wp_cond_false (zA hN rfl) (wp_skip (a _ _ (zF fun _ a => zH ?_)))))
 have hkn := sizeL_nat (L := L) (s := k) zx
 have hmm := l.fits
 refine zG (zC hN rfl c) (zG ((zC hN rfl d).trans (congrArg (Value.int .i64) (show _ = ((k.toNat : Nat) : Int) by omega))) (zj ok41 (pts_ret g _ _ _ _ (by first | assumption | exact Rep.len (by assumption)) f h k.toNat 0 0 zx zx zx) ⟨(zA hN rfl), ⟨(zA hN rfl), ⟨rfl, ⟨rfl, trivial⟩⟩⟩⟩ ?_))
 rintro _ y ⟨x, rfl, d⟩
 have := x.size
 have f := f.keepO h x zz
 have hb := grow_stepP hb x o
 have h : (ptsB g k.toNat 0 0).length = 256 := (pts_len _ _ _ _).trans (by first | assumption | exact Rep.len (by assumption))
 have h := l.empty (k := k.toNat) zx
 refine zB (a _ _ (seq_join2 (N := 33) (fun az_ w' => ∃ (m : Nat), (Sl az_ 0 (ptr p 0)) ∧ (Sl az_ 4 (.int .i64 0)) ∧ (Sl az_ 5 (.int .i64 ((m : Nat) : Int))) ∧ (m ≤ (L.set k.toNat []).length) ∧ (cutL (L.set k.toNat []) = (L.set k.toNat []).take m) ∧ (w.grownBy w' (pgRow p n vb)) ∧ (y.heap.size ≤ w'.heap.size) ∧ (Bx w' p 50 [q]) ∧ (Own w' base 5 1 q 256 ((ptsB g k.toNat 0 0).map u8v))) (fun l => ?_) ?_))
 ·
  refine zF fun _ a => zH (zG (zC hN rfl c) (zj ok37 (many_ret (ptsB g k.toNat 0 0) _ _ _ _ (by first | assumption | exact Rep.len (by assumption)) f d (L.set k.toNat []) h) ⟨(zA hN rfl), trivial⟩ ?_))
  rintro _ y ⟨x, rfl⟩
  have x := zQ x
  have := x.size
  have f := f.keep0 x
  have d := d.keep0 x
  have hb := grow_step0 hb x
  have x := Rep.fits h
  refine zD (zA hN rfl) (zB (a _ _ (zF fun _ a => wp_block (loop_m (fun mz_ az_ w' => ∃ (m : Nat), mz_ = (m + 1) ∧ (Sl az_ 0 (ptr p 0)) ∧ (Sl az_ 4 (.int .i64 0)) ∧ (Sl az_ 5 (.int .i64 ((m : Nat) : Int))) ∧ (m ≤ (L.set k.toNat []).length) ∧ (cutL (L.set k.toNat []) = cutL ((L.set k.toNat []).take m)) ∧ (w.grownBy w' (pgRow p n vb)) ∧ (y.heap.size ≤ w'.heap.size) ∧ (Bx w' p 50 [q]) ∧ (Own w' base 5 1 q 256 ((ptsB g k.toNat 0 0).map u8v))) _ hN hd ⟨L.length, rfl, (zL hN rfl c), (zU hN rfl), (zU hN rfl).trans (congrArg (Value.int .i64) (by simp)), (by simp), (by rw [List.take_of_length_le (by simp)]), hb, (Nat.le_refl _), f, d⟩ ?_))))
  rintro _ D C c A ⟨m, rfl, y, z, x, q, hcu, hb, B, f, d⟩
  have := hb.size
  refine zF fun _ e => zF fun _ B => zH (zG (zC c rfl x) (op_gtr (zA c rfl) rfl (fun C => ?_) (fun C => ?_)))
  ·
   refine zG (zA c rfl) (zS (j := 2) (dj := 21) (b := true) rfl rfl rfl (zA c rfl) (zG (zC c rfl y) ?_))
   refine zS (j := 2) (dj := 21) (b := true) rfl rfl rfl (zA c rfl) (zG (zC c rfl x) (zS (j := 2) (dj := 21) (b := true) rfl rfl rfl (zA c rfl) (op_sub (r := ((m - 1 : Nat) : Int)) (zA c rfl) rfl (by rw [IntKind.wrap_i64]; omega) (zS (j := 2) (dj := 21) (b := true) rfl rfl rfl (zA c rfl) (zj ok38 (size_ret (ptsB g k.toNat 0 0) _ _ _ _ (by first | assumption | exact Rep.len (by assumption)) f d (L.set k.toNat []) h ((m - 1 : Nat) : Int) zx) ⟨(zA c rfl), ⟨(zA c rfl), trivial⟩⟩ ?_)))))
   rintro _ D ⟨C, rfl⟩
   have C := zQ C
   have := C.size
   have f := f.keep0 C
   have d := d.keep0 C
   have hb := grow_step0 hb C
   have C := sizeL_le h ((m - 1 : Nat) : Int)
   refine zS (j := 2) (dj := 21) (b := true) rfl rfl rfl (zA c rfl) (op_eql (zA c rfl) rfl (fun C => ?_) (fun C => ?_))
   ·
    refine zc (zA c rfl) (zA c rfl) (zB (B _ _ (wp_cond_true (zA c rfl) (wp_skip (e _ _ (wp_block (zH (zG (zC c rfl x) (op_sub (r := ((m - 1 : Nat) : Int)) (zA c rfl) rfl (by rw [IntKind.wrap_i64]; omega) (zD (zA c rfl) (zB (blk_normal ?_))))))))))))
    -- round 13F 20T 26T
    have hsm := sizeL_in (L := (L.set k.toNat [])) (s := m - 1) zx
    exact zg _ c A ⟨(m - 1), rfl, (zL c rfl y), (zL c rfl z), (zU c rfl).trans (congrArg (Value.int .i64) zx), zx, (hcu.trans (cutL_go zx q (List.eq_nil_of_length_eq_zero zx))), hb, zx, f, d⟩ zx
   refine zc (zA c rfl) (zA c rfl) (zB (B _ _ (wp_cond_false (zA c rfl) (wp_exit (then_exit (then_exit (blk_hit (a _ _ ?_))))))))
   exact l _ _ _ c A ⟨m, (zL c rfl y), (zL c rfl z), (zL c rfl x), q, (hcu.trans (cutL_stop q (.inr (fun e => by have h8 := sizeL_in (L := (L.set k.toNat [])) (s := m - 1) zx; rw [e] at h8; simp at h8; omega)))), hb, zx, f, d⟩
  refine zG (zA c rfl) (zR (j := 2) (dj := 21) (b := true) rfl rfl rfl (zA c rfl) rfl rfl (zR (j := 2) (dj := 21) (b := true) rfl rfl rfl (zA c rfl) rfl rfl (zR (j := 2) (dj := 21) (b := true) rfl rfl rfl (zA c rfl) rfl rfl (zR (j := 2) (dj := 21) (b := true) rfl rfl rfl (zA c rfl) rfl rfl (zR (j := 2) (dj := 21) (b := true) rfl rfl rfl (zA c rfl) rfl rfl (zd (zA c rfl) rfl (zB (B _ _ (wp_cond_false (zA c rfl) (wp_exit (then_exit (then_exit (blk_hit (a _ _ ?_))))))))))))))
  exact l _ _ _ c A ⟨m, (zL c rfl y), (zL c rfl z), (zL c rfl x), q, (hcu.trans (cutL_stop q (.inl zx))), hb, zx, f, d⟩
 rintro B z c x ⟨m, l, y, e, q, hcu, hb, A, f, d⟩
 have := hb.size
 refine zF fun _ a => zH ?_
 have y : m ≤ L.length := by simpa using q
 refine zG (zC c rfl l) (zG (zC c rfl e) (zj ok42 (set_ret (ptsB g k.toNat 0 0) _ _ _ _ (by first | assumption | exact Rep.len (by assumption)) f d 0 m zx zx) ⟨(zA c rfl), ⟨rfl, ⟨(zA c rfl), trivial⟩⟩⟩ ?_))
 rintro _ q ⟨e, rfl, l⟩
 have := e.size
 have f := f.keepO d e zz
 have hb := grow_stepP hb e o
 have d : (setB (ptsB g k.toNat 0 0) 0 m).length = 256 := (setB_len _ _ _).trans (by first | assumption | exact Rep.len (by assumption))
 have d := h.cut (m := m) zx
 refine zB (a _ _ (zF fun _ a => zH (zD rfl (zB (a _ _ (wp_ret (ret1 rfl x (zA c rfl) ⟨_, rfl, ?_⟩)))))))
 obtain ⟨t, v⟩ := drop_ok (L := L) (k := k) zx
 rw [t, v, hcu]
 exact ⟨hb, rfl, ⟨_, _, _, f, l, d.pg, (RowP.laid zz o)⟩⟩

theorem slots_ret (L : List By) (bs : By) (n : Nat) (vb : Value) (base p : Nat) (w : World) (hbase : base ≤ w.heap.size) (hx : Bx w p 50 [vb]) (O : Own w base 5 1 vb n (bs.map u8v)) (hP : Pg n bs L vb)  : Ret Try.prog 12 #[(ptr p 0)] w (fun v' w' => w.grownBy w' (pgRow p n vb) ∧ ∃ x, v' = x ∧ Own w' w.heap.size 3 1 x (slotsI L L.length).length ((slotsI L L.length).map (Value.int .i64)) ∧ ∃ u n' bs', Bx w' p 50 [u] ∧ Own w' base 5 1 u n' (bs'.map u8v) ∧ Pg n' bs' (L) u ∧ RowP p n' u (pgRow p n vb) w.heap.size) := by
 have hb := grown_refl w (pgRow p n vb)
 refine enter (N := 24) Try.func12 rfl rfl (by simp) fun a hN hd hA => ?_
 have b : a.tmps.getD 0 undef = (ptr p 0) := hA 0 (by simp)
 clear hA
 refine zF fun _ c => zH (zD rfl (zB (c _ _ (zF fun _ c => zF fun _ a => zH (zG (zC hN rfl b) ?_)))))
 refine op_peq_some ptrt24 (zA hN rfl) rfl (zB (a _ _ (wp_cond_false (zA hN rfl) (wp_skip (c _ _ (zF fun _ c => zH (zG (zC hN rfl b) (zj ok36 (ready_ret L bs n _ _ _ _ hbase hx O hP) ⟨(zA hN rfl), trivial⟩ ?_))))))))
 rintro _ o ⟨j, rfl, k, h, d, f, g, l⟩
 have := j.size
 have hb := grown_trans hb j
 refine zB (c _ _ (zF fun _ c => zH (zD rfl ?_)))
 refine zB (c _ _ (zF fun _ c => zF fun _ a => zH (zG (zC hN rfl b) (zj ok37 (many_ret h _ _ _ _ (by first | assumption | exact Rep.len (by assumption)) d f L g) ⟨(zA hN rfl), trivial⟩ ?_))))
 rintro _ o ⟨j, rfl⟩
 have j := zQ j
 have := j.size
 have d := d.keep0 j
 have f := f.keep0 j
 have hb := grow_step0 hb j
 have j := Rep.fits g
 refine zG rfl (zB (a _ _ (wp_block (loop_m (fun mz_ az_ w' => ∃ (m : Nat) (x : Value), mz_ = L.length - m ∧ (Sl az_ 0 (ptr p 0)) ∧ (Sl az_ 2 (.slice none 0 0)) ∧ (Sl az_ 10 (.int .i64 ((L.length : Nat) : Int))) ∧ (Sl az_ 11 (.int .i64 ((m : Nat) : Int))) ∧ (Sl az_ 3 x) ∧ (m ≤ L.length) ∧ (w.grownBy w' (pgRow p n vb)) ∧ (o.heap.size ≤ w'.heap.size) ∧ (Bx w' p 50 [k]) ∧ (Own w' base 5 1 k 256 (h.map u8v)) ∧ (Own w' w.heap.size 3 1 x (slotsI L m).length ((slotsI L m).map (Value.int .i64)))) _ hN hd ⟨0, _, rfl, (zL hN rfl b), (zU hN rfl), (zU hN rfl), (zU hN rfl), (zU hN rfl), Nat.zero_le _, hb, (Nat.le_refl _), d, f, (Own.nil _ _ _ _)⟩ ?_))))
 rintro _ y z b q ⟨m, x, rfl, t, v, r, k, o, hm, hb, A, d, f, j⟩
 have := hb.size
 refine zF fun _ a => zH (op_lss (zC b rfl k) (zC b rfl r) (fun y => ?_) (fun y => ?_))
 ·
  refine zB (a _ _ (zF fun _ a => wp_cond_true (zA b rfl) (wp_skip (a _ _ (zF fun _ a => wp_block (zF fun _ y => zH (zG (zC b rfl k) (zD (zA b rfl) ?_))))))))
  refine zB (y _ _ (zF fun _ y => zH (zG (zC b rfl t) (zG (zA b rfl) (zj ok38 (size_ret h _ _ _ _ (by first | assumption | exact Rep.len (by assumption)) d f L g ((m : Nat) : Int) zx) ⟨(zA b rfl), ⟨(zA b rfl), trivial⟩⟩ ?_)))))
  rintro _ z ⟨h, rfl⟩
  have h := zQ h
  have := h.size
  have d := d.keep0 h
  have f := f.keep0 h
  have j := j.keep0 h
  have hb := grow_step0 hb h
  have h := sizeL_le g ((m : Nat) : Int)
  refine op_gtr (zA b rfl) rfl (fun h => ?_) (fun h => ?_)
  ·
   refine zB (y _ _ (wp_cond_true (zA b rfl) (zH ?_)))
   have hslen := slotsI_len L m
   have hsg := slotsI_go (L := L) (m := m) (by have := sizeL_in (L := L) (s := m) zx; omega)
   have hmm := g.fits
   refine zG (zC b rfl o) (zG (zA b rfl) (op_bslice (e := 3) (pv := [(0, (.int .i64 ((m : Nat) : Int)))]) (cs := [(.int .i64 ((m : Nat) : Int))]) ⟨rfl, (zA b rfl), trivial⟩ zy ?_))
   intro A B D C z h
   have := h.size
   have j := j.keep0 h
   have hb := grow_step0 hb h
   have A := j
   refine op_append slt29 (zA b rfl) A (zA b rfl) (Src.ofRd Try.underlying29 zz (RdC.ofBx (sz := 1) (n := 1) z rfl zz) (by simp [Value.oneCell', u8v])) (by unfold maxLen; omega) zx hb.size ?_
   intro D C B z E
   have := z.size
   have d := (d.keep0 h).keepO A z zz
   have f := (f.keep0 h).keepT A z zz
   have hb := grow_stepO hb A z zx
   have B : Own C w.heap.size 3 1 D (slotsI L (m + 1)).length (((slotsI L (m + 1))).map (Value.int .i64)) := by rw [hsg]; exact B.cast (by rw [List.length_append]; rfl) (by rw [List.map_append]; rfl)
   refine zD (zA b rfl) (zB (a _ _ (zH (op_add (zC b rfl k) rfl (add64 zx) (zG (zA b rfl) (zB ?_))))))
   -- round 12T 17T
   have hsm := sizeL_in (L := L) (s := m) zx
   exact zg _ b q ⟨(m + 1), _, rfl, (zL b rfl t), (zL b rfl v), (zL b rfl r), (zU b rfl).trans (congrArg (Value.int .i64) zx), (zU b rfl), zx, hb, zx, d, f, (B.cast rfl rfl)⟩ zx
  refine zB (y _ _ (wp_cond_false (zA b rfl) (wp_skip (a _ _ (zH (op_add (zC b rfl k) rfl (add64 zx) (zG (zA b rfl) (zB ?_))))))))
  -- round 12T 17F
  have hsm := sizeL_in (L := L) (s := m) zx
  exact zg _ b q ⟨(m + 1), _, rfl, (zL b rfl t), (zL b rfl v), (zL b rfl r), (zU b rfl).trans (congrArg (Value.int .i64) zx), (zL b rfl o), zx, hb, zx, d, f, (j.cast (by rw [slotsI_skip zx]) (by rw [slotsI_skip zx]))⟩ zx
 refine zB (a _ _ (zF fun _ a => wp_cond_false (zA b rfl) (wp_exit (then_exit (then_exit (blk_hit (c _ _ (zF fun _ c => zH (zG (zC b rfl o) (zD (zA b rfl) (zB (c _ _ (wp_ret (ret1 rfl q (zA b rfl) ⟨_, rfl, ?_⟩))))))))))))))
 have hme : m = L.length := by omega
 subst hme
 exact ⟨hb, _, rfl, j, ⟨_, _, _, d, f, g.pg, (RowP.laid zz l)⟩⟩

theorem new_ret (w : World) : Ret Try.prog 10 #[] w (fun v' w' => Below w.heap.size w w' ∧ ∃ p, v' = ptr p 0 ∧ w.heap.size ≤ p ∧ Bx w' p 50 [.slice none 0 0]) := by
 have hb := Below.refl w.heap.size w
 refine enter (N := 3) Try.func10 rfl rfl (by simp) fun a hN hd hA => ?_
 clear hA
 refine zF fun _ a => zH (zD rfl (zB (a _ _ (zF fun _ a => zH (zf (pv := []) (v := (Value.agg #[(.slice none 0 0)])) trivial zy (op_box (cs := [(.slice none 0 0)]) (zA hN rfl) rfl ?_))))))
 intro e g b f c d
 obtain ⟨hb, _⟩ := yE hb d
 refine zD (zA hN rfl) (zB (a _ _ (wp_ret (ret1 rfl hd (zA hN rfl) ⟨_, rfl, ?_⟩))))
 exact ⟨hb, _, rfl, b, c⟩

theorem bytes_ret (L : List By) (bs : By) (n : Nat) (vb : Value) (base p : Nat) (w : World) (hbase : base ≤ w.heap.size) (hx : Bx w p 50 [vb]) (O : Own w base 5 1 vb n (bs.map u8v)) (hP : Pg n bs L vb)  : Ret Try.prog 25 #[(ptr p 0)] w (fun v' w' => w.grownBy w' (pgRow p n vb) ∧ ∃ (x : Value) (bx : By), v' = x ∧ Own w' w.heap.size 5 1 x 256 (bx.map u8v) ∧ Rep bx L ∧ ∃ u n' bs', Bx w' p 50 [u] ∧ Own w' base 5 1 u n' (bs'.map u8v) ∧ Pg n' bs' (L) u ∧ RowP p n' u (pgRow p n vb) w.heap.size ∧ DJ x u) := by
 have hb := grown_refl w (pgRow p n vb)
 refine enter (N := 13) Try.func25 rfl rfl (by simp) fun a hN hd hA => ?_
 have b : a.tmps.getD 0 undef = (ptr p 0) := hA 0 (by simp)
 clear hA
 refine zF fun _ a => zH (zD rfl (zB (a _ _ (zF fun _ a => zF fun _ c => zH (zG (zC hN rfl b) ?_)))))
 refine op_peq_some ptrt24 (zA hN rfl) rfl (zB (c _ _ (wp_cond_false (zA hN rfl) (wp_skip (a _ _ (zF fun _ a => zH (zG (zC hN rfl b) (zj ok36 (ready_ret L bs n _ _ _ _ hbase hx O hP) ⟨(zA hN rfl), trivial⟩ ?_))))))))
 rintro _ m ⟨h, rfl, f, l, d, c, g, j⟩
 have := h.size
 have hb := grown_trans hb h
 refine zB (a _ _ (zF fun _ a => zH ?_))
 have hplt := d.lt
 refine op_bslice (e := 5) (pv := []) (cs := []) trivial zy ?_
 intro r m q s o h
 have q : f.ownBlock ≠ some m := fun hh => by have := (c.lt _ hh).2; omega
 have := h.size
 have d := d.keep0 h
 have c := c.keep0 h
 have hb := grow_step0 hb h
 refine zG (zC hN rfl b) (op_nil (zA hN rfl) (zM fld50_0 (zA hN rfl) (zN one22 (zA hN rfl) (d.cell rfl) ?_)))
 have b := (Own.ofBx (base := w.heap.size) (sz := 1) (n := 0) o rfl zz zx)
 refine op_append slt22 (zA hN rfl) b (zA hN rfl) (Src.ofRd Try.underlying22 zz c.rdw (by simp [Value.oneCell', u8v])) (by unfold maxLen; omega) zx hb.size ?_
 intro r s o h t
 have v : DJ f (.slice (some ⟨m, 0, none⟩) 0 0) := fun k hk hg => by simp [Value.ownBlock] at hg; subst hg; exact q hk
 have m : DJ f r := DJ.step t (fun k hk => (c.lt k hk).2) v
 have := h.size
 have d := d.keep h (by simp [Value.ownBlock]; try omega)
 have c := c.keepD h v
 have hb := grow_stepO hb b h zx
 have o : Own s w.heap.size 5 1 r (0 + 256) ((l).map u8v) := by simpa [u8v] using o
 refine zD (zA hN rfl) (zB (a _ _ (wp_ret (ret1 rfl hd (zA hN rfl) ⟨_, rfl, ?_⟩))))
 exact ⟨hb, _, _, rfl, o.cast zx rfl, g, ⟨_, _, _, d, c, g.pg, (RowP.laid zz j), m.symm⟩⟩

end Go.Proofs.Ytdhpalioifjfbaa

namespace Go.Proofs.Ytdhpalioifjfbaa
open Go.Gx Go.RowKit

theorem pg_out {base p n n' : Nat} {L' : List By} {F : Nat → Prop} {w w' : World} {vb u : Value} {bs' : By} (h0 : base ≤ p) (hx : Bx w p 50 [vb]) (hF : ∀ x, F x ↔ x = p ∨ Bl vb x) (E : w.grownBy w' (pgRow p n vb)) (hx' : Bx w' p 50 [u]) (O' : Own w' base 5 1 u n' (bs'.map u8v)) (P' : Pg n' bs' L' u) (hR : RowP p n' u (pgRow p n vb) w.heap.size) :
    Gr w w' F ∧ ∃ F', PageR w' base p L' F' ∧ NewF w.heap.size F F' ∧ ∀ y, F' y → y = p ∨ Bl u y := by
  have hrow : ∀ x, pgRow p n vb = some x → F x := fun x hx => by
    unfold pgRow at hx
    split at hx
    · injection hx with hx; exact (hF x).2 (.inl hx.symm)
    · exact (hF x).2 (.inr hx)
  refine ⟨(Gr.of E).mono fun x _ hx => hrow x hx, _, ⟨u, n', bs', h0, hx', O', P', fun x => Iff.rfl⟩, fun x hx => ?_, fun y hy => hy⟩
  rcases hx with rfl | hx
  · exact .inl ((hF x).2 (.inl rfl))
  · rcases hR.ro with q | q
    · exact .inl (hrow x (q.symm.trans hx))
    · exact .inr (q x hx)
theorem pg_put {base p : Nat} {L : List By} {F : Nat → Prop} {w : World} (h : PageR w base p L F) (hbase : base ≤ w.heap.size) {r : By} {bv : Value} {Lo Bo : Nat} (hbr : RdC w Lo Bo 1 bv r.length (r.map u8v)) (hap : ∀ x, F x → x < Lo ∨ Bo ≤ x) (hBw : Bo ≤ w.heap.size)  : Ret Try.prog 11 #[ptr p 0, bv] w (fun v' w' =>  Gr w w' F ∧ v' = .tuple #[.int .i64 (putK L r), .int .i64 (putE L r)] ∧ ∃ F', PageR w' base p (putN L r) F' ∧ NewF w.heap.size F F') := by
  obtain ⟨vb, n, bs, h0, hx, O, hP, hF⟩ := h
  have hap2 : ∀ q, pgRow p n vb = some q → q < Lo ∨ Bo ≤ q := fun q hq => hap q ((hF q).2 (by
    unfold pgRow at hq
    split at hq
    · injection hq with hq; exact .inl hq.symm
    · exact .inr hq))
  refine (put_ret L bs n vb base p w hbase hx O hP r bv Lo Bo hbr hap2 hBw).mono fun v' w' q => ?_
  obtain ⟨E, hv, u, n', bs', hx', O', P', hR⟩ := q
  obtain ⟨E2, F', hP', hN', hs'⟩ := pg_out h0 hx hF E hx' O' P' hR
  exact ⟨E2, hv, F', hP', hN'⟩
theorem pg_set {base p : Nat} {L : List By} {F : Nat → Prop} {w : World} (h : PageR w base p L F) (hbase : base ≤ w.heap.size) {r : By} {bv : Value} {Lo Bo : Nat} (hbr : RdC w Lo Bo 1 bv r.length (r.map u8v)) (hap : ∀ x, F x → x < Lo ∨ Bo ≤ x) (hBw : Bo ≤ w.heap.size) (k : Int) (hk : -9223372036854775808 ≤ k ∧ k ≤ 9223372036854775807)  : Ret Try.prog 20 #[ptr p 0, .int .i64 k, bv] w (fun v' w' =>  Gr w w' F ∧ v' = .int .i64 (setE L k r) ∧ ∃ F', PageR w' base p (setN L k r) F' ∧ NewF w.heap.size F F') := by
  obtain ⟨vb, n, bs, h0, hx, O, hP, hF⟩ := h
  have hap2 : ∀ q, pgRow p n vb = some q → q < Lo ∨ Bo ≤ q := fun q hq => hap q ((hF q).2 (by
    unfold pgRow at hq
    split at hq
    · injection hq with hq; exact .inl hq.symm
    · exact .inr hq))
  refine (setx_ret L bs n vb base p w hbase hx O hP r bv Lo Bo hbr hap2 hBw k hk).mono fun v' w' q => ?_
  obtain ⟨E, hv, u, n', bs', hx', O', P', hR⟩ := q
  obtain ⟨E2, F', hP', hN', hs'⟩ := pg_out h0 hx hF E hx' O' P' hR
  exact ⟨E2, hv, F', hP', hN'⟩
theorem pg_drop {base p : Nat} {L : List By} {F : Nat → Prop} {w : World} (h : PageR w base p L F) (hbase : base ≤ w.heap.size) (k : Int) (hk : -9223372036854775808 ≤ k ∧ k ≤ 9223372036854775807)  : Ret Try.prog 13 #[ptr p 0, .int .i64 k] w (fun v' w' =>  Gr w w' F ∧ v' = .int .i64 (dropE L k) ∧ ∃ F', PageR w' base p (dropN L k) F' ∧ NewF w.heap.size F F') := by
  obtain ⟨vb, n, bs, h0, hx, O, hP, hF⟩ := h
  refine (drop_ret L bs n vb base p w hbase hx O hP k hk).mono fun v' w' q => ?_
  obtain ⟨E, hv, u, n', bs', hx', O', P', hR⟩ := q
  obtain ⟨E2, F', hP', hN', hs'⟩ := pg_out h0 hx hF E hx' O' P' hR
  exact ⟨E2, hv, F', hP', hN'⟩
theorem pg_slots {base p : Nat} {L : List By} {F : Nat → Prop} {w : World} (h : PageR w base p L F) (hbase : base ≤ w.heap.size)  : Ret Try.prog 12 #[ptr p 0] w (fun v' w' =>  Gr w w' F ∧ Own w' w.heap.size 3 1 v' (slotsI L L.length).length ((slotsI L L.length).map (Value.int .i64)) ∧ ∃ F', PageR w' base p (L) F' ∧ NewF w.heap.size F F') := by
  obtain ⟨vb, n, bs, h0, hx, O, hP, hF⟩ := h
  refine (slots_ret L bs n vb base p w hbase hx O hP ).mono fun v' w' q => ?_
  obtain ⟨E, x, rfl, OX, u, n', bs', hx', O', P', hR⟩ := q
  obtain ⟨E2, F', hP', hN', hs'⟩ := pg_out h0 hx hF E hx' O' P' hR
  exact ⟨E2, OX, F', hP', hN'⟩
theorem pg_get {base p : Nat} {L : List By} {F : Nat → Prop} {w : World} (h : PageR w base p L F) (hbase : base ≤ w.heap.size) (k : Int) (hk : -9223372036854775808 ≤ k ∧ k ≤ 9223372036854775807)  : Ret Try.prog 15 #[ptr p 0, .int .i64 k] w (fun v' w' =>  Gr w w' F ∧ ∃ x, v' = .tuple #[x, .int .i64 (dropE L k)] ∧ Own w' w.heap.size 5 1 x (getL L k).length ((getL L k).map u8v) ∧ ∃ F', PageR w' base p (L) F' ∧ NewF w.heap.size F F' ∧ Dj (Bl x) F') := by
  obtain ⟨vb, n, bs, h0, hx, O, hP, hF⟩ := h
  refine (get_ret L bs n vb base p w hbase hx O hP k hk).mono fun v' w' q => ?_
  obtain ⟨E, x, rfl, OX, u, n', bs', hx', O', P', hR, hd⟩ := q
  obtain ⟨E2, F', hP', hN', hs'⟩ := pg_out h0 hx hF E hx' O' P' hR
  exact ⟨E2, x, rfl, OX, F', hP', hN', fun y hy hf => (hs' y hf).elim (fun e => OX.neB hx' (by decide) (e ▸ hy)) (fun q => hd y hy q)⟩
theorem pg_new {p : Nat} {w : World} {base : Nat} (h0 : base ≤ p) (hx : Bx w p 50 [.slice none 0 0]) : PageR w base p [] (fun x => x = p) :=
  ⟨.slice none 0 0, 0, [], h0, hx, Own.nil _ _ _ _, Pg.zero, fun x => ⟨.inl, fun q => q.elim id fun q => (by cases q)⟩⟩
end Go.Proofs.Ytdhpalioifjfbaa

namespace Go.Proofs.Ytdhpalioifjfbaa
open Go.Gx Go.RowKit
theorem pa_put {base p : Nat} {z : Int} {P : PM} {ps : List Nat} {L : List By} {F : Nat → Prop} {w : World} (hA : PgAll w base P ps F) (hg : mget P z = some L) (hp : mget (esP P ps) z = some p) (hbase : base ≤ w.heap.size) {r : By} {bv : Value} {Lo Bo : Nat} (hbr : RdC w Lo Bo 1 bv r.length (r.map u8v)) (hap : ∀ x, F x → x < Lo ∨ Bo ≤ x) (hBw : Bo ≤ w.heap.size)  : Ret Try.prog 11 #[ptr p 0, bv] w (fun v' w' => Gr w w' F ∧ v' = .tuple #[.int .i64 (putK L r), .int .i64 (putE L r)] ∧ ∃ F', PgAll w' base (mput P z (putN L r)) ps F' ∧ NewF w.heap.size F F') := by
  obtain ⟨p', F1, hp', hP, hin, turn⟩ := hA.key hg
  obtain rfl : p' = p := Option.some.inj (hp'.symm.trans hp)
  refine (pg_put hP hbase hbr (fun x hx => hap x (hin x hx)) hBw).mono fun v' w' q => ?_
  obtain ⟨E, hv, F2, hP2, hN⟩ := q
  obtain ⟨E2, F', hA', hN', hs'⟩ := turn w' _ F2 E hP2 hN
  exact ⟨E2, hv, F', hA', hN'⟩
theorem pa_set {base p : Nat} {z : Int} {P : PM} {ps : List Nat} {L : List By} {F : Nat → Prop} {w : World} (hA : PgAll w base P ps F) (hg : mget P z = some L) (hp : mget (esP P ps) z = some p) (hbase : base ≤ w.heap.size) {r : By} {bv : Value} {Lo Bo : Nat} (hbr : RdC w Lo Bo 1 bv r.length (r.map u8v)) (hap : ∀ x, F x → x < Lo ∨ Bo ≤ x) (hBw : Bo ≤ w.heap.size) (k : Int) (hk : -9223372036854775808 ≤ k ∧ k ≤ 9223372036854775807)  : Ret Try.prog 20 #[ptr p 0, .int .i64 k, bv] w (fun v' w' => Gr w w' F ∧ v' = .int .i64 (setE L k r) ∧ ∃ F', PgAll w' base (mput P z (setN L k r)) ps F' ∧ NewF w.heap.size F F') := by
  obtain ⟨p', F1, hp', hP, hin, turn⟩ := hA.key hg
  obtain rfl : p' = p := Option.some.inj (hp'.symm.trans hp)
  refine (pg_set hP hbase hbr (fun x hx => hap x (hin x hx)) hBw k hk).mono fun v' w' q => ?_
  obtain ⟨E, hv, F2, hP2, hN⟩ := q
  obtain ⟨E2, F', hA', hN', hs'⟩ := turn w' _ F2 E hP2 hN
  exact ⟨E2, hv, F', hA', hN'⟩
theorem pa_drop {base p : Nat} {z : Int} {P : PM} {ps : List Nat} {L : List By} {F : Nat → Prop} {w : World} (hA : PgAll w base P ps F) (hg : mget P z = some L) (hp : mget (esP P ps) z = some p) (hbase : base ≤ w.heap.size) (k : Int) (hk : -9223372036854775808 ≤ k ∧ k ≤ 9223372036854775807)  : Ret Try.prog 13 #[ptr p 0, .int .i64 k] w (fun v' w' => Gr w w' F ∧ v' = .int .i64 (dropE L k) ∧ ∃ F', PgAll w' base (mput P z (dropN L k)) ps F' ∧ NewF w.heap.size F F') := by
  obtain ⟨p', F1, hp', hP, hin, turn⟩ := hA.key hg
  obtain rfl : p' = p := Option.some.inj (hp'.symm.trans hp)
  refine (pg_drop hP hbase k hk).mono fun v' w' q => ?_
  obtain ⟨E, hv, F2, hP2, hN⟩ := q
  obtain ⟨E2, F', hA', hN', hs'⟩ := turn w' _ F2 E hP2 hN
  exact ⟨E2, hv, F', hA', hN'⟩
theorem pa_slots {base p : Nat} {z : Int} {P : PM} {ps : List Nat} {L : List By} {F : Nat → Prop} {w : World} (hA : PgAll w base P ps F) (hg : mget P z = some L) (hp : mget (esP P ps) z = some p) (hbase : base ≤ w.heap.size)  : Ret Try.prog 12 #[ptr p 0] w (fun v' w' => Gr w w' F ∧ Own w' w.heap.size 3 1 v' (slotsI L L.length).length ((slotsI L L.length).map (Value.int .i64)) ∧ ∃ F', PgAll w' base (mput P z (L)) ps F' ∧ NewF w.heap.size F F') := by
  obtain ⟨p', F1, hp', hP, hin, turn⟩ := hA.key hg
  obtain rfl : p' = p := Option.some.inj (hp'.symm.trans hp)
  refine (pg_slots hP hbase ).mono fun v' w' q => ?_
  obtain ⟨E, hv, F2, hP2, hN⟩ := q
  obtain ⟨E2, F', hA', hN', hs'⟩ := turn w' _ F2 E hP2 hN
  exact ⟨E2, hv, F', hA', hN'⟩
theorem pa_get {base p : Nat} {z : Int} {P : PM} {ps : List Nat} {L : List By} {F : Nat → Prop} {w : World} (hA : PgAll w base P ps F) (hg : mget P z = some L) (hp : mget (esP P ps) z = some p) (hbase : base ≤ w.heap.size) (k : Int) (hk : -9223372036854775808 ≤ k ∧ k ≤ 9223372036854775807)  : Ret Try.prog 15 #[ptr p 0, .int .i64 k] w (fun v' w' => Gr w w' F ∧ ∃ x, v' = .tuple #[x, .int .i64 (dropE L k)] ∧ Own w' w.heap.size 5 1 x (getL L k).length ((getL L k).map u8v) ∧ ∃ F', PgAll w' base (mput P z (L)) ps F' ∧ NewF w.heap.size F F' ∧ Dj (Bl x) F') := by
  obtain ⟨p', F1, hp', hP, hin, turn⟩ := hA.key hg
  obtain rfl : p' = p := Option.some.inj (hp'.symm.trans hp)
  refine (pg_get hP hbase k hk).mono fun v' w' q => ?_
  obtain ⟨E, x, hv, hO, F2, hP2, hN, hdx⟩ := q
  obtain ⟨E2, F', hA', hN', hs'⟩ := turn w' _ F2 E hP2 hN
  exact ⟨E2, x, hv, hO, F', hA', hN', fun y hy hf => (hs' y hf).elim (hdx y hy) (fun q => by have := (hO.lt y hy).1; have := (hA.lt y q).2; omega)⟩
end Go.Proofs.Ytdhpalioifjfbaa

namespace Go.Proofs.Ytdhpalioifjfbaa
open Go.Gx Go.RowKit
theorem pg_bytes {base p : Nat} {L : List By} {F : Nat → Prop} {w : World} (h : PageR w base p L F) (hbase : base ≤ w.heap.size)  : Ret Try.prog 25 #[ptr p 0] w (fun v' w' =>  Gr w w' F ∧ ∃ (x : Value) (bx : By), v' = x ∧ Own w' w.heap.size 5 1 x 256 (bx.map u8v) ∧ Rep bx L ∧ ∃ F', PageR w' base p (L) F' ∧ NewF w.heap.size F F' ∧ Dj (Bl x) F') := by
  obtain ⟨vb, n, bs, h0, hx, O, hP, hF⟩ := h
  refine (bytes_ret L bs n vb base p w hbase hx O hP ).mono fun v' w' q => ?_
  obtain ⟨E, x, bx, rfl, OX, RX, u, n', bs', hx', O', P', hR, hd⟩ := q
  obtain ⟨E2, F', hP', hN', hs'⟩ := pg_out h0 hx hF E hx' O' P' hR
  exact ⟨E2, _, bx, rfl, OX, RX, F', hP', hN', fun y hy hf => (hs' y hf).elim (fun e => OX.neB hx' (by decide) (e ▸ hy)) (fun q => hd y hy q)⟩
end Go.Proofs.Ytdhpalioifjfbaa

namespace Go.Proofs.Ytdhpalioifjfbaa
open Go.Gx Go.RowKit
attribute [local irreducible] wpList wpStill Code.wp Calls

theorem pcopy_ret {base p : Nat} {L : List By} {F0 : Nat → Prop} {w : World} (hbase : base ≤ w.heap.size) (hP : PageR w base p L F0) : Ret Try.prog 49 #[(ptr p 0)] w (fun v' w' => Gr w w' F0 ∧ ∃ (p2 : Nat) (F' F2 : Nat → Prop), v' = ptr p2 0 ∧ w.heap.size ≤ p2 ∧ PageR w' base p L F' ∧ NewF w.heap.size F0 F' ∧ PageR w' w.heap.size p2 L F2 ∧ Dj F' F2) := by
 have hb := Gr.refl w F0
 refine enter (N := 9) Try.func49 rfl rfl (by simp) fun a hN hd hA => ?_
 have b : a.tmps.getD 0 undef = (ptr p 0) := hA 0 (by simp)
 clear hA
 refine zF fun _ a => zH (zD rfl (zB (a _ _ (zF fun _ a => zF fun _ c => zH (zG (zC hN rfl b) ?_)))))
 refine op_peq_some ptrt24 (zA hN rfl) rfl (zB (c _ _ (wp_cond_false (zA hN rfl) (wp_skip (a _ _ (zF fun _ a => zH (zG (zC hN rfl b) (zj ok25 (pg_bytes hP zx) ⟨(zA hN rfl), trivial⟩ ?_))))))))
 rintro c l ⟨f, _, bx, rfl, b, g, F2, d, j, k⟩
 have l := b.mono (base' := w.heap.size) zx
 have := f.size
 have hb := hb.stepF f (fun _ _ h => h)
 have f : NewF w.heap.size F0 F2 := NewF.trans (NewF.refl _ _) j zx
 have b := l
 refine zf (pv := [(0, c)]) (v := (Value.agg #[c])) ⟨rfl, (zA hN rfl), trivial⟩ (by obtain ⟨_, _, _, rfl⟩ := b.sl; kernel_rfl) (op_box (cs := [c]) (zA hN rfl) rfl ?_)
 intro o l n r m j
 have n : ¬ F2 l := fun hf => by have := (d.lt _ hf).2; omega
 obtain ⟨hb, _⟩ := yG hb j
 have b := b.keep0 j
 have d := d.kz j
 refine zD (zA hN rfl) (zB (a _ _ (wp_ret (ret1 rfl hd (zA hN rfl) ⟨_, rfl, ?_⟩))))
 exact ⟨hb, l, _, _, rfl, by omega, d, f, ⟨c, 256, bx, by omega, m, b, .inr ⟨rfl, g⟩, fun _ => Iff.rfl⟩, fun y hy hf => hf.elim (fun e => n (e ▸ hy)) (fun q => k y q hy)⟩

end Go.Proofs.Ytdhpalioifjfbaa

namespace Go.Proofs.Ytdhpalioifjfbaa
open Go.Gx Go.RowKit
theorem pa_copy {base p : Nat} {z : Int} {P : PM} {ps : List Nat} {L : List By} {F : Nat → Prop} {w : World} (hA : PgAll w base P ps F) (hg : mget P z = some L) (hp : mget (esP P ps) z = some p) (hbase : base ≤ w.heap.size) : Ret Try.prog 49 #[ptr p 0] w (fun v' w' => Gr w w' F ∧ ∃ (p2 : Nat) (F' F2 : Nat → Prop), v' = ptr p2 0 ∧ w.heap.size ≤ p2 ∧ PgAll w' base P ps F' ∧ NewF w.heap.size F F' ∧ PageR w' w.heap.size p2 L F2 ∧ Dj F' F2) := by
  obtain ⟨p', F1, hp', hP, hin, turn⟩ := hA.key hg
  obtain rfl : p' = p := Option.some.inj (hp'.symm.trans hp)
  refine (pcopy_ret hbase hP).mono fun v' w' q => ?_
  obtain ⟨E, p2, F2, F3, rfl, h2, hP2, hN, hP3, hd⟩ := q
  obtain ⟨E2, F', hA', hN', hs'⟩ := turn w' _ F2 E hP2 hN
  rw [mput_same hg] at hA'
  exact ⟨E2, p2, F', F3, rfl, h2, hA', hN', hP3, fun y hy hf => (hs' y hy).elim (fun q => hd y q hf) (fun q => by have := (hA.lt y q).2; have := (hP3.lt y hf).1; omega)⟩
end Go.Proofs.Ytdhpalioifjfbaa

namespace Go.Proofs.Ytdhpalioifjfbaa
open Go.Gx Go.RowKit
attribute [local irreducible] wpList wpStill Code.wp Calls

theorem HNew_ret (w : World) : Ret Try.prog 27 #[] w (fun v' w' => Below w.heap.size w w' ∧ ∃ k, v' = ptr k 0 ∧ w.heap.size ≤ k ∧ Bx w' k 71 [.map none, .int .i64 0, .map none]) := by
 have hb := Below.refl w.heap.size w
 refine enter (N := 3) Try.func27 rfl rfl (by simp) fun a hN hd hA => ?_
 clear hA
 refine zF fun _ a => zH (zD rfl (zB (a _ _ (zF fun _ a => zH (zf (pv := []) (v := (Value.agg #[(Value.map none), (.int .i64 0), (Value.map none)])) trivial zy (op_box (cs := [(Value.map none), (.int .i64 0), (Value.map none)]) (zA hN rfl) rfl ?_))))))
 intro g f c e d b
 obtain ⟨hb, _⟩ := yE hb b
 refine zD (zA hN rfl) (zB (a _ _ (wp_ret (ret1 rfl hd (zA hN rfl) ⟨_, rfl, ?_⟩))))
 exact ⟨hb, _, rfl, c, d⟩

theorem HLen_m {base k pm mm : Nat} {P : PM} {ps : List Nat} {M : AM} {nx : Int} {F0 : Nat → Prop} {w : World} (hbase : base ≤ w.heap.size) (hk : Bx w k 71 [.map (some pm), .int .i64 nx, .map (some mm)]) (hA : PgAll w base P ps F0) (hPm : MapC (.int .i64) pv w pm (esP P ps)) (hMm : MapC (.int .u64) plv w mm M) (hne : pm ≠ mm)  : Ret Try.prog 31 #[(ptr k 0)] w (fun v' w' => Below w.heap.size w w' ∧ v' = .int .i64 (M.length : Int)) := by
 have hi_k := hk.lt
 have hi_pm := hPm.lt
 have hi_mm := hMm.lt
 have djk := hA.notBx hk zz zz
 have djp := hA.notMap hPm
 have djm := hA.notMap hMm
 have hb := Below.refl w.heap.size w
 refine enter (N := 10) Try.func31 rfl rfl (by simp) fun a hN hd hA => ?_
 have b : a.tmps.getD 0 undef = (ptr k 0) := hA 0 (by simp)
 clear hA
 refine zF fun _ a => zH (zD rfl (zB (a _ _ (zF fun _ a => zF fun _ c => zH (zG (zC hN rfl b) (op_peq_some ptrt53 (zA hN rfl) rfl (zB ?_)))))))
 refine c _ _ (wp_cond_false (zA hN rfl) (wp_skip (a _ _ (zF fun _ a => zH (zG (zC hN rfl b) (op_nil (zA hN rfl) (zM fld71_2 (zA hN rfl) (zN one69 (zA hN rfl) (hk.cell rfl) (op_len_map Try.underlying69 (zA hN rfl) hMm (zD (zA hN rfl) (zB (a _ _ (wp_ret (ret1 rfl hd (zA hN rfl) ⟨_, rfl, ?_⟩))))))))))))))
 exact ⟨hb, rfl⟩

theorem HPages_m {base k pm mm : Nat} {P : PM} {ps : List Nat} {M : AM} {nx : Int} {F0 : Nat → Prop} {w : World} (hbase : base ≤ w.heap.size) (hk : Bx w k 71 [.map (some pm), .int .i64 nx, .map (some mm)]) (hA : PgAll w base P ps F0) (hPm : MapC (.int .i64) pv w pm (esP P ps)) (hMm : MapC (.int .u64) plv w mm M) (hne : pm ≠ mm)  : Ret Try.prog 32 #[(ptr k 0)] w (fun v' w' => Below w.heap.size w w' ∧ v' = .int .i64 ((esP P ps).length : Int)) := by
 have hi_k := hk.lt
 have hi_pm := hPm.lt
 have hi_mm := hMm.lt
 have djk := hA.notBx hk zz zz
 have djp := hA.notMap hPm
 have djm := hA.notMap hMm
 have hb := Below.refl w.heap.size w
 refine enter (N := 10) Try.func32 rfl rfl (by simp) fun a hN hd hA => ?_
 have b : a.tmps.getD 0 undef = (ptr k 0) := hA 0 (by simp)
 clear hA
 refine zF fun _ a => zH (zD rfl (zB (a _ _ (zF fun _ a => zF fun _ c => zH (zG (zC hN rfl b) (op_peq_some ptrt53 (zA hN rfl) rfl (zB ?_)))))))
 refine c _ _ (wp_cond_false (zA hN rfl) (wp_skip (a _ _ (zF fun _ a => zH (zG (zC hN rfl b) (op_nil (zA hN rfl) (zM fld71_0 (zA hN rfl) (zN one68 (zA hN rfl) (hk.cell rfl) (op_len_map Try.underlying68 (zA hN rfl) hPm (zD (zA hN rfl) (zB (a _ _ (wp_ret (ret1 rfl hd (zA hN rfl) ⟨_, rfl, ?_⟩))))))))))))))
 exact ⟨hb, rfl⟩

theorem HLen_n {base k : Nat} {nx : Int} {w : World} (hbase : base ≤ w.heap.size) (hk : Bx w k 71 [.map none, .int .i64 nx, .map none])  : Ret Try.prog 31 #[(ptr k 0)] w (fun v' w' => Below w.heap.size w w' ∧ v' = .int .i64 0) := by
 have hb := Below.refl w.heap.size w
 refine enter (N := 10) Try.func31 rfl rfl (by simp) fun a hN hd hA => ?_
 have b : a.tmps.getD 0 undef = (ptr k 0) := hA 0 (by simp)
 clear hA
 refine zF fun _ a => zH (zD rfl (zB (a _ _ (zF fun _ a => zF fun _ c => zH (zG (zC hN rfl b) (op_peq_some ptrt53 (zA hN rfl) rfl (zB ?_)))))))
 refine c _ _ (wp_cond_false (zA hN rfl) (wp_skip (a _ _ (zF fun _ a => zH (zG (zC hN rfl b) (op_nil (zA hN rfl) (zM fld71_2 (zA hN rfl) (zN one69 (zA hN rfl) (hk.cell rfl) (op_len_nilmap Try.underlying69 (zA hN rfl) (zD (zA hN rfl) (zB (a _ _ (wp_ret (ret1 rfl hd (zA hN rfl) ⟨_, rfl, ?_⟩))))))))))))))
 exact ⟨hb, rfl⟩

theorem HPages_n {base k : Nat} {nx : Int} {w : World} (hbase : base ≤ w.heap.size) (hk : Bx w k 71 [.map none, .int .i64 nx, .map none])  : Ret Try.prog 32 #[(ptr k 0)] w (fun v' w' => Below w.heap.size w w' ∧ v' = .int .i64 0) := by
 have hb := Below.refl w.heap.size w
 refine enter (N := 10) Try.func32 rfl rfl (by simp) fun a hN hd hA => ?_
 have b : a.tmps.getD 0 undef = (ptr k 0) := hA 0 (by simp)
 clear hA
 refine zF fun _ a => zH (zD rfl (zB (a _ _ (zF fun _ a => zF fun _ c => zH (zG (zC hN rfl b) (op_peq_some ptrt53 (zA hN rfl) rfl (zB ?_)))))))
 refine c _ _ (wp_cond_false (zA hN rfl) (wp_skip (a _ _ (zF fun _ a => zH (zG (zC hN rfl b) (op_nil (zA hN rfl) (zM fld71_0 (zA hN rfl) (zN one68 (zA hN rfl) (hk.cell rfl) (op_len_nilmap Try.underlying68 (zA hN rfl) (zD (zA hN rfl) (zB (a _ _ (wp_ret (ret1 rfl hd (zA hN rfl) ⟨_, rfl, ?_⟩))))))))))))))
 exact ⟨hb, rfl⟩

theorem pageNew_ret (w : World) : Ret Try.prog 10 #[] w (fun v' w' => Below w.heap.size w w' ∧ ∃ p F, v' = ptr p 0 ∧ PageR w' w.heap.size p [] F) :=
  (new_ret w).mono fun v' w' ⟨hb, p, hv, h0, hx⟩ => ⟨hb, p, _, hv, pg_new h0 hx⟩

theorem pkeys_ret {m : Nat} (w : World) : Ret Try.prog 55 #[(Value.map (some m))] w (fun v' w' => Below w.heap.size w w' ∧ ∃ b, w.heap.size ≤ b ∧ v' = .func (.func 61) #[] #[ptr b 0] ∧ Bx w' b 68 [.map (some m)]) := by
 have hb := Below.refl w.heap.size w
 refine enter (N := 4) Try.func55 rfl rfl (by simp) fun a hN hd hA => ?_
 have c : a.tmps.getD 0 undef = (Value.map (some m)) := hA 0 (by simp)
 clear hA
 refine zF fun _ a => zH (op_box (cs := [(Value.map (some m))]) (zC hN rfl c) rfl ?_)
 intro h c g f e d
 obtain ⟨hb, _⟩ := yE hb d
 refine zD rfl (zB (a _ _ (zF fun _ a => zH (op_mkfn (cv := [(ptr c 0)]) ⟨(zA hN rfl), trivial⟩ (zD (zA hN rfl) (zB (a _ _ (wp_ret (ret1 rfl hd (zA hN rfl) ⟨_, rfl, ?_⟩)))))))))
 exact ⟨hb, c, by omega, rfl, e⟩

theorem pkeys_retN (w : World) : Ret Try.prog 55 #[(Value.map none)] w (fun v' w' => Below w.heap.size w w' ∧ ∃ b, w.heap.size ≤ b ∧ v' = .func (.func 61) #[] #[ptr b 0] ∧ Bx w' b 68 [.map none]) := by
 have hb := Below.refl w.heap.size w
 refine enter (N := 4) Try.func55 rfl rfl (by simp) fun a hN hd hA => ?_
 have c : a.tmps.getD 0 undef = (Value.map none) := hA 0 (by simp)
 clear hA
 refine zF fun _ a => zH (op_box (cs := [(Value.map none)]) (zC hN rfl c) rfl ?_)
 intro g c f h d e
 obtain ⟨hb, _⟩ := yE hb e
 refine zD rfl (zB (a _ _ (zF fun _ a => zH (op_mkfn (cv := [(ptr c 0)]) ⟨(zA hN rfl), trivial⟩ (zD (zA hN rfl) (zB (a _ _ (wp_ret (ret1 rfl hd (zA hN rfl) ⟨_, rfl, ?_⟩)))))))))
 exact ⟨hb, c, by omega, rfl, d⟩

theorem puts_m {base k pm mm : Nat} {P : PM} {ps : List Nat} {M : AM} {nx : Int} {F0 : Nat → Prop} {w : World} (hbase : base ≤ w.heap.size) (hk : Bx w k 71 [.map (some pm), .int .i64 nx, .map (some mm)]) (hA : PgAll w base P ps F0) (hPm : MapC (.int .i64) pv w pm (esP P ps)) (hMm : MapC (.int .u64) plv w mm M) (hne : pm ≠ mm) (hI : HInv P nx M) (hnx : nx ≤ 1000000) (hn0 : 0 ≤ nx) (hPl : P.length ≤ 1000000) {r : By} {bv : Value} {Lo Bo : Nat} (hbr : RdC w Lo Bo 1 bv r.length (r.map u8v)) (hap : ∀ x, F0 x → x < Lo ∨ Bo ≤ x) (hBw : Bo ≤ w.heap.size)  : Ret Try.prog 46 #[(ptr k 0), bv] w (fun v' w' => Gr w w' (fun x => x = k ∨ x = pm ∨ F0 x) ∧ ∃ (e : Int) (to : Int × Int) (P' : PM) (nx' : Int) (ps' : List Nat) (F0' : Nat → Prop), v' = .tuple #[plv to, .int .i64 e] ∧ Bx w' k 71 [.map (some pm), .int .i64 nx', .map (some mm)] ∧ PgAll w' base P' ps' F0' ∧ MapC (.int .i64) pv w' pm (esP P' ps') ∧ PutsP P nx r e to P' nx' ∧ NewF w.heap.size F0 F0') := by
 have hi_k := hk.lt
 have hi_pm := hPm.lt
 have hi_mm := hMm.lt
 have hps := hA.1
 have hsl := sortP_len (P := P)
 have hb := Gr.refl w (fun x => x = k ∨ x = pm ∨ F0 x)
 refine enter (N := 87) Try.func46 rfl rfl (by simp) fun a hN hd hA => ?_
 have b : a.tmps.getD 0 undef = (ptr k 0) := hA 0 (by simp)
 have c : a.tmps.getD 1 undef = bv := hA 1 (by simp)
 clear hA
 refine zF fun _ a => zH (op_alloc (cs := [(.int .i64 0), (.int .i64 0)]) zero80 rfl ?_)
 intro h g j l d f
 obtain ⟨hb, _⟩ := yG hb f
 have hk := hk.keep0 f
 have hA := hA.kz f
 refine zD rfl (zB (a _ _ (zF fun _ a => ?_)))
 refine zF fun _ h => zH (zG (zC hN rfl b) (op_nil (zA hN rfl) (zM fld71_0 (zA hN rfl) (zN one68 (zA hN rfl) (hk.cell rfl) (zj ok55 (pkeys_ret _) ⟨(zA hN rfl), trivial⟩ ?_)))))
 rintro _ o ⟨l, n, p, rfl, j⟩
 have l := zQ l
 obtain ⟨hb, _⟩ := yG hb l
 have hA := hA.kz l
 have hPm := (hPm.keep0 f).keep0 l
 refine zj ok54 (sortedKeys_ret hPm (es_wf hps hI hnx) (by rw [esP_len hps]; omega) j) ⟨(zA hN rfl), trivial⟩ ?_
 rintro s t ⟨p, o⟩
 have p := zQ p
 obtain ⟨hb, _⟩ := yG hb p
 have hk := (hk.keep0 l).keep0 p
 have hA := hA.kz p
 have hPm := hPm.keep0 p
 have hMm := ((hMm.keep0 f).keep0 l).keep0 p
 have hbr := ((hbr.keep0 f).keep0 l).keep0 p
 have d := (d.keep0 l).keep0 p
 have j := j.keep0 p
 rw [keysUp_eq hps] at o
 have o := o.mono (base' := w.heap.size) zx
 refine op_len_rd Try.underlying29 (zA hN rfl) o.rdw (zG rfl (zB (h _ _ (wp_block (loop_m (fun mz_ az_ w' => ∃ (i : Nat) (FK : Nat → Prop), mz_ = (sortP P).length - i ∧ (Sl az_ 0 (ptr k 0)) ∧ (Sl az_ 1 bv) ∧ (Sl az_ 4 (ptr g 0)) ∧ (Sl az_ 18 s) ∧ (Sl az_ 19 (.int .i64 (((sortP P).length : Nat) : Int))) ∧ (Sl az_ 20 (.int .i64 ((i : Nat) : Int))) ∧ (i ≤ (sortP P).length) ∧ (NewF w.heap.size F0 FK) ∧ (Gr w w' (fun x => x = k ∨ x = pm ∨ F0 x)) ∧ (t.heap.size ≤ w'.heap.size) ∧ (Bx w' k 71 [(Value.map (some pm)), (.int .i64 nx), (Value.map (some mm))]) ∧ (MapC (.int .i64) pv w' pm (esP P ps)) ∧ (MapC (.int .u64) plv w' mm M) ∧ (RdC w' Lo Bo 1 bv r.length (r.map u8v)) ∧ (Bx w' g 80 [(.int .i64 0), (.int .i64 0)]) ∧ (Bx w' n 68 [(Value.map (some pm))]) ∧ (Own w' w.heap.size 3 1 s (sortP P).length ((sortP P).map (Value.int .i64))) ∧ (PgAll w' base P ps FK)) _ hN hd ⟨0, F0, rfl, (zL hN rfl b), (zL hN rfl c), (zU hN rfl), (zU hN rfl), (zU hN rfl), (zU hN rfl), (Nat.zero_le _), (NewF.refl _ _), hb, (Nat.le_refl _), hk, hPm, hMm, hbr, d, j, o, hA⟩ ?_)))))
 rintro _ z u b l ⟨i, FK, rfl, f, n, c, t, s, p, hi, hNK, hb, A, hk, hPm, hMm, hbr, d, j, o, hA⟩
 have := hb.size
 refine zF fun _ h => zH (op_lss (zC b rfl p) (zC b rfl s) (fun z => ?_) (fun z => ?_))
 ·
  refine zB (h _ _ (zF fun _ h => wp_cond_true (zA b rfl) (wp_skip (h _ _ (zF fun _ h => wp_block (zF fun _ z => zH (zh slt29 (zC b rfl t) o.rdw (zC b rfl p) zx zx ?_)))))))
  intro D E B C A
  refine zN (v := (Value.int .i64 ((sortP P).getD i 0))) one3 (zA b rfl) (by have := A 0 (.int .i64 ((sortP P).getD i 0)) zz (el_i64 (i := i) zx zx); simpa using this) (zD (zA b rfl) (zB (z _ _ (zF fun _ z => zH ?_))))
  obtain ⟨A, D, B, C⟩ := sort_at hA (show i < (sortP P).length by omega)
  have E := sort_rng hI (show i < (sortP P).length by omega)
  refine zG (zC b rfl f) ?_
  refine op_nil (zA b rfl) (zM fld71_0 (zA b rfl) (zN one68 (zA b rfl) (hk.cell rfl) (zG (zA b rfl) (op_look_hit (k := ((sortP P).getD i 0)) (v := D) Try.underlying68 (Go.Gx.key_int Try.underlying3) zero24 (zA b rfl) (zA b rfl) hPm C (zG (zC b rfl n) (zj ok11 (pa_put hA B C zx hbr (fun k hk => (hNK k hk).elim (hap k) (fun q => .inr zx)) zx) ⟨(zA b rfl), ⟨(zA b rfl), trivial⟩⟩ ?_))))))
  rintro _ G ⟨C, rfl, E, D, F⟩
  have G := hk.lt
  have G := hPm.lt
  have G := hMm.lt
  have G := d.lt
  have G := j.lt
  have G := o.lt
  have hA_old := hA
  have := C.size
  have hk := hk.keepG C (hA_old.notBx hk zz zz)
  have hPm := hPm.keepG C (hA_old.notMap hPm)
  have hMm := hMm.keepG C (hA_old.notMap hMm)
  have hbr := hbr.keepG C (fun k hk => (hNK k hk).elim (hap k) (fun q => .inr zx))
  have d := d.keepG C (hA_old.notBx d zz zz)
  have j := j.keepG C (hA_old.notBx j zz zz)
  have o := o.keepG C (hA_old.notOwn o zz zz)
  have hb := hb.stepF C (fun y hy G => .inr (.inr ((hNK y G).resolve_right zx)))
  have C : NewF w.heap.size F0 E := NewF.trans hNK F zx
  refine zG (zA b rfl) (zW (zA b rfl) rfl (zW (zA b rfl) rfl (zD (zA b rfl) (zD (zA b rfl) (zB (z _ _ (zF fun _ z => zH (zG (zA b rfl) (op_eql (zA b rfl) rfl (fun F => ?_) (fun F => ?_))))))))))
  ·
   refine zB (z _ _ (wp_cond_true (zA b rfl) (zF fun _ z => zH (zG (zA b rfl) (zG (zA b rfl) (zf (pv := [(0, (.int .i64 ((sortP P).getD i 0))), (1, (.int .i64 (putK A r)))]) (v := (Value.agg #[(.int .i64 ((sortP P).getD i 0)), (.int .i64 (putK A r))])) ⟨rfl, (zA b rfl), ⟨rfl, (zA b rfl), trivial⟩⟩ zy ?_))))))
   have H := d
   refine zZ size80 (zC b rfl c) (zA b rfl) rfl rfl d rfl ?_
   intro J d I
   have := I.size
   have hk := hk.keep I (sN hk H)
   have hPm := hPm.keepB H I
   have D := D.keepG (Gr.of I) (Dj.one (D.notBx H zz zz))
   have hb := hb.step1 I zx
   refine zD rfl (zB (z _ _ (wp_ret (zb (zO (zO (zb (zO ( (retD rfl l (zC b rfl c) agg80 rfl d (zA b rfl) ⟨_, rfl, ?_⟩))))))))))
   have I := F
   exact ⟨hb, 0, ((sortP P).getD i 0, putK A r), _, _, ps, _, rfl, hk, D, (by rw [esP_mput hps B]; exact hPm), .inr ⟨(putE_ne I).2, rfl, .inl ⟨A, B, I, rfl, rfl, rfl⟩⟩, C⟩
  refine zB (z _ _ (wp_cond_false (zA b rfl) (wp_skip (h _ _ (zH (op_add (zC b rfl p) rfl (add64 zx) (zG (zA b rfl) (zB ?_))))))))
  -- round 21T 36F
  exact zg _ b l ⟨(i + 1), E, rfl, (zL b rfl f), (zL b rfl n), (zL b rfl c), (zL b rfl t), (zL b rfl s), (zU b rfl).trans (congrArg (Value.int .i64) zx), zx, C, hb, zx, hk, hPm, hMm, hbr, d, j, o, (by have G := D; rw [putN_same F, mput_same B] at G; exact G)⟩ zx
 refine zB (h _ _ (zF fun _ h => wp_cond_false (zA b rfl) (wp_exit (then_exit (then_exit (blk_hit (a _ _ (zF fun _ a => zH (zj ok10 (pageNew_ret _) trivial ?_)))))))))
 rintro _ A ⟨p, z, s, rfl, t⟩
 have B : ∀ k, s k → u.heap.size ≤ k := fun k hk => (t.lt k hk).1
 have u : ¬ s k := fun hf => by have := B _ hf; have := hk.lt; omega
 have C : ¬ s pm := fun hf => by have := B _ hf; have := hPm.lt; omega
 have D : ¬ s g := fun hf => by have := B _ hf; have := d.lt; omega
 have E : Dj FK s := Dj.fresh (fun k hk => (hA.lt k hk).2) B
 have p := zQ p
 obtain ⟨hb, _⟩ := yG hb p
 have hk := hk.keep0 p
 have hPm := hPm.keep0 p
 have hMm := hMm.keep0 p
 have hbr := hbr.keep0 p
 have o := o.keep0 p
 obtain ⟨d, j⟩ := kb2 p d j
 have hA := hA.kz p
 have B : ∀ k, s k → w.heap.size ≤ k := fun k hk => by have := B k hk; omega
 have t : PageR A w.heap.size z [] s := t.mono zx
 refine zD (zA b rfl) ?_
 refine zB (a _ _ (zF fun _ a => zH (zG (zA b rfl) (zG (zC b rfl n) (zj ok11 (pg_put t zx hbr (fun k hk => .inr (by have := B k hk; omega)) zx) ⟨(zA b rfl), ⟨(zA b rfl), trivial⟩⟩ ?_)))))
 rintro _ F ⟨n, rfl, p, A, s⟩
 have F := hk.lt
 have J := hPm.lt
 have K := hMm.lt
 have K := d.lt
 have O := j.lt
 have j := o.lt
 have j := hA.lt
 have o := t
 have := n.size
 have hk := hk.keepG n u
 have hPm := hPm.keepG n C
 have d := d.keepG n D
 have hA := hA.keepG n E
 have hb := hb.stepN n (fun k hk => (o.lt k hk).1)
 have n : ¬ p k := ne_stepF s F u
 have o : ¬ p pm := ne_stepF s J C
 have t : ¬ p g := ne_stepF s K D
 have g : Dj FK p := Dj.stepF s (fun k hk => (j k hk).2) E
 have j : ∀ x, p x → w.heap.size ≤ x := fun x hx => (s x hx).elim (fun q => B x q) (fun q => by omega)
 refine zG (zA b rfl) (zW (zA b rfl) rfl (zW (zA b rfl) rfl (zD (zA b rfl) (zD (zA b rfl) (zB (a _ _ (zF fun _ a => zF fun _ h => zH ?_)))))))
 skip
 refine zG (zA b rfl) (op_neq (zA b rfl) rfl (fun p => ?_) (fun p => ?_))
 ·
  refine zB (h _ _ (wp_cond_true (zA b rfl) (zF fun _ h => zH (zf (pv := []) (v := (Value.agg #[(.int .i64 0), (.int .i64 0)])) trivial zy (zG (zA b rfl) ?_)))))
  have H := d
  refine zZ size80 (zC b rfl c) (zA b rfl) rfl rfl d rfl ?_
  intro u d s
  have := s.size
  have hk := hk.keep s (sN hk H)
  have hPm := hPm.keepB H s
  have hA := hA.keepG (Gr.of s) (Dj.one (hA.notBx H zz zz))
  have hb := hb.step1 s zx
  refine zD (zA b rfl) (zB (h _ _ (wp_ret (zO ( (retD rfl l (zC b rfl c) agg80 rfl d (zA b rfl) ⟨_, rfl, ?_⟩))))))
  have s : badB r = true := by
    cases G : badB r
    · exact absurd (putE_nil G) p
    · rfl
  rw [putE_bad s]
  exact ⟨hb, 7, (0, 0), _, _, ps, _, rfl, hk, hA, hPm, .inl ⟨s, rfl, rfl, rfl⟩, hNK⟩
 refine zB (h _ _ (wp_cond_false (zA b rfl) (wp_skip (a _ _ (zF fun _ a => zH (zG (zC b rfl f) (op_nil (zA b rfl) (zM fld71_1 (zA b rfl) (zN one3 (zA b rfl) (hk.cell rfl) (op_add (zA b rfl) rfl (add64 zx) (op_nil (zA b rfl) (zM fld71_1 (zA b rfl) ?_))))))))))))
 have hk_old := hk
 refine za (vs := [(.int .i64 (nx + 1))]) (cs' := [(Value.map (some pm)), (.int .i64 (nx + 1)), (Value.map (some mm))]) size3 (zA b rfl) (zA b rfl) rfl rfl rfl hk (zI rfl) rfl ?_
 intro u hk s
 have := s.size
 have d := d.keep s (sN d hk_old)
 have hA := hA.keepG (Gr.of s) (Dj.one (hA.notBx hk_old zz zz))
 have hb := hb.stepB s (.inl rfl)
 refine zB ?_
 refine a _ _ (zF fun _ a => zF fun _ h => zH (zG (zC b rfl f) (op_nil (zA b rfl) (zM fld71_0 (zA b rfl) (zN one68 (zA b rfl) (hk.cell rfl) (op_meq (r := some pm) Try.underlying68 (zA b rfl) rfl (zB (h _ _ (wp_cond_false (zA b rfl) (wp_skip (a _ _ (zF fun _ a => reg_from mixed ?_))))))))))))
 intro u h
 obtain ⟨hb, _⟩ := yG hb h
 have hPm := (hPm.keepB hk_old s).keep0 h
 have hA := hA.kz h
 have hk := hk.keep0 h
 refine from_still (m := 9) 9 (hd := [_, _, _, _, _, _, _, _, _]) zy rfl rfl (st_step rfl (fun _ G => zG (zC b rfl f) G) ?_)
 refine st_step rfl (fun _ G => op_nil (zA b rfl) G) (st_step rfl (fun _ G => zM fld71_0 (zA b rfl) G) (st_step rfl (fun _ G => zN one68 (zA b rfl) (hk.cell rfl) G) (st_step rfl (fun _ G => zG (zC b rfl f) G) (st_step rfl (fun _ G => op_nil (zA b rfl) G) (st_step rfl (fun _ G => zM fld71_1 (zA b rfl) G) (st_step rfl (fun _ G => zN one3 (zA b rfl) (hk.cell rfl) G) (st_step rfl (fun _ G => zG (zA b rfl) G) (st_nil (from_seq (tl := [_]) zz zy rfl ?_)))))))))
 have hPm_old := hPm
 refine op_mapput (k := (nx + 1)) (v := z) Try.underlying68 (Go.Gx.key_int Try.underlying3) (zA b rfl) (zA b rfl) (zA b rfl) hPm ?_
 intro B z u
 have := u.size
 have d := (d.keep0 h).keepM hPm_old u
 have hA := hA.keepG (Gr.of u) (Dj.one (hA.notMap hPm_old))
 have hk := hk.keepM hPm_old u
 have hb := hb.stepB u (.inr (.inl rfl))
 refine zB (a _ _ (zF fun _ a => zH (zG (zC b rfl f) (op_nil (zA b rfl) (zM fld71_1 (zA b rfl) (zN one3 (zA b rfl) (hk.cell rfl) (zG (zA b rfl) (zf (pv := [(0, (.int .i64 (nx + 1))), (1, (.int .i64 (putK ([] : List By) r)))]) (v := (Value.agg #[(.int .i64 (nx + 1)), (.int .i64 (putK ([] : List By) r))])) ⟨rfl, (zA b rfl), ⟨rfl, (zA b rfl), trivial⟩⟩ zy ?_))))))))
 have H := d
 refine zZ size80 (zC b rfl c) (zA b rfl) rfl rfl d rfl ?_
 intro B d f
 have := f.size
 have hA := hA.keepG (Gr.of f) (Dj.one (hA.notBx H zz zz))
 have A := (((A.keepG (Gr.of s) (Dj.one n)).kz h).keepG (Gr.of u) (Dj.one o)).keepG (Gr.of f) (Dj.one t)
 have hk := hk.keep f (sN hk H)
 have z := z.keepB H f
 have hb := hb.step1 f zx
 refine zD rfl (zB (a _ _ (wp_ret (retD rfl l (zC b rfl c) agg80 rfl d (zA b rfl) ⟨_, rfl, ?_⟩))))
 have I : putE [] r = 0 := by first | exact p | exact Decidable.not_not.1 p
 have a := z
 rw [(esP_new (L := putN [] r) hps hI.fresh).2] at a
 exact ⟨hb, 0, (nx + 1, putK [] r), _, _, _, _, rfl, hk, hA.snoc (A.mono zx) g, a, .inr ⟨(putE_ne I).2, rfl, .inr ⟨rfl, rfl, rfl⟩⟩, fun x hx => hx.elim (hNK x) (fun q => .inr (j x q))⟩

theorem puts_n {base k : Nat} {nx : Int} {w : World} (hbase : base ≤ w.heap.size) (hk : Bx w k 71 [.map none, .int .i64 nx, .map none]) (hn0 : 0 ≤ nx) (hnx : nx ≤ 1000000) {r : By} {bv : Value} {Lo Bo : Nat} (hbr : RdC w Lo Bo 1 bv r.length (r.map u8v)) (hBw : Bo ≤ w.heap.size)  : Ret Try.prog 46 #[(ptr k 0), bv] w (fun v' w' => Gr w w' (fun x => x = k) ∧ ((badB r = true ∧ v' = .tuple #[plv (0, 0), .int .i64 7] ∧ Bx w' k 71 [.map none, .int .i64 nx, .map none]) ∨ (badB r = false ∧ v' = .tuple #[plv (nx + 1, putK [] r), .int .i64 0] ∧ ∃ (pm mm p : Nat) (F1 : Nat → Prop), w.heap.size ≤ pm ∧ w.heap.size ≤ mm ∧ pm ≠ mm ∧ Bx w' k 71 [.map (some pm), .int .i64 (nx + 1), .map (some mm)] ∧ MapC (.int .i64) pv w' pm [(nx + 1, p)] ∧ MapC (.int .u64) plv w' mm [] ∧ PageR w' w.heap.size p (putN [] r) F1))) := by
 have hi_k := hk.lt
 have hb := Gr.refl w (fun x => x = k)
 refine enter (N := 87) Try.func46 rfl rfl (by simp) fun a hN hd hA => ?_
 have b : a.tmps.getD 0 undef = (ptr k 0) := hA 0 (by simp)
 have c : a.tmps.getD 1 undef = bv := hA 1 (by simp)
 clear hA
 refine zF fun _ a => zH (op_alloc (cs := [(.int .i64 0), (.int .i64 0)]) zero80 rfl ?_)
 intro g e h j d f
 obtain ⟨hb, _⟩ := yG hb f
 have hk := hk.keep0 f
 refine zD rfl (zB (a _ _ (zF fun _ a => ?_)))
 refine zF fun _ g => zH (zG (zC hN rfl b) (op_nil (zA hN rfl) (zM fld71_0 (zA hN rfl) (zN one68 (zA hN rfl) (hk.cell rfl) (zj ok55 (pkeys_retN _) ⟨(zA hN rfl), trivial⟩ ?_)))))
 rintro _ n ⟨j, l, o, rfl, h⟩
 have j := zQ j
 obtain ⟨hb, _⟩ := yG hb j
 refine zj ok54 (sortedNil_ret h) ⟨(zA hN rfl), trivial⟩ ?_
 rintro s t ⟨o, n⟩
 have o := zQ o
 obtain ⟨hb, _⟩ := yG hb o
 have hk := (hk.keep0 j).keep0 o
 have hbr := ((hbr.keep0 f).keep0 j).keep0 o
 have d := (d.keep0 j).keep0 o
 have h := h.keep0 o
 have n := n.mono (base' := w.heap.size) zx
 refine op_len_rd Try.underlying29 (zA hN rfl) n.rdw (zG rfl (zB (g _ _ (wp_block (loop_m (fun mz_ az_ w' => ∃ (i : Nat), mz_ = 1 - i ∧ (Sl az_ 0 (ptr k 0)) ∧ (Sl az_ 1 bv) ∧ (Sl az_ 4 (ptr e 0)) ∧ (Sl az_ 18 s) ∧ (Sl az_ 19 (.int .i64 0)) ∧ (Sl az_ 20 (.int .i64 ((i : Nat) : Int))) ∧ (i ≤ 0) ∧ (Gr w w' (fun x => x = k)) ∧ (t.heap.size ≤ w'.heap.size) ∧ (Bx w' k 71 [(Value.map none), (.int .i64 nx), (Value.map none)]) ∧ (RdC w' Lo Bo 1 bv r.length (r.map u8v)) ∧ (Bx w' e 80 [(.int .i64 0), (.int .i64 0)]) ∧ (Bx w' l 68 [(Value.map none)]) ∧ (Own w' w.heap.size 3 1 s 0 ([]))) _ hN hd ⟨0, rfl, (zL hN rfl b), (zL hN rfl c), (zU hN rfl), (zU hN rfl), (zU hN rfl), (zU hN rfl), (Nat.zero_le _), hb, (Nat.le_refl _), hk, hbr, d, h, n⟩ ?_)))))
 rintro _ y l b j ⟨i, rfl, c, s, f, z, t, o, hi, hb, u, hk, hbr, d, h, n⟩
 have := hb.size
 refine zF fun _ g => zH (op_lss (zC b rfl o) (zC b rfl t) (fun u => ?_) (fun u => ?_))
 ·
  exfalso; omega
 refine zB (g _ _ (zF fun _ g => wp_cond_false (zA b rfl) (wp_exit (then_exit (then_exit (blk_hit (a _ _ (zF fun _ a => zH (zj ok10 (pageNew_ret _) trivial ?_)))))))))
 rintro _ z ⟨o, y, u, rfl, t⟩
 have A : ∀ k, u k → l.heap.size ≤ k := fun k hk => (t.lt k hk).1
 have l : ¬ u k := fun hf => by have := A _ hf; have := hk.lt; omega
 have B : ¬ u e := fun hf => by have := A _ hf; have := d.lt; omega
 have o := zQ o
 obtain ⟨hb, _⟩ := yG hb o
 have hk := hk.keep0 o
 have hbr := hbr.keep0 o
 have n := n.keep0 o
 obtain ⟨d, h⟩ := kb2 o d h
 have A : ∀ k, u k → w.heap.size ≤ k := fun k hk => by have := A k hk; omega
 have t : PageR z w.heap.size y [] u := t.mono zx
 refine zD (zA b rfl) ?_
 refine zB (a _ _ (zF fun _ a => zH (zG (zA b rfl) (zG (zC b rfl s) (zj ok11 (pg_put t zx hbr (fun k hk => .inr (by have := A k hk; omega)) zx) ⟨(zA b rfl), ⟨(zA b rfl), trivial⟩⟩ ?_)))))
 rintro _ C ⟨u, rfl, s, o, z⟩
 have C := hk.lt
 have D := d.lt
 have E := h.lt
 have h := n.lt
 have h := t
 have := u.size
 have hk := hk.keepG u l
 have d := d.keepG u B
 have hb := hb.stepN u (fun k hk => (h.lt k hk).1)
 have h : ¬ s k := ne_stepF z C l
 have l : ¬ s e := ne_stepF z D B
 have e : ∀ x, s x → w.heap.size ≤ x := fun x hx => (z x hx).elim (fun q => A x q) (fun q => by omega)
 refine zG (zA b rfl) (zW (zA b rfl) rfl (zW (zA b rfl) rfl (zD (zA b rfl) (zD (zA b rfl) (zB (a _ _ (zF fun _ a => zF fun _ g => zH ?_)))))))
 skip
 refine zG (zA b rfl) (op_neq (zA b rfl) rfl (fun e => ?_) (fun e => ?_))
 ·
  refine zB (g _ _ (wp_cond_true (zA b rfl) (zF fun _ g => zH (zf (pv := []) (v := (Value.agg #[(.int .i64 0), (.int .i64 0)])) trivial zy (zG (zA b rfl) ?_)))))
  have n := d
  refine zZ size80 (zC b rfl f) (zA b rfl) rfl rfl d rfl ?_
  intro u d t
  have := t.size
  have hk := hk.keep t (sN hk n)
  have hb := hb.step1 t zx
  refine zD (zA b rfl) (zB (g _ _ (wp_ret (zO ( (retD rfl j (zC b rfl f) agg80 rfl d (zA b rfl) ⟨_, rfl, ?_⟩))))))
  have t : badB r = true := by
    cases u : badB r
    · exact absurd (putE_nil u) e
    · rfl
  rw [putE_bad t]
  exact ⟨hb, .inl ⟨t, rfl, hk⟩⟩
 refine zB (g _ _ (wp_cond_false (zA b rfl) (wp_skip (a _ _ (zF fun _ a => zH (zG (zC b rfl c) (op_nil (zA b rfl) (zM fld71_1 (zA b rfl) (zN one3 (zA b rfl) (hk.cell rfl) (op_add (zA b rfl) rfl (add64 zx) (op_nil (zA b rfl) (zM fld71_1 (zA b rfl) ?_))))))))))))
 have hk_old := hk
 refine za (vs := [(.int .i64 (nx + 1))]) (cs' := [(Value.map none), (.int .i64 (nx + 1)), (Value.map none)]) size3 (zA b rfl) (zA b rfl) rfl rfl rfl hk (zI rfl) rfl ?_
 intro z hk t
 have := t.size
 have d := d.keep t (sN d hk_old)
 have o := o.keepG (Gr.of t) (Dj.one h)
 have hb := hb.stepB t rfl
 refine zB (a _ _ (zF fun _ a => zF fun _ g => ?_))
 refine zH (zG (zC b rfl c) (op_nil (zA b rfl) (zM fld71_0 (zA b rfl) (zN one68 (zA b rfl) (hk.cell rfl) (op_meq (r := none) Try.underlying68 (zA b rfl) rfl (zB (g _ _ (wp_cond_true (zA b rfl) (zH (zG (zC b rfl c) (zG (zC b rfl c) (op_mkmap (kv := (Value.int .i64)) (vv := pv) ?_))))))))))))
 intro C t B A g z
 have A : ¬ s t := fun hf => by have := (o.lt _ hf).2; omega
 obtain ⟨hb, _⟩ := yG hb z
 have o := o.kz z
 refine op_mkmap (kv := (Value.int .u64)) (vv := plv) ?_
 intro D C E F B s
 obtain ⟨hb, _⟩ := yG hb s
 have d := (d.keep0 z).keep0 s
 have hk := (hk.keep0 z).keep0 s
 refine op_nil (zA b rfl) (zM fld71_0 (zA b rfl) ?_)
 have hk_old := hk
 refine za (vs := [(Value.map (some t))]) (cs' := [(Value.map (some t)), (.int .i64 (nx + 1)), (Value.map none)]) size68 (zA b rfl) (zA b rfl) rfl rfl rfl hk (zI rfl) rfl ?_
 intro D hk z
 have := z.size
 have d := d.keep z (sN d hk_old)
 have g := (g.keep0 s).keepB hk_old z
 have B := B.keepB hk_old z
 have hb := hb.stepB z rfl
 refine op_nil (zA b rfl) (zM fld71_2 (zA b rfl) ?_)
 have hk_old := hk
 refine za (vs := [(Value.map (some C))]) (cs' := [(Value.map (some t)), (.int .i64 (nx + 1)), (Value.map (some C))]) size69 (zA b rfl) (zA b rfl) rfl rfl rfl hk (zI rfl) rfl ?_
 intro E hk D
 have := D.size
 have d := d.keep D (sN d hk_old)
 have o := ((o.kz s).keepG (Gr.of z) (Dj.one h)).keepG (Gr.of D) (Dj.one h)
 have hb := hb.stepB D rfl
 refine zB (a _ _ (zF fun _ a => reg_from mixed ?_))
 intro s h
 obtain ⟨hb, _⟩ := yG hb h
 have g := (g.keepB hk_old D).keep0 h
 have hk := hk.keep0 h
 refine from_still (m := 9) 9 (hd := [_, _, _, _, _, _, _, _, _]) zy rfl rfl (st_step rfl (fun _ u => zG (zC b rfl c) u) ?_)
 refine st_step rfl (fun _ u => op_nil (zA b rfl) u) (st_step rfl (fun _ u => zM fld71_0 (zA b rfl) u) (st_step rfl (fun _ u => zN one68 (zA b rfl) (hk.cell rfl) u) (st_step rfl (fun _ u => zG (zC b rfl c) u) (st_step rfl (fun _ u => op_nil (zA b rfl) u) (st_step rfl (fun _ u => zM fld71_1 (zA b rfl) u) (st_step rfl (fun _ u => zN one3 (zA b rfl) (hk.cell rfl) u) (st_step rfl (fun _ u => zG (zA b rfl) u) (st_nil (from_seq (tl := [_]) zz zy rfl ?_)))))))))
 have s := g
 refine op_mapput (k := (nx + 1)) (v := y) Try.underlying68 (Go.Gx.key_int Try.underlying3) (zA b rfl) (zA b rfl) (zA b rfl) g ?_
 intro y u g
 have := g.size
 have d := (d.keep0 h).keepM s g
 have hk := hk.keepM s g
 have hb := hb.step1 g zx
 refine zB (a _ _ (zF fun _ a => zH (zG (zC b rfl c) (op_nil (zA b rfl) (zM fld71_1 (zA b rfl) (zN one3 (zA b rfl) (hk.cell rfl) (zG (zA b rfl) (zf (pv := [(0, (.int .i64 (nx + 1))), (1, (.int .i64 (putK ([] : List By) r)))]) (v := (Value.agg #[(.int .i64 (nx + 1)), (.int .i64 (putK ([] : List By) r))])) ⟨rfl, (zA b rfl), ⟨rfl, (zA b rfl), trivial⟩⟩ zy ?_))))))))
 have n := d
 refine zZ size80 (zC b rfl f) (zA b rfl) rfl rfl d rfl ?_
 intro s d c
 have := c.size
 have o := ((o.kz h).keepG (Gr.of g) (Dj.one A)).keepG (Gr.of c) (Dj.one l)
 have B := (((B.keepB hk_old D).keep0 h).keep g sB).keepB n c
 have hk := hk.keep c (sN hk n)
 have u := u.keepB n c
 have hb := hb.step1 c zx
 refine zD rfl (zB (a _ _ (wp_ret (retD rfl j (zC b rfl f) agg80 rfl d (zA b rfl) ⟨_, rfl, ?_⟩))))
 have a : putE [] r = 0 := by first | exact e | exact Decidable.not_not.1 e
 exact ⟨hb, .inr ⟨(putE_ne a).2, rfl, t, C, _, _, by omega, by omega, by omega, hk, u, B, o.mono zx⟩⟩

end Go.Proofs.Ytdhpalioifjfbaa

namespace Go.Gx
open Go.RowKit
section
variable {P : Program} {Q : Exit → Act → World → Prop} {a : Act} {w w' : World} {l : List (Nat × Value)} {ops : Array Oper} {rest : List Oper}
variable {d ty t e xt yt : Nat} {p : String} {af : Array Edge} {x y : Operand} {b off : Nat}
end
end Go.Gx

namespace Go.Gx
open Go.RowKit
section
variable {P : Program} {Q : Exit → Act → World → Prop} {a : Act} {w : World} {l : List (Nat × Value)} {ops : Array Oper} {rest : List Oper}
variable {d ty : Nat} {p : String} {af : Array Edge}
end
section
variable {K V : Type} {P : Program} {Q : Exit → Act → World → Prop} {a : Act} {w w' : World} {l : List (Nat × Value)} {ops : Array Oper} {rest : List Oper}
variable {ty mt kt et m : Nat} {p : String} {af : Array Edge} {x y : Operand} {kv : K → Value} {vv : V → Value} {es : List (K × V)} {k : K}
theorem op_mapdel0 [DecidableEq K] (ht : P.underlying mt = some (.map kt et)) (T : KeyT P kt kv) (hx : (putsL a l).eval x = .map (some m)) (hy : (putsL a l).eval y = kv k) (M : MapC kv vv w m es) (h : ∀ w', MapC kv vv w' m (mdel es k) → w.grownBy w' (some m) → wpList P ops Q rest (putsL a l) w') :
    wpList P ops Q (⟨none, .call ⟨.builtin .delete, #[x, y], #[mt, kt]⟩, ty, p, af, none⟩ :: rest) (putsL a l) w := by
  obtain ⟨w', hr, M', E⟩ := run_delete (P := P) (ty := ty) ht T M k
  exact op_gen (w' := w') (v := .tuple #[]) rfl (by simp [execOp, hx, hy, resolve, invoke, builtin, hr]) (h w' M' E)
end
end Go.Gx

namespace Go.Proofs.Ytdhpalioifjfbaa
open Go.Gx Go.RowKit
attribute [local irreducible] wpList wpStill Code.wp Calls

theorem drops_m {base k pm mm : Nat} {P : PM} {ps : List Nat} {M : AM} {nx : Int} {F0 : Nat → Prop} {w : World} (hbase : base ≤ w.heap.size) (hk : Bx w k 71 [.map (some pm), .int .i64 nx, .map (some mm)]) (hA : PgAll w base P ps F0) (hPm : MapC (.int .i64) pv w pm (esP P ps)) (hMm : MapC (.int .u64) plv w mm M) (hne : pm ≠ mm) {L : List By} {p9 : Nat} {at_ : Int × Int} (hg : mget P at_.1 = some L) (hp9 : mget (esP P ps) at_.1 = some p9) (hat : -9223372036854775808 ≤ at_.2 ∧ at_.2 ≤ 9223372036854775807)  : Ret Try.prog 47 #[(ptr k 0), (.agg #[(.int .i64 at_.1), (.int .i64 at_.2)])] w (fun v' w' => Gr w w' (fun x => x = pm ∨ F0 x) ∧ v' = .tuple #[] ∧ ∃ (P' : PM) (ps' : List Nat) (F0' : Nat → Prop), PgAll w' base P' ps' F0' ∧ MapC (.int .i64) pv w' pm (esP P' ps') ∧ DropsP P at_ P' ∧ NewF w.heap.size F0 F0') := by
 have hi_k := hk.lt
 have hi_pm := hPm.lt
 have hi_mm := hMm.lt
 have hps := hA.1
 have hes : esP (mput P at_.1 (dropN L at_.2)) ps = esP P ps := esP_mput hps hg
 have a : mget (mput P at_.1 (dropN L at_.2)) at_.1 = some (dropN L at_.2) := mget_put_same
 have b : mget (esP (mput P at_.1 (dropN L at_.2)) ps) at_.1 = some p9 := by rw [hes]; exact hp9
 have hsn := slotsI_len (dropN L at_.2) (dropN L at_.2).length
 have c := (hA.key hg)
 obtain ⟨g, d, j, e, f, _⟩ := c
 have c := e.fits
 have hb := Gr.refl w (fun x => x = pm ∨ F0 x)
 refine enter (N := 26) Try.func47 rfl rfl (by simp) fun c hN hd hA => ?_
 have e : c.tmps.getD 0 undef = (ptr k 0) := hA 0 (by simp)
 have f : c.tmps.getD 1 undef = (.agg #[(.int .i64 at_.1), (.int .i64 at_.2)]) := hA 1 (by simp)
 clear hA
 refine zF fun _ c => zH (op_box (cs := [(.int .i64 at_.1), (.int .i64 at_.2)]) (zC hN rfl f) rfl ?_)
 intro o j l n f g
 have l : ¬ F0 j := fun hf => by have := (hA.lt _ hf).2; omega
 obtain ⟨hb, _⟩ := yG hb g
 have hA := hA.kz g
 refine zB (c _ _ (zF fun _ c => reg_from mixed ?_))
 intro o n
 obtain ⟨hb, _⟩ := yG hb n
 have hk := (hk.keep0 g).keep0 n
 have hA := hA.kz n
 have hPm := (hPm.keep0 g).keep0 n
 have hMm := (hMm.keep0 g).keep0 n
 have f := f.keep0 n
 refine from_still (m := 6) 6 (hd := [_, _, _, _, _, _]) zy rfl rfl (st_step rfl (fun _ g => zG (zC hN rfl e) g) ?_)
 refine st_step rfl (fun _ g => op_nil (zA hN rfl) g) (st_step rfl (fun _ g => zM fld71_0 (zA hN rfl) g) (st_step rfl (fun _ g => zN one68 (zA hN rfl) (hk.cell rfl) g) (st_step rfl (fun _ g => zM fld80_0 (zA hN rfl) g) (st_step rfl (fun _ g => zN one3 (zA hN rfl) (f.cell rfl) g) (st_nil (from_seq (tl := [_, _]) zz zy rfl (op_look_hit (k := at_.1) (v := p9) Try.underlying68 (Go.Gx.key_int Try.underlying3) zero24 (zA hN rfl) (zA hN rfl) hPm hp9 (zD (zA hN rfl) (zB ?_)))))))))
 refine c _ _ (zF fun _ c => zH (zG (zA hN rfl) (zM fld80_1 (zA hN rfl) (zN one3 (zA hN rfl) (f.cell rfl) (zj ok13 (pa_drop hA hg hp9 zx at_.2 zx) ⟨(zA hN rfl), ⟨(zA hN rfl), trivial⟩⟩ ?_)))))
 rintro _ r ⟨n, rfl, d, p, o⟩
 have r := hk.lt
 have r := hPm.lt
 have r := hMm.lt
 have r := f.lt
 have hA_old := hA
 have := n.size
 have hk := hk.keepG n (hA_old.notBx hk zz zz)
 have hPm := hPm.keepG n (hA_old.notMap hPm)
 have hMm := hMm.keepG n (hA_old.notMap hMm)
 have f := f.keepG n l
 have hb := hb.stepF n (fun _ _ h => .inr h)
 have n : ¬ d j := ne_stepF o r l
 have j : NewF w.heap.size F0 d := NewF.trans (NewF.refl _ _) o zx
 refine zB (c _ _ (zF fun _ c => zH (zG (zA hN rfl) (zj ok12 (pa_slots p a b zx) ⟨(zA hN rfl), trivial⟩ ?_))))
 rintro t s ⟨d, l, o, b, r⟩
 have s := hk.lt
 have s := hPm.lt
 have s := hMm.lt
 have s := f.lt
 have s := l.mono (base' := w.heap.size) zx
 have t := p
 have := d.size
 have hk := hk.keepG d (t.notBx hk zz zz)
 have hPm := hPm.keepG d (t.notMap hPm)
 have f := f.keepG d n
 have hb := hb.stepF d (fun y hy g => .inr ((j y g).resolve_right zx))
 have d : NewF w.heap.size F0 o := NewF.trans j r zx
 have l := s
 refine op_len_rd Try.underlying29 (zA hN rfl) l.rdw (op_eql (zA hN rfl) rfl (fun j => ?_) (fun j => ?_))
 ·
  refine zB (c _ _ (wp_cond_true (zA hN rfl) (reg_from mixed ?_)))
  intro n l
  obtain ⟨hb, _⟩ := yG hb l
  have hk := hk.keep0 l
  have hPm := hPm.keep0 l
  have f := f.keep0 l
  have b := b.kz l
  refine from_still (m := 6) 6 (hd := [_, _, _, _, _, _]) zy rfl rfl (st_step rfl (fun _ g => zG (zC hN rfl e) g) (st_step rfl (fun _ g => op_nil (zA hN rfl) g) (st_step rfl (fun _ g => zM fld71_0 (zA hN rfl) g) (st_step rfl (fun _ g => zN one68 (zA hN rfl) (hk.cell rfl) g) (st_step rfl (fun _ g => zM fld80_0 (zA hN rfl) g) (st_step rfl (fun _ g => zN one3 (zA hN rfl) (f.cell rfl) g) (st_nil (from_seq (tl := [_]) zz zy rfl ?_))))))))
  have hPm_old := hPm
  refine op_mapdel0 (k := at_.1) Try.underlying68 (Go.Gx.key_int Try.underlying3) (zA hN rfl) (zA hN rfl) hPm ?_
  intro g f e
  have := e.size
  have b := b.keepG (Gr.of e) (Dj.one (b.notMap hPm_old))
  have hb := hb.stepB e (.inl rfl)
  refine zB (end_ret (ret0 rfl hd  ⟨_, rfl, ?_⟩))
  have e : mput (mput P at_.1 (dropN L at_.2)) at_.1 (dropN L at_.2) = mput P at_.1 (dropN L at_.2) := mput_same a
  have g := b
  rw [e] at g
  have l : (slotsI (dropN L at_.2) (dropN L at_.2).length) = [] := List.eq_nil_of_length_eq_zero zx
  obtain ⟨r, o, n, s, p⟩ := g.del a
  have t := f
  rw [← hes, p] at t
  have f : mdel (mput P at_.1 (dropN L at_.2)) at_.1 = mdel P at_.1 := mdel_mput hg
  rw [f] at t n
  exact ⟨hb, rfl, _, r, o, n, t, ⟨L, hg, .inl ⟨l, rfl⟩⟩, fun x hx => d x (s x hx)⟩
 refine zB (c _ _ (wp_cond_false (zA hN rfl) (wp_skip (end_ret (ret0 rfl hd  ⟨_, rfl, ?_⟩)))))
 have e : mput (mput P at_.1 (dropN L at_.2)) at_.1 (dropN L at_.2) = mput P at_.1 (dropN L at_.2) := mput_same a
 have g := b
 rw [e] at g
 have t := hPm
 rw [← hes] at t
 exact ⟨hb, rfl, _, ps, _, g, t, ⟨L, hg, .inr ⟨fun q => j (by rw [q]; rfl), rfl⟩⟩, d⟩

theorem puts_nb {base k : Nat} {nx : Int} {w : World} (hbase : base ≤ w.heap.size) (hk : Bx w k 71 [.map none, .int .i64 nx, .map none]) (hn0 : 0 ≤ nx) (hnx : nx ≤ 1000000) {r : By} {bv : Value} {Lo Bo : Nat} (hbr : RdC w Lo Bo 1 bv r.length (r.map u8v)) (hBw : Bo ≤ w.heap.size) (hbad : badB r = true) : Ret Try.prog 46 #[ptr k 0, bv] w (fun v' w' => Gr w w' (fun x => x = k) ∧ v' = .tuple #[plv (0, 0), .int .i64 7] ∧ Bx w' k 71 [.map none, .int .i64 nx, .map none]) :=
  (puts_n hbase hk hn0 hnx hbr hBw).mono fun v' w' ⟨E, q⟩ => q.elim (fun q => ⟨E, q.2⟩) fun q => absurd (q.1.symm.trans hbad) (by decide)
theorem puts_ng {base k : Nat} {nx : Int} {w : World} (hbase : base ≤ w.heap.size) (hk : Bx w k 71 [.map none, .int .i64 nx, .map none]) (hn0 : 0 ≤ nx) (hnx : nx ≤ 1000000) {r : By} {bv : Value} {Lo Bo : Nat} (hbr : RdC w Lo Bo 1 bv r.length (r.map u8v)) (hBw : Bo ≤ w.heap.size) (hbad : badB r = false) : Ret Try.prog 46 #[ptr k 0, bv] w (fun v' w' => Gr w w' (fun x => x = k) ∧ v' = .tuple #[plv (nx + 1, putK [] r), .int .i64 0] ∧ ∃ (pm mm p : Nat) (F1 : Nat → Prop), w.heap.size ≤ pm ∧ w.heap.size ≤ mm ∧ pm ≠ mm ∧ Bx w' k 71 [.map (some pm), .int .i64 (nx + 1), .map (some mm)] ∧ MapC (Value.int .i64) pv w' pm [(nx + 1, p)] ∧ MapC (Value.int .u64) plv w' mm [] ∧ PageR w' w.heap.size p (putN [] r) F1) :=
  (puts_n hbase hk hn0 hnx hbr hBw).mono fun v' w' ⟨E, q⟩ => q.elim (fun q => absurd (q.1.symm.trans hbad) (by decide)) fun q => ⟨E, q.2⟩

theorem HPut_nb {r : By} {base k : Nat} {nx : Int} {w : World} (hbase : base ≤ w.heap.size) (hk : Bx w k 71 [.map none, .int .i64 nx, .map none]) {id : Int} (hn0 : 0 ≤ nx) (hnx : nx ≤ 1000000) (hbad : badB r = true) {bv : Value} {Lo Bo : Nat} (hbr : RdC w Lo Bo 1 bv r.length (r.map u8v)) (hBw : Bo ≤ w.heap.size)  : Ret Try.prog 28 #[(ptr k 0), (.int .u64 id), bv] w (fun v' w' => Gr w w' (fun x => x = k) ∧ v' = .int .i64 7 ∧ Bx w' k 71 [.map none, .int .i64 nx, .map none]) := by
 have hi_k := hk.lt
 have hb := Gr.refl w (fun x => x = k)
 refine enter (N := 56) Try.func28 rfl rfl (by simp) fun a hN hd hA => ?_
 have c : a.tmps.getD 0 undef = (ptr k 0) := hA 0 (by simp)
 have d : a.tmps.getD 1 undef = (.int .u64 id) := hA 1 (by simp)
 have e : a.tmps.getD 2 undef = bv := hA 2 (by simp)
 clear hA
 refine zF fun _ a => ?_
 refine zH (zD rfl (zB (a _ _ (zF fun _ a => zF fun _ f => zH (zG (zC hN rfl c) (op_peq_some ptrt53 (zA hN rfl) rfl (zB (f _ _ (wp_cond_false (zA hN rfl) (wp_skip (a _ _ (zF fun _ a => ?_))))))))))))
 refine zH (zG (zC hN rfl c) (op_nil (zA hN rfl) (zM fld71_2 (zA hN rfl) (zN one69 (zA hN rfl) (hk.cell rfl) (zG (zC hN rfl d) (op_look2_nil (k := id) Try.underlying69 (Go.Gx.key_int Try.underlying57) zero80 (zA hN rfl) (zA hN rfl) (zG (zA hN rfl) (zW (zA hN rfl) rfl (zW (zA hN rfl) rfl (op_alloc (cs := [(.int .i64 0), (.int .i64 0)]) zero80 rfl ?_))))))))))
 intro o l m n g d
 obtain ⟨hb, _⟩ := yG hb d
 have hk := hk.keep0 d
 have m := g
 refine zZ size80 (zA hN rfl) (zA hN rfl) rfl rfl g rfl ?_
 intro n g o
 have := o.size
 have hk := hk.keep o (sN hk m)
 have hbr := (hbr.keep0 d).keep o sO
 have hb := hb.step1 o zx
 refine zD (zA hN rfl) (zB (a _ _ (zF fun _ a => zF fun _ f => reg_split (hd := [_, _, _, _, _, _, _, _, _, _, _, _]) (tl := _) 12 mixed zy rfl rfl (any_quiet (Φ := phiL [(fun uz _ => uz = (.bool false)), (fun uz _ => uz = (.bool false)), (fun uz _ => uz = undef), (fun uz _ => uz = undef), (fun uz _ => uz = undef), (fun uz _ => uz = undef), (fun uz _ => uz = undef), (fun uz _ => uz = undef), (fun uz _ => uz = undef), (fun uz _ => uz = undef), (fun uz _ => uz = undef), (fun uz _ => uz = undef)]) zy zy zy hN (StL.get (StL.eq (StL.eq (StL.eq (StL.eq (StL.eq (StL.eq (StL.eq (StL.eq (StL.eq (StL.eq (StL.eq (StL.eq (StL.nil _)))))))))))))) (ObL.get (s := 12) (ObL.cons ?_ (ObL.cons ?_ (ObL.cons ?_ (ObL.cons ?_ (ObL.cons ?_ (ObL.cons ?_ (ObL.cons ?_ (ObL.cons ?_ (ObL.cons ?_ (ObL.cons ?_ (ObL.cons ?_ (ObL.cons ?_ (ObL.nil))))))))))))) rfl) ?_))))
 ·
  intro aA wA hNA hRA hbsA hdpA
  have d := (hbsA 8 rfl).trans (zU hN rfl)
  refine zG (zC hNA rfl d) ?_
  exact obN_end rfl rfl (grown_refl _ _)
 ·
  intro aA wA hNA hRA hbsA hdpA
  have d : Sl aA 22 (.bool false) := hdpA 0 _ 22 zy rfl rfl
  refine zG (zC hNA rfl d) ?_
  exact obN_end rfl rfl (grown_refl _ _)
 ·
  intro aA wA hNA hRA hbsA hdpA
  have d : Sl aA 23 (.bool false) := hdpA 1 _ 23 zy rfl rfl
  refine zR (j := 1) (dj := 23) (b := true) rfl rfl rfl (zC hNA rfl d) rfl rfl ?_
  exact obN_end rfl rfl (grown_refl _ _)
 ·
  intro aA wA hNA hRA hbsA hdpA
  have g : Sl aA 24 undef := hdpA 2 _ 24 zy rfl rfl
  have d : Sl aA 23 (.bool false) := hdpA 1 _ 23 zy rfl rfl
  refine zR (j := 1) (dj := 23) (b := true) rfl rfl rfl (zC hNA rfl d) rfl rfl ?_
  exact obN_end rfl rfl (grown_refl _ _)
 ·
  intro aA wA hNA hRA hbsA hdpA
  have g : Sl aA 25 undef := hdpA 3 _ 25 zy rfl rfl
  have d : Sl aA 23 (.bool false) := hdpA 1 _ 23 zy rfl rfl
  refine zR (j := 1) (dj := 23) (b := true) rfl rfl rfl (zC hNA rfl d) rfl rfl ?_
  exact obN_end rfl rfl (grown_refl _ _)
 ·
  intro aA wA hNA hRA hbsA hdpA
  have hRA : n.grownBy wA none := hRA
  have := hRA.size
  have g : Sl aA 26 undef := hdpA 4 _ 26 zy rfl rfl
  have d : Sl aA 23 (.bool false) := hdpA 1 _ 23 zy rfl rfl
  clear hbsA hdpA
  refine zR (j := 1) (dj := 23) (b := true) rfl rfl rfl (zC hNA rfl d) rfl rfl ?_
  exact obN_end rfl rfl (grown_refl _ _)
 ·
  intro aA wA hNA hRA hbsA hdpA
  have d : Sl aA 23 (.bool false) := hdpA 1 _ 23 zy rfl rfl
  refine zR (j := 1) (dj := 23) (b := true) rfl rfl rfl (zC hNA rfl d) rfl rfl ?_
  exact obN_end rfl rfl (grown_refl _ _)
 ·
  intro aA wA hNA hRA hbsA hdpA
  have hRA : n.grownBy wA none := hRA
  have := hRA.size
  have g : Sl aA 28 undef := hdpA 6 _ 28 zy rfl rfl
  have d : Sl aA 23 (.bool false) := hdpA 1 _ 23 zy rfl rfl
  clear hbsA hdpA
  refine zR (j := 1) (dj := 23) (b := true) rfl rfl rfl (zC hNA rfl d) rfl rfl ?_
  exact obN_end rfl rfl (grown_refl _ _)
 ·
  intro aA wA hNA hRA hbsA hdpA
  have hRA : n.grownBy wA none := hRA
  have := hRA.size
  have g : Sl aA 27 undef := hdpA 5 _ 27 zy rfl rfl
  have g : Sl aA 29 undef := hdpA 7 _ 29 zy rfl rfl
  have d : Sl aA 23 (.bool false) := hdpA 1 _ 23 zy rfl rfl
  clear hbsA hdpA
  refine zR (j := 1) (dj := 23) (b := true) rfl rfl rfl (zC hNA rfl d) rfl rfl ?_
  exact obN_end rfl rfl (grown_refl _ _)
 ·
  intro aA wA hNA hRA hbsA hdpA
  have d : Sl aA 23 (.bool false) := hdpA 1 _ 23 zy rfl rfl
  refine zR (j := 1) (dj := 23) (b := true) rfl rfl rfl (zC hNA rfl d) rfl rfl ?_
  exact obN_end rfl rfl (grown_refl _ _)
 ·
  intro aA wA hNA hRA hbsA hdpA
  have hRA : n.grownBy wA none := hRA
  have := hRA.size
  have g : Sl aA 31 undef := hdpA 9 _ 31 zy rfl rfl
  have d : Sl aA 23 (.bool false) := hdpA 1 _ 23 zy rfl rfl
  clear hbsA hdpA
  refine zR (j := 1) (dj := 23) (b := true) rfl rfl rfl (zC hNA rfl d) rfl rfl ?_
  exact obN_end rfl rfl (grown_refl _ _)
 ·
  intro aA wA hNA hRA hbsA hdpA
  have d : Sl aA 23 (.bool false) := hdpA 1 _ 23 zy rfl rfl
  refine zR (j := 1) (dj := 23) (b := true) rfl rfl rfl (zC hNA rfl d) rfl rfl ?_
  exact obN_end rfl rfl (grown_refl _ _)
 intro o t d p q m g
 have p := p.trans hd
 have u := (q 0 rfl).trans (zL hN rfl c)
 have c := (q 2 rfl).trans (zL hN rfl e)
 have e : Sl o 23 (.bool false) := m 1 _ 23 rfl rfl
 have y : Sl o 30 undef := m 8 _ 30 rfl rfl
 have y : Sl o 32 undef := m 10 _ 32 rfl rfl
 have y : Sl o 33 undef := m 11 _ 33 rfl rfl
 clear q m
 have g : n.grownBy t none := g
 obtain ⟨hb, _⟩ := yG hb g
 have hk := hk.keep0 g
 have hbr := hbr.keep0 g
 refine split_end (from_seq (tl := [_, _, _]) zz zy rfl (zR (j := 1) (dj := 23) (b := true) rfl rfl rfl (zC d rfl e) rfl rfl (zR (j := 1) (dj := 23) (b := true) rfl rfl rfl (zC d rfl e) rfl rfl (zd (zC d rfl e) rfl ?_))))
 refine zB (f _ _ (wp_cond_false (zA d rfl) (wp_skip (a _ _ (zF fun _ a => zH (zG (zC d rfl u) (zG (zC d rfl c) (zj ok46 (puts_nb (base := 0) (Nat.zero_le _) hk hn0 hnx hbr zx hbad) ⟨(zA d rfl), ⟨(zA d rfl), trivial⟩⟩ ?_))))))))
 rintro _ g ⟨e, rfl, c⟩
 have g : ¬ (fun x => x = k) l := (by show ¬ _ = _; omega)
 have := e.size
 have hb := hb.stepF e (fun _ _ h => h)
 refine zG (zA d rfl) (zW (zA d rfl) rfl (zW (zA d rfl) rfl (op_alloc (cs := [(.int .i64 0), (.int .i64 0)]) zero80 rfl ?_)))
 intro l o m n e g
 obtain ⟨hb, _⟩ := yG hb g
 have c := c.keep0 g
 have g := e
 refine zZ size80 (zA d rfl) (zA d rfl) rfl rfl e rfl ?_
 intro m e l
 have := l.size
 have c := c.keep l (sN c g)
 have hb := hb.step1 l zx
 refine zD (zA d rfl) (zB (a _ _ (zF fun _ a => zF fun _ f => ?_)))
 refine zH (zG (zA d rfl) (op_bin (v := .bool true) (zA d rfl) rfl (by rw [binOp_neq]; rfl) (zB (f _ _ (wp_cond_true (zA d rfl) (zF fun _ f => zH (zG (zA d rfl) (zD (zA d rfl) (zB (f _ _ (wp_ret (zO ( (ret1 rfl p (zA d rfl) ⟨_, rfl, ?_⟩))))))))))))))
 exact ⟨hb, rfl, c⟩

theorem HPut_ng {r : By} {base k : Nat} {nx : Int} {w : World} (hbase : base ≤ w.heap.size) (hk : Bx w k 71 [.map none, .int .i64 nx, .map none]) {id : Int} (hn0 : 0 ≤ nx) (hnx : nx ≤ 1000000) (hbad : badB r = false) {bv : Value} {Lo Bo : Nat} (hbr : RdC w Lo Bo 1 bv r.length (r.map u8v)) (hBw : Bo ≤ w.heap.size)  : Ret Try.prog 28 #[(ptr k 0), (.int .u64 id), bv] w (fun v' w' => Gr w w' (fun x => x = k) ∧ v' = .int .i64 0 ∧ ∃ (pm mm p : Nat) (F1 : Nat → Prop), w.heap.size ≤ pm ∧ w.heap.size ≤ mm ∧ pm ≠ mm ∧ Bx w' k 71 [.map (some pm), .int .i64 (nx + 1), .map (some mm)] ∧ MapC (.int .i64) pv w' pm [(nx + 1, p)] ∧ MapC (.int .u64) plv w' mm [(id, (nx + 1, putK [] r))] ∧ PageR w' w.heap.size p (putN [] r) F1) := by
 have hi_k := hk.lt
 have hb := Gr.refl w (fun x => x = k)
 refine enter (N := 56) Try.func28 rfl rfl (by simp) fun a hN hd hA => ?_
 have c : a.tmps.getD 0 undef = (ptr k 0) := hA 0 (by simp)
 have d : a.tmps.getD 1 undef = (.int .u64 id) := hA 1 (by simp)
 have e : a.tmps.getD 2 undef = bv := hA 2 (by simp)
 clear hA
 refine zF fun _ a => ?_
 refine zH (zD rfl (zB (a _ _ (zF fun _ a => zF fun _ f => zH (zG (zC hN rfl c) (op_peq_some ptrt53 (zA hN rfl) rfl (zB (f _ _ (wp_cond_false (zA hN rfl) (wp_skip (a _ _ (zF fun _ a => ?_))))))))))))
 refine zH (zG (zC hN rfl c) (op_nil (zA hN rfl) (zM fld71_2 (zA hN rfl) (zN one69 (zA hN rfl) (hk.cell rfl) (zG (zC hN rfl d) (op_look2_nil (k := id) Try.underlying69 (Go.Gx.key_int Try.underlying57) zero80 (zA hN rfl) (zA hN rfl) (zG (zA hN rfl) (zW (zA hN rfl) rfl (zW (zA hN rfl) rfl (op_alloc (cs := [(.int .i64 0), (.int .i64 0)]) zero80 rfl ?_))))))))))
 intro t n o q l g
 obtain ⟨hb, _⟩ := yG hb g
 have hk := hk.keep0 g
 have o := l
 refine zZ size80 (zA hN rfl) (zA hN rfl) rfl rfl l rfl ?_
 intro q l t
 have := t.size
 have hk := hk.keep t (sN hk o)
 have hbr := (hbr.keep0 g).keep t sO
 have hb := hb.step1 t zx
 refine zD (zA hN rfl) (zB (a _ _ (zF fun _ a => zF fun _ f => reg_split (hd := [_, _, _, _, _, _, _, _, _, _, _, _]) (tl := _) 12 mixed zy rfl rfl (any_quiet (Φ := phiL [(fun uz _ => uz = (.bool false)), (fun uz _ => uz = (.bool false)), (fun uz _ => uz = undef), (fun uz _ => uz = undef), (fun uz _ => uz = undef), (fun uz _ => uz = undef), (fun uz _ => uz = undef), (fun uz _ => uz = undef), (fun uz _ => uz = undef), (fun uz _ => uz = undef), (fun uz _ => uz = undef), (fun uz _ => uz = undef)]) zy zy zy hN (StL.get (StL.eq (StL.eq (StL.eq (StL.eq (StL.eq (StL.eq (StL.eq (StL.eq (StL.eq (StL.eq (StL.eq (StL.eq (StL.nil _)))))))))))))) (ObL.get (s := 12) (ObL.cons ?_ (ObL.cons ?_ (ObL.cons ?_ (ObL.cons ?_ (ObL.cons ?_ (ObL.cons ?_ (ObL.cons ?_ (ObL.cons ?_ (ObL.cons ?_ (ObL.cons ?_ (ObL.cons ?_ (ObL.cons ?_ (ObL.nil))))))))))))) rfl) ?_))))
 ·
  intro aA wA hNA hRA hbsA hdpA
  have g := (hbsA 8 rfl).trans (zU hN rfl)
  refine zG (zC hNA rfl g) ?_
  exact obN_end rfl rfl (grown_refl _ _)
 ·
  intro aA wA hNA hRA hbsA hdpA
  have g : Sl aA 22 (.bool false) := hdpA 0 _ 22 zy rfl rfl
  refine zG (zC hNA rfl g) ?_
  exact obN_end rfl rfl (grown_refl _ _)
 ·
  intro aA wA hNA hRA hbsA hdpA
  have g : Sl aA 23 (.bool false) := hdpA 1 _ 23 zy rfl rfl
  refine zR (j := 1) (dj := 23) (b := true) rfl rfl rfl (zC hNA rfl g) rfl rfl ?_
  exact obN_end rfl rfl (grown_refl _ _)
 ·
  intro aA wA hNA hRA hbsA hdpA
  have l : Sl aA 24 undef := hdpA 2 _ 24 zy rfl rfl
  have g : Sl aA 23 (.bool false) := hdpA 1 _ 23 zy rfl rfl
  refine zR (j := 1) (dj := 23) (b := true) rfl rfl rfl (zC hNA rfl g) rfl rfl ?_
  exact obN_end rfl rfl (grown_refl _ _)
 ·
  intro aA wA hNA hRA hbsA hdpA
  have l : Sl aA 25 undef := hdpA 3 _ 25 zy rfl rfl
  have g : Sl aA 23 (.bool false) := hdpA 1 _ 23 zy rfl rfl
  refine zR (j := 1) (dj := 23) (b := true) rfl rfl rfl (zC hNA rfl g) rfl rfl ?_
  exact obN_end rfl rfl (grown_refl _ _)
 ·
  intro aA wA hNA hRA hbsA hdpA
  have hRA : q.grownBy wA none := hRA
  have := hRA.size
  have l : Sl aA 26 undef := hdpA 4 _ 26 zy rfl rfl
  have g : Sl aA 23 (.bool false) := hdpA 1 _ 23 zy rfl rfl
  clear hbsA hdpA
  refine zR (j := 1) (dj := 23) (b := true) rfl rfl rfl (zC hNA rfl g) rfl rfl ?_
  exact obN_end rfl rfl (grown_refl _ _)
 ·
  intro aA wA hNA hRA hbsA hdpA
  have g : Sl aA 23 (.bool false) := hdpA 1 _ 23 zy rfl rfl
  refine zR (j := 1) (dj := 23) (b := true) rfl rfl rfl (zC hNA rfl g) rfl rfl ?_
  exact obN_end rfl rfl (grown_refl _ _)
 ·
  intro aA wA hNA hRA hbsA hdpA
  have hRA : q.grownBy wA none := hRA
  have := hRA.size
  have l : Sl aA 28 undef := hdpA 6 _ 28 zy rfl rfl
  have g : Sl aA 23 (.bool false) := hdpA 1 _ 23 zy rfl rfl
  clear hbsA hdpA
  refine zR (j := 1) (dj := 23) (b := true) rfl rfl rfl (zC hNA rfl g) rfl rfl ?_
  exact obN_end rfl rfl (grown_refl _ _)
 ·
  intro aA wA hNA hRA hbsA hdpA
  have hRA : q.grownBy wA none := hRA
  have := hRA.size
  have l : Sl aA 27 undef := hdpA 5 _ 27 zy rfl rfl
  have l : Sl aA 29 undef := hdpA 7 _ 29 zy rfl rfl
  have g : Sl aA 23 (.bool false) := hdpA 1 _ 23 zy rfl rfl
  clear hbsA hdpA
  refine zR (j := 1) (dj := 23) (b := true) rfl rfl rfl (zC hNA rfl g) rfl rfl ?_
  exact obN_end rfl rfl (grown_refl _ _)
 ·
  intro aA wA hNA hRA hbsA hdpA
  have g : Sl aA 23 (.bool false) := hdpA 1 _ 23 zy rfl rfl
  refine zR (j := 1) (dj := 23) (b := true) rfl rfl rfl (zC hNA rfl g) rfl rfl ?_
  exact obN_end rfl rfl (grown_refl _ _)
 ·
  intro aA wA hNA hRA hbsA hdpA
  have hRA : q.grownBy wA none := hRA
  have := hRA.size
  have l : Sl aA 31 undef := hdpA 9 _ 31 zy rfl rfl
  have g : Sl aA 23 (.bool false) := hdpA 1 _ 23 zy rfl rfl
  clear hbsA hdpA
  refine zR (j := 1) (dj := 23) (b := true) rfl rfl rfl (zC hNA rfl g) rfl rfl ?_
  exact obN_end rfl rfl (grown_refl _ _)
 ·
  intro aA wA hNA hRA hbsA hdpA
  have g : Sl aA 23 (.bool false) := hdpA 1 _ 23 zy rfl rfl
  refine zR (j := 1) (dj := 23) (b := true) rfl rfl rfl (zC hNA rfl g) rfl rfl ?_
  exact obN_end rfl rfl (grown_refl _ _)
 intro u z g y l o t
 have y := y.trans hd
 have A := (l 0 rfl).trans (zL hN rfl c)
 have c := (l 1 rfl).trans (zL hN rfl d)
 have d := (l 2 rfl).trans (zL hN rfl e)
 have e := (l 8 rfl).trans (zU hN rfl)
 have B : Sl u 23 (.bool false) := o 1 _ 23 rfl rfl
 have C : Sl u 30 undef := o 8 _ 30 rfl rfl
 have C : Sl u 32 undef := o 10 _ 32 rfl rfl
 have C : Sl u 33 undef := o 11 _ 33 rfl rfl
 clear l o
 have t : q.grownBy z none := t
 obtain ⟨hb, _⟩ := yG hb t
 have hk := hk.keep0 t
 have hbr := hbr.keep0 t
 refine split_end (from_seq (tl := [_, _, _]) zz zy rfl (zR (j := 1) (dj := 23) (b := true) rfl rfl rfl (zC g rfl B) rfl rfl (zR (j := 1) (dj := 23) (b := true) rfl rfl rfl (zC g rfl B) rfl rfl (zd (zC g rfl B) rfl ?_))))
 refine zB (f _ _ (wp_cond_false (zA g rfl) (wp_skip (a _ _ (zF fun _ a => zH (zG (zC g rfl A) (zG (zC g rfl d) (zj ok46 (puts_ng (base := 0) (Nat.zero_le _) hk hn0 hnx hbr zx hbad) ⟨(zA g rfl), ⟨(zA g rfl), trivial⟩⟩ ?_))))))))
 rintro _ F ⟨t, rfl, B, z, C, u, D, E, hne, l, q, o, d⟩
 have C : ¬ (fun x => x = k) n := (by show ¬ _ = _; omega)
 have := t.size
 have hb := hb.stepF t (fun _ _ h => h)
 have n : ∀ x, u x → w.heap.size ≤ x := fun x hx => by have := (d.lt x hx).1; omega
 have d := d.mono (base' := w.heap.size) zx
 refine zG (zA g rfl) (zW (zA g rfl) rfl (zW (zA g rfl) rfl (op_alloc (cs := [(.int .i64 0), (.int .i64 0)]) zero80 rfl ?_)))
 intro E C D F n t
 have D : ¬ u C := fun hf => by have := (d.lt _ hf).2; omega
 obtain ⟨hb, _⟩ := yG hb t
 have l := l.keep0 t
 have u := n
 refine zZ size80 (zA g rfl) (zA g rfl) rfl rfl n rfl ?_
 intro E n C
 have := C.size
 have l := l.keep C (sN l u)
 have d := (d.kz t).keepG (Gr.of C) (Dj.one D)
 have hb := hb.step1 C zx
 refine zD (zA g rfl) (zB (a _ _ (zF fun _ a => zF fun _ f => ?_)))
 refine zH (zG (zA g rfl) (op_bin (v := .bool false) (zA g rfl) rfl (by rw [binOp_neq]; rfl) (zB (f _ _ (wp_cond_false (zA g rfl) (wp_skip (a _ _ (zF fun _ a => zF fun _ f => zH (zG (zC g rfl e) (zB (f _ _ (wp_cond_false (zA g rfl) (wp_skip (a _ _ (zF fun _ a => reg_from mixed ?_)))))))))))))))
 intro f e
 obtain ⟨hb, _⟩ := yG hb e
 have l := l.keep0 e
 have o := ((o.keep0 t).keepB u C).keep0 e
 have d := d.kz e
 have n := n.keep0 e
 refine from_still (m := 6) 6 (hd := [_, _, _, _, _, _]) zy rfl rfl (st_step rfl (fun _ f => zG (zC g rfl A) f) (st_step rfl (fun _ f => op_nil (zA g rfl) f) (st_step rfl (fun _ f => zM fld71_2 (zA g rfl) f) (st_step rfl (fun _ f => zN one69 (zA g rfl) (l.cell rfl) f) (st_step rfl (fun _ f => zG (zC g rfl c) f) (st_step rfl (fun _ f => zY agg80 rfl (zA g rfl) n f) (st_nil (from_seq (tl := [_]) zz zy rfl ?_))))))))
 have c := o
 refine op_mapput (k := id) (v := ((nx + 1), (putK [] r))) Try.underlying69 (Go.Gx.key_int Try.underlying57) (zA g rfl) (zA g rfl) (zA g rfl) o ?_
 intro o n f
 have := f.size
 have l := l.keepM c f
 have q := (((q.keep0 t).keepB u C).keep0 e).keep f sB
 have d := d.keepG (Gr.of f) (Dj.one (d.notMap c))
 have hb := hb.step1 f zx
 refine zB (a _ _ (zF fun _ a => zH (zD rfl (zB (a _ _ (wp_ret (ret1 rfl y (zA g rfl) ⟨_, rfl, ?_⟩)))))))
 exact ⟨hb, rfl, B, z, _, _, by omega, by omega, hne, l, q, n, d⟩

theorem HPut_miss {id : Int} {base k pm mm : Nat} {P : PM} {ps : List Nat} {M : AM} {nx : Int} {F0 : Nat → Prop} {w : World} (hbase : base ≤ w.heap.size) (hk : Bx w k 71 [.map (some pm), .int .i64 nx, .map (some mm)]) (hA : PgAll w base P ps F0) (hPm : MapC (.int .i64) pv w pm (esP P ps)) (hMm : MapC (.int .u64) plv w mm M) (hne : pm ≠ mm) (hI : HInv P nx M) (hnx : nx ≤ 1000000) (hn0 : 0 ≤ nx) (hPl : P.length ≤ 1000000) (hm : mget M id = none) {r : By} {bv : Value} {Lo Bo : Nat} (hbr : RdC w Lo Bo 1 bv r.length (r.map u8v)) (hap : ∀ x, F0 x → x < Lo ∨ Bo ≤ x) (hBw : Bo ≤ w.heap.size)  : Ret Try.prog 28 #[(ptr k 0), (.int .u64 id), bv] w (fun v' w' => Gr w w' (fun x => x = k ∨ x = pm ∨ x = mm ∨ F0 x) ∧ ∃ (e nx' : Int) (P' : PM) (M' : AM) (ps' : List Nat) (F0' : Nat → Prop), v' = .int .i64 e ∧ Bx w' k 71 [.map (some pm), .int .i64 nx', .map (some mm)] ∧ PgAll w' base P' ps' F0' ∧ MapC (.int .i64) pv w' pm (esP P' ps') ∧ MapC (.int .u64) plv w' mm M' ∧ PutZ P nx M id r e P' nx' M' ∧ NewF w.heap.size F0 F0') := by
 have hi_k := hk.lt
 have hi_pm := hPm.lt
 have hi_mm := hMm.lt
 have hps := hA.1
 have hb := Gr.refl w (fun x => x = k ∨ x = pm ∨ x = mm ∨ F0 x)
 refine enter (N := 56) Try.func28 rfl rfl (by simp) fun a hN hd hA => ?_
 have c : a.tmps.getD 0 undef = (ptr k 0) := hA 0 (by simp)
 have d : a.tmps.getD 1 undef = (.int .u64 id) := hA 1 (by simp)
 have f : a.tmps.getD 2 undef = bv := hA 2 (by simp)
 clear hA
 refine zF fun _ a => ?_
 refine zH (zD rfl (zB (a _ _ (zF fun _ a => zF fun _ g => zH (zG (zC hN rfl c) (op_peq_some ptrt53 (zA hN rfl) rfl (zB (g _ _ (wp_cond_false (zA hN rfl) (wp_skip (a _ _ (zF fun _ a => ?_))))))))))))
 refine zH (zG (zC hN rfl c) (op_nil (zA hN rfl) (zM fld71_2 (zA hN rfl) (zN one69 (zA hN rfl) (hk.cell rfl) (zG (zC hN rfl d) (op_look2_miss (k := id) Try.underlying69 (Go.Gx.key_int Try.underlying57) zero80 (zA hN rfl) (zA hN rfl) hMm hm (zG (zA hN rfl) (zW (zA hN rfl) rfl (zW (zA hN rfl) rfl (op_alloc (cs := [(.int .i64 0), (.int .i64 0)]) zero80 rfl ?_))))))))))
 intro p o t u n l
 have p : ¬ F0 o := fun hf => by have := (hA.lt _ hf).2; omega
 obtain ⟨hb, _⟩ := yG hb l
 have hk := hk.keep0 l
 have t := n
 refine zZ size80 (zA hN rfl) (zA hN rfl) rfl rfl n rfl ?_
 intro z n u
 have := u.size
 have hk := hk.keep u (sN hk t)
 have hA := (hA.kz l).keepG (Gr.of u) (Dj.one p)
 have hPm := (hPm.keep0 l).keepB t u
 have hMm := (hMm.keep0 l).keepB t u
 have hbr := (hbr.keep0 l).keep u sO
 have hb := hb.step1 u zx
 refine zD (zA hN rfl) (zB (a _ _ (zF fun _ a => zF fun _ g => reg_split (hd := [_, _, _, _, _, _, _, _, _, _, _, _]) (tl := _) 12 mixed zy rfl rfl (any_quiet (Φ := phiL [(fun uz _ => uz = (.bool false)), (fun uz _ => uz = (.bool false)), (fun uz _ => uz = undef), (fun uz _ => uz = undef), (fun uz _ => uz = undef), (fun uz _ => uz = undef), (fun uz _ => uz = undef), (fun uz _ => uz = undef), (fun uz _ => uz = undef), (fun uz _ => uz = undef), (fun uz _ => uz = undef), (fun uz _ => uz = undef)]) zy zy zy hN (StL.get (StL.eq (StL.eq (StL.eq (StL.eq (StL.eq (StL.eq (StL.eq (StL.eq (StL.eq (StL.eq (StL.eq (StL.eq (StL.nil _)))))))))))))) (ObL.get (s := 12) (ObL.cons ?_ (ObL.cons ?_ (ObL.cons ?_ (ObL.cons ?_ (ObL.cons ?_ (ObL.cons ?_ (ObL.cons ?_ (ObL.cons ?_ (ObL.cons ?_ (ObL.cons ?_ (ObL.cons ?_ (ObL.cons ?_ (ObL.nil))))))))))))) rfl) ?_))))
 ·
  intro aA wA hNA hRA hbsA hdpA
  have l := (hbsA 8 rfl).trans (zU hN rfl)
  refine zG (zC hNA rfl l) ?_
  exact obN_end rfl rfl (grown_refl _ _)
 ·
  intro aA wA hNA hRA hbsA hdpA
  have l : Sl aA 22 (.bool false) := hdpA 0 _ 22 zy rfl rfl
  refine zG (zC hNA rfl l) ?_
  exact obN_end rfl rfl (grown_refl _ _)
 ·
  intro aA wA hNA hRA hbsA hdpA
  have l : Sl aA 23 (.bool false) := hdpA 1 _ 23 zy rfl rfl
  refine zR (j := 1) (dj := 23) (b := true) rfl rfl rfl (zC hNA rfl l) rfl rfl ?_
  exact obN_end rfl rfl (grown_refl _ _)
 ·
  intro aA wA hNA hRA hbsA hdpA
  have t : Sl aA 24 undef := hdpA 2 _ 24 zy rfl rfl
  have l : Sl aA 23 (.bool false) := hdpA 1 _ 23 zy rfl rfl
  refine zR (j := 1) (dj := 23) (b := true) rfl rfl rfl (zC hNA rfl l) rfl rfl ?_
  exact obN_end rfl rfl (grown_refl _ _)
 ·
  intro aA wA hNA hRA hbsA hdpA
  have t : Sl aA 25 undef := hdpA 3 _ 25 zy rfl rfl
  have l : Sl aA 23 (.bool false) := hdpA 1 _ 23 zy rfl rfl
  refine zR (j := 1) (dj := 23) (b := true) rfl rfl rfl (zC hNA rfl l) rfl rfl ?_
  exact obN_end rfl rfl (grown_refl _ _)
 ·
  intro aA wA hNA hRA hbsA hdpA
  have hRA : z.grownBy wA none := hRA
  have := hRA.size
  have t : Sl aA 26 undef := hdpA 4 _ 26 zy rfl rfl
  have l : Sl aA 23 (.bool false) := hdpA 1 _ 23 zy rfl rfl
  clear hbsA hdpA
  refine zR (j := 1) (dj := 23) (b := true) rfl rfl rfl (zC hNA rfl l) rfl rfl ?_
  exact obN_end rfl rfl (grown_refl _ _)
 ·
  intro aA wA hNA hRA hbsA hdpA
  have l : Sl aA 23 (.bool false) := hdpA 1 _ 23 zy rfl rfl
  refine zR (j := 1) (dj := 23) (b := true) rfl rfl rfl (zC hNA rfl l) rfl rfl ?_
  exact obN_end rfl rfl (grown_refl _ _)
 ·
  intro aA wA hNA hRA hbsA hdpA
  have hRA : z.grownBy wA none := hRA
  have := hRA.size
  have t : Sl aA 28 undef := hdpA 6 _ 28 zy rfl rfl
  have l : Sl aA 23 (.bool false) := hdpA 1 _ 23 zy rfl rfl
  clear hbsA hdpA
  refine zR (j := 1) (dj := 23) (b := true) rfl rfl rfl (zC hNA rfl l) rfl rfl ?_
  exact obN_end rfl rfl (grown_refl _ _)
 ·
  intro aA wA hNA hRA hbsA hdpA
  have hRA : z.grownBy wA none := hRA
  have := hRA.size
  have t : Sl aA 27 undef := hdpA 5 _ 27 zy rfl rfl
  have t : Sl aA 29 undef := hdpA 7 _ 29 zy rfl rfl
  have l : Sl aA 23 (.bool false) := hdpA 1 _ 23 zy rfl rfl
  clear hbsA hdpA
  refine zR (j := 1) (dj := 23) (b := true) rfl rfl rfl (zC hNA rfl l) rfl rfl ?_
  exact obN_end rfl rfl (grown_refl _ _)
 ·
  intro aA wA hNA hRA hbsA hdpA
  have l : Sl aA 23 (.bool false) := hdpA 1 _ 23 zy rfl rfl
  refine zR (j := 1) (dj := 23) (b := true) rfl rfl rfl (zC hNA rfl l) rfl rfl ?_
  exact obN_end rfl rfl (grown_refl _ _)
 ·
  intro aA wA hNA hRA hbsA hdpA
  have hRA : z.grownBy wA none := hRA
  have := hRA.size
  have t : Sl aA 31 undef := hdpA 9 _ 31 zy rfl rfl
  have l : Sl aA 23 (.bool false) := hdpA 1 _ 23 zy rfl rfl
  clear hbsA hdpA
  refine zR (j := 1) (dj := 23) (b := true) rfl rfl rfl (zC hNA rfl l) rfl rfl ?_
  exact obN_end rfl rfl (grown_refl _ _)
 ·
  intro aA wA hNA hRA hbsA hdpA
  have l : Sl aA 23 (.bool false) := hdpA 1 _ 23 zy rfl rfl
  refine zR (j := 1) (dj := 23) (b := true) rfl rfl rfl (zC hNA rfl l) rfl rfl ?_
  exact obN_end rfl rfl (grown_refl _ _)
 intro B D l C u A t
 have C := C.trans hd
 have E := (u 0 rfl).trans (zL hN rfl c)
 have c := (u 1 rfl).trans (zL hN rfl d)
 have d := (u 2 rfl).trans (zL hN rfl f)
 have f := (u 8 rfl).trans (zU hN rfl)
 have F : Sl B 23 (.bool false) := A 1 _ 23 rfl rfl
 have G : Sl B 30 undef := A 8 _ 30 rfl rfl
 have G : Sl B 32 undef := A 10 _ 32 rfl rfl
 have G : Sl B 33 undef := A 11 _ 33 rfl rfl
 clear u A
 have t : z.grownBy D none := t
 obtain ⟨hb, _⟩ := yG hb t
 have hk := hk.keep0 t
 have hA := hA.kz t
 have hPm := hPm.keep0 t
 have hMm := hMm.keep0 t
 have hbr := hbr.keep0 t
 have n := n.keep0 t
 refine split_end (from_seq (tl := [_, _, _]) zz zy rfl (zR (j := 1) (dj := 23) (b := true) rfl rfl rfl (zC l rfl F) rfl rfl (zR (j := 1) (dj := 23) (b := true) rfl rfl rfl (zC l rfl F) rfl rfl (zd (zC l rfl F) rfl ?_))))
 refine zB (g _ _ (wp_cond_false (zA l rfl) (wp_skip (a _ _ (zF fun _ a => zH (zG (zC l rfl E) (zG (zC l rfl d) (zj ok46 (puts_m zx hk hA hPm hMm hne hI hnx hn0 hPl hbr (fun k hk => ((NewF.refl _ _) k hk).elim (hap k) (fun q => .inr zx)) zx) ⟨(zA l rfl), ⟨(zA l rfl), trivial⟩⟩ ?_))))))))
 rintro _ H ⟨z, K, B, J, I, G, D, rfl, d, t, u, A, F⟩
 have G : ∀ y, y < w.heap.size → F0 y → (fun x => x = k ∨ x = pm ∨ x = mm ∨ F0 x) y := (fun _ _ h => .inr (.inr (.inr h)))
 have I : ¬ (fun x => x = k ∨ x = pm ∨ F0 x) mm := (fun H => H.elim (fun q => hk.notMap hMm q.symm) (fun H => H.elim (fun q => hne q.symm) (fun H => (hA.notMap hMm) H)))
 have J : ¬ (fun x => x = k ∨ x = pm ∨ F0 x) o := (fun H => H.elim (fun q => by omega) (fun H => H.elim (fun q => n.notMap hPm q) (fun H => p H)))
 have := z.size
 have hb := hb.stepF z (fun y hy H => H.elim (fun q => .inl q) (fun H => H.elim (fun q => .inr (.inl q)) (fun H => G y hy H)))
 have n : NewF w.heap.size F0 D := NewF.trans (NewF.refl _ _) F zx
 refine zG (zA l rfl) (zW (zA l rfl) rfl (zW (zA l rfl) rfl (op_alloc (cs := [(.int .i64 0), (.int .i64 0)]) zero80 rfl ?_)))
 intro G F J K o p
 have G : ¬ D F := fun hf => by have := (t.lt _ hf).2; omega
 obtain ⟨hb, _⟩ := yG hb p
 have d := d.keep0 p
 have D := o
 refine zZ size80 (zA l rfl) (zA l rfl) rfl rfl o rfl ?_
 intro J o F
 have := F.size
 have hMm := ((hMm.keepG z I).keep0 p).keepB D F
 have d := d.keep F (sN d D)
 have t := (t.kz p).keepG (Gr.of F) (Dj.one G)
 have u := (u.keep0 p).keepB D F
 have hb := hb.step1 F zx
 refine zD (zA l rfl) (zB (a _ _ (zF fun _ a => zF fun _ g => zH (zG (zA l rfl) (op_neq (zA l rfl) rfl (fun p => ?_) (fun p => ?_))))))
 ·
  refine zB (g _ _ (wp_cond_true (zA l rfl) (zF fun _ g => zH (zG (zA l rfl) (zD (zA l rfl) (zB (g _ _ (wp_ret (zO ( (ret1 rfl C (zA l rfl) ⟨_, rfl, ?_⟩)))))))))))
  exact ⟨hb, _, _, _, _, _, _, rfl, d, t, u, hMm, .of_bad A p hI hn0, n⟩
 refine zB (g _ _ (wp_cond_false (zA l rfl) (wp_skip (a _ _ (zF fun _ a => zF fun _ g => zH (zG (zC l rfl f) (zB (g _ _ (wp_cond_false (zA l rfl) (wp_skip (a _ _ (zF fun _ a => reg_from mixed ?_))))))))))))
 intro g f
 obtain ⟨hb, _⟩ := yG hb f
 have hMm := hMm.keep0 f
 have d := d.keep0 f
 have t := t.kz f
 have o := o.keep0 f
 refine from_still (m := 6) 6 (hd := [_, _, _, _, _, _]) zy rfl rfl (st_step rfl (fun _ H => zG (zC l rfl E) H) (st_step rfl (fun _ H => op_nil (zA l rfl) H) (st_step rfl (fun _ H => zM fld71_2 (zA l rfl) H) (st_step rfl (fun _ H => zN one69 (zA l rfl) (d.cell rfl) H) (st_step rfl (fun _ H => zG (zC l rfl c) H) (st_step rfl (fun _ H => zY agg80 rfl (zA l rfl) o H) (st_nil (from_seq (tl := [_]) zz zy rfl ?_))))))))
 have hMm_old := hMm
 refine op_mapput (k := id) (v := (B.1, B.2)) Try.underlying69 (Go.Gx.key_int Try.underlying57) (zA l rfl) (zA l rfl) (zA l rfl) hMm ?_
 intro o g c
 have := c.size
 have d := d.keepM hMm_old c
 have t := t.keepG (Gr.of c) (Dj.one (t.notMap hMm_old))
 have u := (u.keep0 f).keep c sB
 have hb := hb.stepB c (.inr (.inr (.inl rfl)))
 refine zB (a _ _ (zF fun _ a => zH (zD rfl (zB (a _ _ (wp_ret (ret1 rfl C (zA l rfl) ⟨_, rfl, ?_⟩)))))))
 exact ⟨hb, 0, _, _, _, _, _, rfl, d, t, u, g, .new A p hI hn0 hm, n⟩

end Go.Proofs.Ytdhpalioifjfbaa

namespace Go.Gx
open Go.RowKit
section
variable {P : Program} {ol : List Oper} {Q : Exit → Act → World → Prop} {Φ : Nat → Value → World → Prop} {C : Nat → Value → World → Prop} {ch : Chain} {R : World → World → Prop} {a0 : Act} {N : Nat}
end
section
variable {P : Program} {ol : List Oper} {Q : Exit → Act → World → Prop} {Φ : Nat → Value → Prop} {G : World → Prop} {a0 : Act} {N : Nat}
end
end Go.Gx

namespace Go.Proofs.Ytdhpalioifjfbaa
open Go.Gx Go.RowKit
attribute [local irreducible] wpList wpStill Code.wp Calls

theorem HPut_hit {id : Int} {at_ : Int × Int} {base k pm mm : Nat} {P : PM} {ps : List Nat} {M : AM} {nx : Int} {F0 : Nat → Prop} {w : World} (hbase : base ≤ w.heap.size) (hk : Bx w k 71 [.map (some pm), .int .i64 nx, .map (some mm)]) (hA : PgAll w base P ps F0) (hPm : MapC (.int .i64) pv w pm (esP P ps)) (hMm : MapC (.int .u64) plv w mm M) (hne : pm ≠ mm) (hI : HInv P nx M) (hnx : nx ≤ 1000000) (hn0 : 0 ≤ nx) (hPl : P.length ≤ 1000000) (hm : mget M id = some at_) {r : By} {bv : Value} {Lo Bo : Nat} (hbr : RdC w Lo Bo 1 bv r.length (r.map u8v)) (hap : ∀ x, F0 x → x < Lo ∨ Bo ≤ x) (hBw : Bo ≤ w.heap.size)  : Ret Try.prog 28 #[(ptr k 0), (.int .u64 id), bv] w (fun v' w' => Gr w w' (fun x => x = k ∨ x = pm ∨ x = mm ∨ F0 x) ∧ ∃ (e nx' : Int) (P' : PM) (M' : AM) (ps' : List Nat) (F0' : Nat → Prop), v' = .int .i64 e ∧ Bx w' k 71 [.map (some pm), .int .i64 nx', .map (some mm)] ∧ PgAll w' base P' ps' F0' ∧ MapC (.int .i64) pv w' pm (esP P' ps') ∧ MapC (.int .u64) plv w' mm M' ∧ PutZ P nx M id r e P' nx' M' ∧ NewF w.heap.size F0 F0') := by
 have hi_k := hk.lt
 have hi_pm := hPm.lt
 have hi_mm := hMm.lt
 have hps := hA.1
 obtain ⟨L, hg⟩ := hI.page hm
 obtain ⟨a, f, c, d, g, _⟩ := hA.key hg
 have f := d.fits
 have d := at_rng hg (hI.key hm).2
 have hb := Gr.refl w (fun x => x = k ∨ x = pm ∨ x = mm ∨ F0 x)
 refine enter (N := 56) Try.func28 rfl rfl (by simp) fun d hN hd hA => ?_
 have f : d.tmps.getD 0 undef = (ptr k 0) := hA 0 (by simp)
 have g : d.tmps.getD 1 undef = (.int .u64 id) := hA 1 (by simp)
 have l : d.tmps.getD 2 undef = bv := hA 2 (by simp)
 clear hA
 refine zF fun _ d => ?_
 refine zH (zD rfl (zB (d _ _ (zF fun _ d => zF fun _ n => zH (zG (zC hN rfl f) (op_peq_some ptrt53 (zA hN rfl) rfl (zB (n _ _ (wp_cond_false (zA hN rfl) (wp_skip (d _ _ (zF fun _ d => ?_))))))))))))
 refine zH (zG (zC hN rfl f) (op_nil (zA hN rfl) (zM fld71_2 (zA hN rfl) (zN one69 (zA hN rfl) (hk.cell rfl) (zG (zC hN rfl g) (op_look2_hit (k := id) (v := at_) Try.underlying69 (Go.Gx.key_int Try.underlying57) zero80 (zA hN rfl) (zA hN rfl) hMm hm (zG (zA hN rfl) (zW (zA hN rfl) rfl (zW (zA hN rfl) rfl (op_alloc (cs := [(.int .i64 0), (.int .i64 0)]) zero80 rfl ?_))))))))))
 intro u p z A o t
 have u : ¬ F0 p := fun hf => by have := (hA.lt _ hf).2; omega
 obtain ⟨hb, _⟩ := yG hb t
 have hk := hk.keep0 t
 have z := o
 refine zZ size80 (zA hN rfl) (zA hN rfl) rfl rfl o rfl ?_
 intro B o A
 have := A.size
 have hk := hk.keep A (sN hk z)
 have hA := (hA.kz t).keepG (Gr.of A) (Dj.one u)
 have hPm := (hPm.keep0 t).keepB z A
 have hMm := (hMm.keep0 t).keepB z A
 have hbr := (hbr.keep0 t).keep A sO
 have hb := hb.step1 A zx
 refine zD (zA hN rfl) (zB (d _ _ (zF fun _ d => zF fun _ n => reg_split (hd := [_, _, _, _, _, _, _, _, _, _, _, _]) (tl := _) 12 mixed zy rfl rfl (any_quiet (Φ := phiL [(fun uz _ => uz = (.bool true)), (fun uz _ => uz = (.bool true)), (fun uz _ => uz = (ptr k 0)), (fun uz _ => uz = (ptr k 0)), (fun uz _ => uz = (ptr k 0)), (fun uz _ => uz = (Value.map (some pm))), (fun uz _ => uz = (ptr p 0)), (fun uz _ => uz = (.int .i64 at_.1)), (fun uz _ => uz = (ptr a 0)), (fun uz _ => uz = (ptr p 1)), (fun uz _ => uz = (.int .i64 at_.2)), (fun uz _ => uz = bv)]) zy zy zy hN (StL.get (StL.eq (StL.eq (StL.eq (StL.eq (StL.eq (StL.eq (StL.eq (StL.eq (StL.eq (StL.eq (StL.eq (StL.eq (StL.nil _)))))))))))))) (ObL.get (s := 12) (ObL.cons ?_ (ObL.cons ?_ (ObL.cons ?_ (ObL.cons ?_ (ObL.cons ?_ (ObL.cons ?_ (ObL.cons ?_ (ObL.cons ?_ (ObL.cons ?_ (ObL.cons ?_ (ObL.cons ?_ (ObL.cons ?_ (ObL.nil))))))))))))) rfl) ?_))))
 ·
  intro aA wA hNA hRA hbsA hdpA
  have t := (hbsA 8 rfl).trans (zU hN rfl)
  refine zG (zC hNA rfl t) ?_
  exact obN_end rfl rfl (grown_refl _ _)
 ·
  intro aA wA hNA hRA hbsA hdpA
  have t : Sl aA 22 (.bool true) := hdpA 0 _ 22 zy rfl rfl
  refine zG (zC hNA rfl t) ?_
  exact obN_end rfl rfl (grown_refl _ _)
 ·
  intro aA wA hNA hRA hbsA hdpA
  have t := (hbsA 0 rfl).trans (zL hN rfl f)
  have z : Sl aA 23 (.bool true) := hdpA 1 _ 23 zy rfl rfl
  refine zS (j := 1) (dj := 23) (b := true) rfl rfl rfl (zC hNA rfl z) (zG (zC hNA rfl t) ?_)
  exact obN_end rfl rfl (grown_refl _ _)
 ·
  intro aA wA hNA hRA hbsA hdpA
  have t : Sl aA 24 (ptr k 0) := hdpA 2 _ 24 zy rfl rfl
  have z : Sl aA 23 (.bool true) := hdpA 1 _ 23 zy rfl rfl
  refine zS (j := 1) (dj := 23) (b := true) rfl rfl rfl (zC hNA rfl z) (op_nil (zC hNA rfl t) ?_)
  exact obN_end rfl rfl (grown_refl _ _)
 ·
  intro aA wA hNA hRA hbsA hdpA
  have t : Sl aA 25 (ptr k 0) := hdpA 3 _ 25 zy rfl rfl
  have z : Sl aA 23 (.bool true) := hdpA 1 _ 23 zy rfl rfl
  refine zS (j := 1) (dj := 23) (b := true) rfl rfl rfl (zC hNA rfl z) (zM fld71_0 (zC hNA rfl t) ?_)
  exact obN_end rfl rfl (grown_refl _ _)
 ·
  intro aA wA hNA hRA hbsA hdpA
  have hRA : B.grownBy wA none := hRA
  have := hRA.size
  have hk := hk.keep0 hRA
  have t : Sl aA 26 (ptr k 0) := hdpA 4 _ 26 zy rfl rfl
  have z : Sl aA 23 (.bool true) := hdpA 1 _ 23 zy rfl rfl
  clear hbsA hdpA
  refine zS (j := 1) (dj := 23) (b := true) rfl rfl rfl (zC hNA rfl z) (zN one68 (zC hNA rfl t) (hk.cell rfl) ?_)
  exact obN_end rfl rfl (grown_refl _ _)
 ·
  intro aA wA hNA hRA hbsA hdpA
  have t := (hbsA 7 rfl).trans (zU hN rfl)
  have z : Sl aA 23 (.bool true) := hdpA 1 _ 23 zy rfl rfl
  refine zS (j := 1) (dj := 23) (b := true) rfl rfl rfl (zC hNA rfl z) (zM fld80_0 (zC hNA rfl t) ?_)
  exact obN_end rfl rfl (grown_refl _ _)
 ·
  intro aA wA hNA hRA hbsA hdpA
  have hRA : B.grownBy wA none := hRA
  have := hRA.size
  have o := o.keep0 hRA
  have A : Sl aA 28 (ptr p 0) := hdpA 6 _ 28 zy rfl rfl
  have z : Sl aA 23 (.bool true) := hdpA 1 _ 23 zy rfl rfl
  clear hbsA hdpA
  refine zS (j := 1) (dj := 23) (b := true) rfl rfl rfl (zC hNA rfl z) (zN one3 (zC hNA rfl A) (o.cell rfl) ?_)
  exact obN_end rfl rfl (grown_refl _ _)
 ·
  intro aA wA hNA hRA hbsA hdpA
  have hRA : B.grownBy wA none := hRA
  have := hRA.size
  have hPm := hPm.keep0 hRA
  have A : Sl aA 27 (Value.map (some pm)) := hdpA 5 _ 27 zy rfl rfl
  have C : Sl aA 29 (.int .i64 at_.1) := hdpA 7 _ 29 zy rfl rfl
  have z : Sl aA 23 (.bool true) := hdpA 1 _ 23 zy rfl rfl
  clear hbsA hdpA
  refine zS (j := 1) (dj := 23) (b := true) rfl rfl rfl (zC hNA rfl z) (op_look_hit (k := at_.1) (v := a) Try.underlying68 (Go.Gx.key_int Try.underlying3) zero24 (zC hNA rfl A) (zC hNA rfl C) hPm c ?_)
  exact obN_end rfl rfl (grown_refl _ _)
 ·
  intro aA wA hNA hRA hbsA hdpA
  have t := (hbsA 7 rfl).trans (zU hN rfl)
  have z : Sl aA 23 (.bool true) := hdpA 1 _ 23 zy rfl rfl
  refine zS (j := 1) (dj := 23) (b := true) rfl rfl rfl (zC hNA rfl z) (zM fld80_1 (zC hNA rfl t) ?_)
  exact obN_end rfl rfl (grown_refl _ _)
 ·
  intro aA wA hNA hRA hbsA hdpA
  have hRA : B.grownBy wA none := hRA
  have := hRA.size
  have o := o.keep0 hRA
  have t : Sl aA 31 (ptr p 1) := hdpA 9 _ 31 zy rfl rfl
  have z : Sl aA 23 (.bool true) := hdpA 1 _ 23 zy rfl rfl
  clear hbsA hdpA
  refine zS (j := 1) (dj := 23) (b := true) rfl rfl rfl (zC hNA rfl z) (zN one3 (zC hNA rfl t) (o.cell rfl) ?_)
  exact obN_end rfl rfl (grown_refl _ _)
 ·
  intro aA wA hNA hRA hbsA hdpA
  have t := (hbsA 2 rfl).trans (zL hN rfl l)
  have z : Sl aA 23 (.bool true) := hdpA 1 _ 23 zy rfl rfl
  refine zS (j := 1) (dj := 23) (b := true) rfl rfl rfl (zC hNA rfl z) (zG (zC hNA rfl t) ?_)
  exact obN_end rfl rfl (grown_refl _ _)
 intro E F t D A C z
 have D := D.trans hd
 have G := (A 0 rfl).trans (zL hN rfl f)
 have f := (A 1 rfl).trans (zL hN rfl g)
 have g := (A 2 rfl).trans (zL hN rfl l)
 have l := (A 7 rfl).trans (zU hN rfl)
 have H := (A 8 rfl).trans (zU hN rfl)
 have I : Sl E 23 (.bool true) := C 1 _ 23 rfl rfl
 have J : Sl E 30 (ptr a 0) := C 8 _ 30 rfl rfl
 have a : Sl E 32 (.int .i64 at_.2) := C 10 _ 32 rfl rfl
 have K : Sl E 33 bv := C 11 _ 33 rfl rfl
 clear A C
 have z : B.grownBy F none := z
 obtain ⟨hb, _⟩ := yG hb z
 have hk := hk.keep0 z
 have hA := hA.kz z
 have hPm := hPm.keep0 z
 have hMm := hMm.keep0 z
 have hbr := hbr.keep0 z
 have o := o.keep0 z
 refine split_end (from_seq (tl := [_, _, _]) zz zy rfl (zS (j := 1) (dj := 23) (b := true) rfl rfl rfl (zC t rfl I) (zj ok20 (pa_set hA hg c zx hbr (fun k hk => ((NewF.refl _ _) k hk).elim (hap k) (fun q => .inr zx)) zx at_.2 zx) ⟨(zC t rfl J), ⟨(zC t rfl a), ⟨(zC t rfl K), trivial⟩⟩⟩ ?_)))
 rintro _ B ⟨a, rfl, c, A, z⟩
 have C := hk.lt
 have C := hPm.lt
 have C := hMm.lt
 have C := o.lt
 have hA_old := hA
 have := a.size
 have hk := hk.keepG a (hA_old.notBx hk zz zz)
 have hPm := hPm.keepG a (hA_old.notMap hPm)
 have hMm := hMm.keepG a (hA_old.notMap hMm)
 have hbr := hbr.keepG a (fun k hk => ((NewF.refl _ _) k hk).elim (hap k) (fun q => .inr zx))
 have o := o.keepG a u
 have hb := hb.stepF a (fun _ _ h => .inr (.inr (.inr h)))
 have a : ¬ c p := ne_stepF z C u
 have u : NewF w.heap.size F0 c := NewF.trans (NewF.refl _ _) z zx
 refine zS (j := 1) (dj := 23) (b := true) rfl rfl rfl (zC t rfl I) (op_eql (zA t rfl) rfl (fun z => ?_) (fun z => ?_))
 ·
  refine zc (zC t rfl I) (zA t rfl) (zB (n _ _ (wp_cond_true (zA t rfl) (zF fun _ n => zH (zD rfl (zB (n _ _ (wp_ret (zO ( (ret1 rfl D (zA t rfl) ⟨_, rfl, ?_⟩)))))))))))
  have C := hPm
  rw [← esP_mput (L' := setN L at_.2 r) hps hg] at C
  exact ⟨hb, 0, _, _, _, _, _, rfl, hk, A, C, hMm, .set hI hn0 hm hg z, u⟩
 refine zc (zC t rfl I) (zA t rfl) (zB (n _ _ (wp_cond_false (zA t rfl) (wp_skip (d _ _ (zF fun _ d => zH ?_))))))
 have hAb : PgAll B base P ps c := by have C := A; rw [setN_same z, mput_same hg] at C; exact C
 refine zG (zC t rfl G) (zG (zC t rfl g) (zj ok46 (puts_m zx hk hAb hPm hMm hne hI hnx hn0 hPl hbr (fun k hk => (u k hk).elim (hap k) (fun q => .inr zx)) zx) ⟨(zA t rfl), ⟨(zA t rfl), trivial⟩⟩ ?_))
 rintro _ R ⟨E, K, I, O, S, Q, A, rfl, g, z, B, F, J⟩
 have K : ∀ y, y < w.heap.size → c y → (fun x => x = k ∨ x = pm ∨ x = mm ∨ F0 x) y := (fun y hy C => .inr (.inr (.inr ((u y C).resolve_right zx))))
 have O : ¬ (fun x => x = k ∨ x = pm ∨ c x) mm := (fun C => C.elim (fun q => hk.notMap hMm q.symm) (fun C => C.elim (fun q => hne q.symm) (fun C => (hAb.notMap hMm) C)))
 have Q : ¬ (fun x => x = k ∨ x = pm ∨ c x) p := (fun C => C.elim (fun q => by omega) (fun C => C.elim (fun q => o.notMap hPm q) (fun C => a C)))
 have := E.size
 have hb := hb.stepF E (fun y hy C => C.elim (fun q => .inl q) (fun C => C.elim (fun q => .inr (.inl q)) (fun C => K y hy C)))
 have a : NewF w.heap.size F0 A := NewF.trans u J zx
 refine zG (zA t rfl) (zW (zA t rfl) rfl (zW (zA t rfl) rfl (op_alloc (cs := [(.int .i64 0), (.int .i64 0)]) zero80 rfl ?_)))
 intro R J S K c u
 have K : ¬ A J := fun hf => by have := (z.lt _ hf).2; omega
 obtain ⟨hb, _⟩ := yG hb u
 have g := g.keep0 u
 have R := c
 refine zZ size80 (zA t rfl) (zA t rfl) rfl rfl c rfl ?_
 intro T c S
 have := S.size
 have hMm := ((hMm.keepG E O).keep0 u).keepB R S
 have o := ((o.keepG E Q).keep0 u).keep S sB
 have g := g.keep S (sN g R)
 have z := (z.kz u).keepG (Gr.of S) (Dj.one K)
 have B := (B.keep0 u).keepB R S
 have hb := hb.step1 S zx
 refine zD (zA t rfl) (zB (d _ _ (zF fun _ d => zF fun _ n => zH (zG (zA t rfl) (op_neq (zA t rfl) rfl (fun u => ?_) (fun u => ?_))))))
 ·
  refine zB (n _ _ (wp_cond_true (zA t rfl) (zF fun _ n => zH (zG (zA t rfl) (zD (zA t rfl) (zB (n _ _ (wp_ret (zO ( (ret1 rfl D (zA t rfl) ⟨_, rfl, ?_⟩)))))))))))
  exact ⟨hb, _, _, _, _, _, _, rfl, g, z, B, hMm, .of_bad F u hI hn0, a⟩
 refine zB (n _ _ (wp_cond_false (zA t rfl) (wp_skip (d _ _ (zF fun _ d => zF fun _ n => zH (zG (zC t rfl H) (zB (n _ _ (wp_cond_true (zA t rfl) (zH ?_))))))))))
 obtain ⟨⟨H, n⟩, E⟩ := F.still u hI hn0 hm
 have H := at_rng n E
 obtain ⟨Q, R, E, H, O, _⟩ := z.key n
 have O := H.fits
 refine zG (zC t rfl G) (zY agg80 rfl (zC t rfl l) o (zj ok47 (drops_m zx g z B hMm hne n E zx) ⟨(zA t rfl), ⟨(zA t rfl), trivial⟩⟩ ?_))
 rintro _ R ⟨n, rfl, S, T, Q, l, E, H, O⟩
 have R : ∀ y, y < w.heap.size → A y → (fun x => x = k ∨ x = pm ∨ x = mm ∨ F0 x) y := (fun y hy C => .inr (.inr (.inr ((a y C).resolve_right zx))))
 have S : ¬ (fun x => x = pm ∨ A x) mm := (fun C => C.elim (fun q => hne q.symm) (fun C => (z.notMap hMm) C))
 have T : ¬ (fun x => x = pm ∨ A x) p := (fun C => C.elim (fun q => o.notMap B q) (fun C => (z.notBx o zz zz) C))
 have o : ¬ (fun x => x = pm ∨ A x) k := (fun C => C.elim (fun q => g.notMap B q) (fun C => (z.notBx g zz zz) C))
 have p : ¬ (fun x => x = pm ∨ A x) J := (fun C => C.elim (fun q => c.notMap B q) (fun C => K C))
 have := n.size
 have hb := hb.stepF n (fun y hy C => C.elim (fun q => .inr (.inl q)) (fun C => R y hy C))
 have z : NewF w.heap.size F0 Q := NewF.trans a O zx
 refine zB (d _ _ (zF fun _ d => reg_from mixed ?_))
 intro A a
 obtain ⟨hb, _⟩ := yG hb a
 have hMm := (hMm.keepG n S).keep0 a
 have g := (g.keepG n o).keep0 a
 have c := (c.keepG n p).keep0 a
 have l := l.kz a
 refine from_still (m := 6) 6 (hd := [_, _, _, _, _, _]) zy rfl rfl (st_step rfl (fun _ C => zG (zC t rfl G) C) (st_step rfl (fun _ C => op_nil (zA t rfl) C) (st_step rfl (fun _ C => zM fld71_2 (zA t rfl) C) (st_step rfl (fun _ C => zN one69 (zA t rfl) (g.cell rfl) C) (st_step rfl (fun _ C => zG (zC t rfl f) C) (st_step rfl (fun _ C => zY agg80 rfl (zA t rfl) c C) (st_nil (from_seq (tl := [_]) zz zy rfl ?_))))))))
 have hMm_old := hMm
 refine op_mapput (k := id) (v := (I.1, I.2)) Try.underlying69 (Go.Gx.key_int Try.underlying57) (zA t rfl) (zA t rfl) (zA t rfl) hMm ?_
 intro n f c
 have := c.size
 have g := g.keepM hMm_old c
 have l := l.keepG (Gr.of c) (Dj.one (l.notMap hMm_old))
 have E := (E.keep0 a).keep c sB
 have hb := hb.stepB c (.inr (.inr (.inl rfl)))
 refine zB (d _ _ (zF fun _ d => zH (zD rfl (zB (d _ _ (wp_ret (ret1 rfl D (zA t rfl) ⟨_, rfl, ?_⟩)))))))
 exact ⟨hb, 0, _, _, _, _, _, rfl, g, l, E, f, .old F u hI hn0 hm H, z⟩

theorem HDrop_n {base k : Nat} {nx : Int} {w : World} (hbase : base ≤ w.heap.size) (hk : Bx w k 71 [.map none, .int .i64 nx, .map none]) {id : Int}  : Ret Try.prog 29 #[(ptr k 0), (.int .u64 id)] w (fun v' w' => Below w.heap.size w w' ∧ v' = .int .i64 22) := by
 have hb := Below.refl w.heap.size w
 refine enter (N := 28) Try.func29 rfl rfl (by simp) fun a hN hd hA => ?_
 have b : a.tmps.getD 0 undef = (ptr k 0) := hA 0 (by simp)
 have c : a.tmps.getD 1 undef = (.int .u64 id) := hA 1 (by simp)
 clear hA
 refine zF fun _ a => ?_
 refine zH (zD rfl (zB (a _ _ (zF fun _ a => zF fun _ d => zH (zG (zC hN rfl b) (op_peq_some ptrt53 (zA hN rfl) rfl (zB (d _ _ (wp_cond_false (zA hN rfl) (wp_skip (a _ _ (zF fun _ a => ?_))))))))))))
 refine zH (zG (zC hN rfl b) (op_nil (zA hN rfl) (zM fld71_2 (zA hN rfl) (zN one69 (zA hN rfl) (hk.cell rfl) (zG (zC hN rfl c) (op_look2_nil (k := id) Try.underlying69 (Go.Gx.key_int Try.underlying57) zero80 (zA hN rfl) (zA hN rfl) (zG (zA hN rfl) (zW (zA hN rfl) rfl (zW (zA hN rfl) rfl (op_alloc (cs := [(.int .i64 0), (.int .i64 0)]) zero80 rfl ?_))))))))))
 intro h f g e b c
 obtain ⟨hb, _⟩ := yE hb c
 refine zZ size80 (zA hN rfl) (zA hN rfl) rfl rfl b rfl ?_
 intro e b c
 have := c.size
 have hb := below_step1 hb c hb.size zx
 refine zD (zA hN rfl) (zB (a _ _ (zF fun _ a => zF fun _ d => ?_)))
 refine zH (zG (zA hN rfl) (op_not (zA hN rfl) (zB (d _ _ (wp_cond_true (zA hN rfl) (zF fun _ d => zH (zD rfl (zB (d _ _ (wp_ret (zO ( (ret1 rfl hd (zA hN rfl) ⟨_, rfl, ?_⟩)))))))))))))
 exact ⟨hb, rfl⟩

theorem HGet_n {base k : Nat} {nx : Int} {w : World} (hbase : base ≤ w.heap.size) (hk : Bx w k 71 [.map none, .int .i64 nx, .map none]) {id : Int}  : Ret Try.prog 30 #[(ptr k 0), (.int .u64 id)] w (fun v' w' => Below w.heap.size w w' ∧ v' = .tuple #[.slice none 0 0, .int .i64 22]) := by
 have hb := Below.refl w.heap.size w
 refine enter (N := 33) Try.func30 rfl rfl (by simp) fun a hN hd hA => ?_
 have b : a.tmps.getD 0 undef = (ptr k 0) := hA 0 (by simp)
 have c : a.tmps.getD 1 undef = (.int .u64 id) := hA 1 (by simp)
 clear hA
 refine zF fun _ a => zH ?_
 refine zD rfl (zD rfl (zB (a _ _ (zF fun _ a => zF fun _ d => zH (zG (zC hN rfl b) (op_peq_some ptrt53 (zA hN rfl) rfl (zB (d _ _ (wp_cond_false (zA hN rfl) (wp_skip (a _ _ (zF fun _ a => ?_))))))))))))
 refine zH (zG (zC hN rfl b) (op_nil (zA hN rfl) (zM fld71_2 (zA hN rfl) (zN one69 (zA hN rfl) (hk.cell rfl) (zG (zC hN rfl c) (op_look2_nil (k := id) Try.underlying69 (Go.Gx.key_int Try.underlying57) zero80 (zA hN rfl) (zA hN rfl) (zG (zA hN rfl) (zW (zA hN rfl) rfl (zW (zA hN rfl) rfl (op_alloc (cs := [(.int .i64 0), (.int .i64 0)]) zero80 rfl ?_))))))))))
 intro e f h g b c
 obtain ⟨hb, _⟩ := yE hb c
 refine zZ size80 (zA hN rfl) (zA hN rfl) rfl rfl b rfl ?_
 intro e b c
 have := c.size
 have hb := below_step1 hb c hb.size zx
 refine zD (zA hN rfl) (zB (a _ _ (zF fun _ a => zF fun _ d => zH ?_)))
 refine zG (zA hN rfl) (op_not (zA hN rfl) (zB (d _ _ (wp_cond_true (zA hN rfl) (zF fun _ d => zH (zD rfl (zD rfl (zB (d _ _ (wp_ret (zO ( (ret2 rfl hd (zA hN rfl) (zA hN rfl) ⟨_, rfl, ?_⟩)))))))))))))
 exact ⟨hb, rfl⟩

theorem HDrop_miss {base k pm mm : Nat} {P : PM} {ps : List Nat} {M : AM} {nx : Int} {F0 : Nat → Prop} {w : World} (hbase : base ≤ w.heap.size) (hk : Bx w k 71 [.map (some pm), .int .i64 nx, .map (some mm)]) (hA : PgAll w base P ps F0) (hPm : MapC (.int .i64) pv w pm (esP P ps)) (hMm : MapC (.int .u64) plv w mm M) (hne : pm ≠ mm) {id : Int} (hm : mget M id = none)  : Ret Try.prog 29 #[(ptr k 0), (.int .u64 id)] w (fun v' w' => Below w.heap.size w w' ∧ v' = .int .i64 22) := by
 have hb := Below.refl w.heap.size w
 refine enter (N := 28) Try.func29 rfl rfl (by simp) fun a hN hd hA => ?_
 have b : a.tmps.getD 0 undef = (ptr k 0) := hA 0 (by simp)
 have c : a.tmps.getD 1 undef = (.int .u64 id) := hA 1 (by simp)
 clear hA
 refine zF fun _ a => ?_
 refine zH (zD rfl (zB (a _ _ (zF fun _ a => zF fun _ d => zH (zG (zC hN rfl b) (op_peq_some ptrt53 (zA hN rfl) rfl (zB (d _ _ (wp_cond_false (zA hN rfl) (wp_skip (a _ _ (zF fun _ a => ?_))))))))))))
 refine zH (zG (zC hN rfl b) (op_nil (zA hN rfl) (zM fld71_2 (zA hN rfl) (zN one69 (zA hN rfl) (hk.cell rfl) (zG (zC hN rfl c) (op_look2_miss (k := id) Try.underlying69 (Go.Gx.key_int Try.underlying57) zero80 (zA hN rfl) (zA hN rfl) hMm hm (zG (zA hN rfl) (zW (zA hN rfl) rfl (zW (zA hN rfl) rfl (op_alloc (cs := [(.int .i64 0), (.int .i64 0)]) zero80 rfl ?_))))))))))
 intro h f e g b c
 obtain ⟨hb, _⟩ := yE hb c
 refine zZ size80 (zA hN rfl) (zA hN rfl) rfl rfl b rfl ?_
 intro e b c
 have := c.size
 have hb := below_step1 hb c hb.size zx
 refine zD (zA hN rfl) (zB (a _ _ (zF fun _ a => zF fun _ d => ?_)))
 refine zH (zG (zA hN rfl) (op_not (zA hN rfl) (zB (d _ _ (wp_cond_true (zA hN rfl) (zF fun _ d => zH (zD rfl (zB (d _ _ (wp_ret (zO ( (ret1 rfl hd (zA hN rfl) ⟨_, rfl, ?_⟩)))))))))))))
 exact ⟨hb, rfl⟩

theorem HGet_miss {base k pm mm : Nat} {P : PM} {ps : List Nat} {M : AM} {nx : Int} {F0 : Nat → Prop} {w : World} (hbase : base ≤ w.heap.size) (hk : Bx w k 71 [.map (some pm), .int .i64 nx, .map (some mm)]) (hA : PgAll w base P ps F0) (hPm : MapC (.int .i64) pv w pm (esP P ps)) (hMm : MapC (.int .u64) plv w mm M) (hne : pm ≠ mm) {id : Int} (hm : mget M id = none)  : Ret Try.prog 30 #[(ptr k 0), (.int .u64 id)] w (fun v' w' => Below w.heap.size w w' ∧ v' = .tuple #[.slice none 0 0, .int .i64 22]) := by
 have hb := Below.refl w.heap.size w
 refine enter (N := 33) Try.func30 rfl rfl (by simp) fun a hN hd hA => ?_
 have b : a.tmps.getD 0 undef = (ptr k 0) := hA 0 (by simp)
 have c : a.tmps.getD 1 undef = (.int .u64 id) := hA 1 (by simp)
 clear hA
 refine zF fun _ a => zH ?_
 refine zD rfl (zD rfl (zB (a _ _ (zF fun _ a => zF fun _ d => zH (zG (zC hN rfl b) (op_peq_some ptrt53 (zA hN rfl) rfl (zB (d _ _ (wp_cond_false (zA hN rfl) (wp_skip (a _ _ (zF fun _ a => ?_))))))))))))
 refine zH (zG (zC hN rfl b) (op_nil (zA hN rfl) (zM fld71_2 (zA hN rfl) (zN one69 (zA hN rfl) (hk.cell rfl) (zG (zC hN rfl c) (op_look2_miss (k := id) Try.underlying69 (Go.Gx.key_int Try.underlying57) zero80 (zA hN rfl) (zA hN rfl) hMm hm (zG (zA hN rfl) (zW (zA hN rfl) rfl (zW (zA hN rfl) rfl (op_alloc (cs := [(.int .i64 0), (.int .i64 0)]) zero80 rfl ?_))))))))))
 intro e h f g b c
 obtain ⟨hb, _⟩ := yE hb c
 refine zZ size80 (zA hN rfl) (zA hN rfl) rfl rfl b rfl ?_
 intro e b c
 have := c.size
 have hb := below_step1 hb c hb.size zx
 refine zD (zA hN rfl) (zB (a _ _ (zF fun _ a => zF fun _ d => zH ?_)))
 refine zG (zA hN rfl) (op_not (zA hN rfl) (zB (d _ _ (wp_cond_true (zA hN rfl) (zF fun _ d => zH (zD rfl (zD rfl (zB (d _ _ (wp_ret (zO ( (ret2 rfl hd (zA hN rfl) (zA hN rfl) ⟨_, rfl, ?_⟩)))))))))))))
 exact ⟨hb, rfl⟩

theorem HDrop_hit {base k pm mm : Nat} {P : PM} {ps : List Nat} {M : AM} {nx : Int} {F0 : Nat → Prop} {w : World} (hbase : base ≤ w.heap.size) (hk : Bx w k 71 [.map (some pm), .int .i64 nx, .map (some mm)]) (hA : PgAll w base P ps F0) (hPm : MapC (.int .i64) pv w pm (esP P ps)) (hMm : MapC (.int .u64) plv w mm M) (hne : pm ≠ mm) {id : Int} {at_ : Int × Int} (hI : HInv P nx M) (hm : mget M id = some at_)  : Ret Try.prog 29 #[(ptr k 0), (.int .u64 id)] w (fun v' w' => Gr w w' (fun x => x = pm ∨ x = mm ∨ F0 x) ∧ v' = .int .i64 0 ∧ ∃ (P' : PM) (ps' : List Nat) (F0' : Nat → Prop), PgAll w' base P' ps' F0' ∧ MapC (.int .i64) pv w' pm (esP P' ps') ∧ MapC (.int .u64) plv w' mm (mdel M id) ∧ DropsP P at_ P' ∧ NewF w.heap.size F0 F0') := by
 have hi_k := hk.lt
 have hi_pm := hPm.lt
 have hi_mm := hMm.lt
 have hps := hA.1
 obtain ⟨L, hg⟩ := hI.page hm
 obtain ⟨c, d, b, a, e, _⟩ := hA.key hg
 have c := a.fits
 have a := at_rng hg (hI.key hm).2
 have hb := Gr.refl w (fun x => x = pm ∨ x = mm ∨ F0 x)
 refine enter (N := 28) Try.func29 rfl rfl (by simp) fun a hN hd hA => ?_
 have c : a.tmps.getD 0 undef = (ptr k 0) := hA 0 (by simp)
 have d : a.tmps.getD 1 undef = (.int .u64 id) := hA 1 (by simp)
 clear hA
 refine zF fun _ a => ?_
 refine zH (zD rfl (zB (a _ _ (zF fun _ a => zF fun _ e => zH (zG (zC hN rfl c) (op_peq_some ptrt53 (zA hN rfl) rfl (zB (e _ _ (wp_cond_false (zA hN rfl) (wp_skip (a _ _ (zF fun _ a => ?_))))))))))))
 refine zH (zG (zC hN rfl c) (op_nil (zA hN rfl) (zM fld71_2 (zA hN rfl) (zN one69 (zA hN rfl) (hk.cell rfl) (zG (zC hN rfl d) (op_look2_hit (k := id) (v := at_) Try.underlying69 (Go.Gx.key_int Try.underlying57) zero80 (zA hN rfl) (zA hN rfl) hMm hm (zG (zA hN rfl) (zW (zA hN rfl) rfl (zW (zA hN rfl) rfl (op_alloc (cs := [(.int .i64 0), (.int .i64 0)]) zero80 rfl ?_))))))))))
 intro n j l m f g
 have l : ¬ F0 j := fun hf => by have := (hA.lt _ hf).2; omega
 obtain ⟨hb, _⟩ := yG hb g
 have hk := hk.keep0 g
 have m := f
 refine zZ size80 (zA hN rfl) (zA hN rfl) rfl rfl f rfl ?_
 intro o f n
 have := n.size
 have hk := hk.keep n (sN hk m)
 have hA := (hA.kz g).keepG (Gr.of n) (Dj.one l)
 have hPm := (hPm.keep0 g).keepB m n
 have hMm := (hMm.keep0 g).keepB m n
 have hb := hb.step1 n zx
 refine zD (zA hN rfl) (zB (a _ _ (zF fun _ a => zF fun _ e => zH (zG (zA hN rfl) (op_not (zA hN rfl) ?_)))))
 refine zB (e _ _ (wp_cond_false (zA hN rfl) (wp_skip (a _ _ (zF fun _ a => zH (zG (zC hN rfl c) (zY agg80 rfl (zA hN rfl) f (zj ok47 (drops_m zx hk hA hPm hMm hne hg b zx) ⟨(zA hN rfl), ⟨(zA hN rfl), trivial⟩⟩ ?_))))))))
 rintro _ p ⟨b, rfl, s, r, o, e, g, n, m⟩
 have p : ∀ y, y < w.heap.size → F0 y → (fun x => x = pm ∨ x = mm ∨ F0 x) y := (fun _ _ h => .inr (.inr h))
 have s : ¬ (fun x => x = pm ∨ F0 x) k := (fun r => r.elim (fun q => hk.notMap hPm q) (fun r => (hA.notBx hk zz zz) r))
 have t : ¬ (fun x => x = pm ∨ F0 x) mm := (fun r => r.elim (fun q => hne q.symm) (fun r => (hA.notMap hMm) r))
 have u : ¬ (fun x => x = pm ∨ F0 x) j := (fun r => r.elim (fun q => f.notMap hPm q) (fun r => l r))
 have := b.size
 have hk := hk.keepG b s
 have hMm := hMm.keepG b t
 have hb := hb.stepF b (fun y hy r => r.elim (fun q => .inl q) (fun r => p y hy r))
 have b : NewF w.heap.size F0 o := NewF.trans (NewF.refl _ _) m zx
 refine zB (a _ _ (zF fun _ a => zH (zG (zC hN rfl c) (op_nil (zA hN rfl) (zM fld71_2 (zA hN rfl) (zN one69 (zA hN rfl) (hk.cell rfl) (zG (zC hN rfl d) ?_)))))))
 have hMm_old := hMm
 refine op_mapdel0 (k := id) Try.underlying69 (Go.Gx.key_int Try.underlying57) (zA hN rfl) (zA hN rfl) hMm ?_
 intro f d c
 have := c.size
 have e := e.keepG (Gr.of c) (Dj.one (e.notMap hMm_old))
 have g := g.keep c sB
 have hb := hb.stepB c (.inr (.inl rfl))
 refine zB (a _ _ (zF fun _ a => zH (zD rfl (zB (a _ _ (wp_ret (ret1 rfl hd (zA hN rfl) ⟨_, rfl, ?_⟩)))))))
 exact ⟨hb, rfl, _, _, _, e, g, d, n, b⟩

theorem HGet_hit {base k pm mm : Nat} {P : PM} {ps : List Nat} {M : AM} {nx : Int} {F0 : Nat → Prop} {w : World} (hbase : base ≤ w.heap.size) (hk : Bx w k 71 [.map (some pm), .int .i64 nx, .map (some mm)]) (hA : PgAll w base P ps F0) (hPm : MapC (.int .i64) pv w pm (esP P ps)) (hMm : MapC (.int .u64) plv w mm M) (hne : pm ≠ mm) {id : Int} {at_ : Int × Int} (hI : HInv P nx M) (hm : mget M id = some at_)  : Ret Try.prog 30 #[(ptr k 0), (.int .u64 id)] w (fun v' w' => Gr w w' F0 ∧ ∃ (x : Value) (b : By) (F0' : Nat → Prop), v' = .tuple #[x, .int .i64 0] ∧ mget (recs P M) id = some b ∧ Own w' w.heap.size 5 1 x b.length (b.map u8v) ∧ PgAll w' base P ps F0' ∧ NewF w.heap.size F0 F0' ∧ Dj (Bl x) F0') := by
 have hi_k := hk.lt
 have hi_pm := hPm.lt
 have hi_mm := hMm.lt
 have hps := hA.1
 obtain ⟨L, hg⟩ := hI.page hm
 obtain ⟨a, e, c, d, f, _⟩ := hA.key hg
 have e := d.fits
 have d := at_rng hg (hI.key hm).2
 have hdg := drop_get hI hm hg
 have hb := Gr.refl w F0
 refine enter (N := 33) Try.func30 rfl rfl (by simp) fun d hN hd hA => ?_
 have e : d.tmps.getD 0 undef = (ptr k 0) := hA 0 (by simp)
 have f : d.tmps.getD 1 undef = (.int .u64 id) := hA 1 (by simp)
 clear hA
 refine zF fun _ d => zH ?_
 refine zD rfl (zD rfl (zB (d _ _ (zF fun _ d => zF fun _ g => zH (zG (zC hN rfl e) (op_peq_some ptrt53 (zA hN rfl) rfl (zB (g _ _ (wp_cond_false (zA hN rfl) (wp_skip (d _ _ (zF fun _ d => ?_))))))))))))
 refine zH (zG (zC hN rfl e) (op_nil (zA hN rfl) (zM fld71_2 (zA hN rfl) (zN one69 (zA hN rfl) (hk.cell rfl) (zG (zC hN rfl f) (op_look2_hit (k := id) (v := at_) Try.underlying69 (Go.Gx.key_int Try.underlying57) zero80 (zA hN rfl) (zA hN rfl) hMm hm (zG (zA hN rfl) (zW (zA hN rfl) rfl (zW (zA hN rfl) rfl (op_alloc (cs := [(.int .i64 0), (.int .i64 0)]) zero80 rfl ?_))))))))))
 intro p j n o f l
 have n : ¬ F0 j := fun hf => by have := (hA.lt _ hf).2; omega
 obtain ⟨hb, _⟩ := yG hb l
 have hk := hk.keep0 l
 have o := f
 refine zZ size80 (zA hN rfl) (zA hN rfl) rfl rfl f rfl ?_
 intro q f p
 have := p.size
 have hk := hk.keep p (sN hk o)
 have hA := (hA.kz l).keepG (Gr.of p) (Dj.one n)
 have hPm := (hPm.keep0 l).keepB o p
 have hMm := (hMm.keep0 l).keepB o p
 have hb := hb.step1 p zx
 refine zD (zA hN rfl) ?_
 refine zB (d _ _ (zF fun _ d => zF fun _ g => zH (zG (zA hN rfl) (op_not (zA hN rfl) (zB (g _ _ (wp_cond_false (zA hN rfl) (wp_skip (d _ _ (zF fun _ d => reg_split (hd := [_, _, _, _, _, _, _, _, _]) (tl := _) 9 mixed zy rfl rfl (any_quiet (Φ := phiL [(fun uz _ => uz = (ptr k 0)), (fun uz _ => uz = (ptr k 0)), (fun uz _ => uz = (ptr k 0)), (fun uz _ => uz = (Value.map (some pm))), (fun uz _ => uz = (ptr j 0)), (fun uz _ => uz = (.int .i64 at_.1)), (fun uz _ => uz = (ptr a 0)), (fun uz _ => uz = (ptr j 1)), (fun uz _ => uz = (.int .i64 at_.2))]) zy zy zy hN (StL.get (StL.eq (StL.eq (StL.eq (StL.eq (StL.eq (StL.eq (StL.eq (StL.eq (StL.eq (StL.nil _))))))))))) (ObL.get (s := 9) (ObL.cons ?_ (ObL.cons ?_ (ObL.cons ?_ (ObL.cons ?_ (ObL.cons ?_ (ObL.cons ?_ (ObL.cons ?_ (ObL.cons ?_ (ObL.cons ?_ (ObL.nil)))))))))) rfl) ?_)))))))))))
 ·
  intro aA wA hNA hRA hbsA hdpA
  have g := (hbsA 0 rfl).trans (zL hN rfl e)
  refine zG (zC hNA rfl g) ?_
  exact obN_end rfl rfl (grown_refl _ _)
 ·
  intro aA wA hNA hRA hbsA hdpA
  have e : Sl aA 21 (ptr k 0) := hdpA 0 _ 21 zy rfl rfl
  refine op_nil (zC hNA rfl e) ?_
  exact obN_end rfl rfl (grown_refl _ _)
 ·
  intro aA wA hNA hRA hbsA hdpA
  have e : Sl aA 22 (ptr k 0) := hdpA 1 _ 22 zy rfl rfl
  refine zM fld71_0 (zC hNA rfl e) ?_
  exact obN_end rfl rfl (grown_refl _ _)
 ·
  intro aA wA hNA hRA hbsA hdpA
  have hRA : q.grownBy wA none := hRA
  have := hRA.size
  have hk := hk.keep0 hRA
  have e : Sl aA 23 (ptr k 0) := hdpA 2 _ 23 zy rfl rfl
  clear hbsA hdpA
  refine zN one68 (zC hNA rfl e) (hk.cell rfl) ?_
  exact obN_end rfl rfl (grown_refl _ _)
 ·
  intro aA wA hNA hRA hbsA hdpA
  have e := (hbsA 6 rfl).trans (zU hN rfl)
  refine zM fld80_0 (zC hNA rfl e) ?_
  exact obN_end rfl rfl (grown_refl _ _)
 ·
  intro aA wA hNA hRA hbsA hdpA
  have hRA : q.grownBy wA none := hRA
  have := hRA.size
  have f := f.keep0 hRA
  have g : Sl aA 25 (ptr j 0) := hdpA 4 _ 25 zy rfl rfl
  clear hbsA hdpA
  refine zN one3 (zC hNA rfl g) (f.cell rfl) ?_
  exact obN_end rfl rfl (grown_refl _ _)
 ·
  intro aA wA hNA hRA hbsA hdpA
  have hRA : q.grownBy wA none := hRA
  have := hRA.size
  have hPm := hPm.keep0 hRA
  have g : Sl aA 24 (Value.map (some pm)) := hdpA 3 _ 24 zy rfl rfl
  have l : Sl aA 26 (.int .i64 at_.1) := hdpA 5 _ 26 zy rfl rfl
  clear hbsA hdpA
  refine op_look_hit (k := at_.1) (v := a) Try.underlying68 (Go.Gx.key_int Try.underlying3) zero24 (zC hNA rfl g) (zC hNA rfl l) hPm c ?_
  exact obN_end rfl rfl (grown_refl _ _)
 ·
  intro aA wA hNA hRA hbsA hdpA
  have e := (hbsA 6 rfl).trans (zU hN rfl)
  refine zM fld80_1 (zC hNA rfl e) ?_
  exact obN_end rfl rfl (grown_refl _ _)
 ·
  intro aA wA hNA hRA hbsA hdpA
  have hRA : q.grownBy wA none := hRA
  have := hRA.size
  have f := f.keep0 hRA
  have e : Sl aA 28 (ptr j 1) := hdpA 7 _ 28 zy rfl rfl
  clear hbsA hdpA
  refine zN one3 (zC hNA rfl e) (f.cell rfl) ?_
  exact obN_end rfl rfl (grown_refl _ _)
 intro n p e l o j g
 have l := l.trans hd
 have r : Sl n 27 (ptr a 0) := j 6 _ 27 rfl rfl
 have a : Sl n 29 (.int .i64 at_.2) := j 8 _ 29 rfl rfl
 clear o j
 have g : q.grownBy p none := g
 obtain ⟨hb, _⟩ := yG hb g
 have hk := hk.keep0 g
 have hA := hA.kz g
 have hPm := hPm.keep0 g
 have hMm := hMm.keep0 g
 have f := f.keep0 g
 refine split_end (from_one (k' := 10) zy rfl rfl (zj ok15 (pa_get hA hg c zx at_.2 zx) ⟨(zC e rfl r), ⟨(zC e rfl a), trivial⟩⟩ ?_))
 rintro _ q ⟨c, g, rfl, a, j, o, p, n⟩
 have q := hk.lt
 have q := hPm.lt
 have q := hMm.lt
 have q := f.lt
 have f := a.mono (base' := w.heap.size) zx
 have := c.size
 have hb := hb.stepF c (fun _ _ h => h)
 have c : NewF w.heap.size F0 j := NewF.trans (NewF.refl _ _) p zx
 have a := f
 refine from_next (from_still (m := 14) 4 (hd := [_, _, _, _]) zy rfl rfl (st_step rfl (fun _ f => zW (zA e rfl) rfl f) (st_step rfl (fun _ f => zW (zA e rfl) rfl f) (st_step rfl (fun _ f => zD (zA e rfl) f) (st_step rfl (fun _ f => zD (zA e rfl) f) (st_nil (from_end ?_ rfl)))))))
 refine d _ _ (wp_ret (ret2 rfl l (zA e rfl) (zA e rfl) ⟨_, rfl, ?_⟩))
 have f := o
 rw [mput_same hg] at f
 exact ⟨hb, g, _, _, congrArg (fun z : Int => Value.tuple #[g, .int .i64 z]) hdg.1, hdg.2, a, f, c, n⟩

end Go.Proofs.Ytdhpalioifjfbaa

namespace Go.Proofs.Ytdhpalioifjfbaa
open Go.Gx Go.RowKit

theorem HeapR.zero {w : World} {base k : Nat} (h0 : base ≤ k) (hx : Bx w k 71 [.map none, .int .i64 0, .map none]) : HeapR w base k [] 0 (fun x => x = k) :=
  ⟨[], 0, [], ⟨_, _, [], NoB, h0, hx, PgAll.nil w base, .inl ⟨rfl, rfl, rfl, rfl⟩, fun x => ⟨.inl, fun q => q.elim id fun q => q.elim (fun q => (by cases q)) fun q => q.elim (fun q => (by cases q)) fun q => q.elim⟩⟩, HInv.nil 0, Int.le_refl _, Int.le_refl _, Nat.le_refl _, rfl⟩
theorem hNew_ret (w : World) : Ret Try.prog 27 #[] w (fun v' w' => Below w.heap.size w w' ∧ ∃ k F, v' = ptr k 0 ∧ HeapR w' w.heap.size k [] 0 F) :=
  (HNew_ret w).mono fun v' w' ⟨hb, k, hv, h0, hx⟩ => ⟨hb, k, _, hv, HeapR.zero h0 hx⟩
section
variable {base k m : Nat} {R : List (Int × By)} {F : Nat → Prop} {w : World} {id : Int}
theorem map_F {pm mm : Nat} {F0 : Nat → Prop} (hF : ∀ x, F x ↔ x = k ∨ (Value.map (some pm)) = .map (some x) ∨ (Value.map (some mm)) = .map (some x) ∨ F0 x) : F k ∧ F pm ∧ F mm ∧ ∀ x, F0 x → F x :=
  ⟨(hF _).2 (.inl rfl), (hF _).2 (.inr (.inl rfl)), (hF _).2 (.inr (.inr (.inl rfl))), fun x h => (hF x).2 (.inr (.inr (.inr h)))⟩
theorem new_F {pm mm : Nat} {F0 F1 : Nat → Prop} {n : Nat} (hF : ∀ x, F x ↔ x = k ∨ (Value.map (some pm)) = .map (some x) ∨ (Value.map (some mm)) = .map (some x) ∨ F0 x) (hN : NewF n F0 F1) : NewF n F (fun x => x = k ∨ (Value.map (some pm)) = .map (some x) ∨ (Value.map (some mm)) = .map (some x) ∨ F1 x) := fun x hx => by
  rcases hx with q | q | q | q
  · exact .inl ((hF x).2 (.inl q))
  · exact .inl ((hF x).2 (.inr (.inl q)))
  · exact .inl ((hF x).2 (.inr (.inr (.inl q))))
  · exact (hN x q).imp (fun q => (hF x).2 (.inr (.inr (.inr q)))) (fun q => q)
def putR (R : List (Int × By)) (id : Int) (r : By) : List (Int × By) := if badB r = true then R else mput R id r
def putO (r : By) : Int := if badB r = true then 7 else 0
theorem hPut_ret (id : Int) {r : By} {bv : Value} {Lo Bo : Nat} (h : HeapR w base k R m F) (hbase : base ≤ w.heap.size) (hm : m < 1000000) (hbr : RdC w Lo Bo 1 bv r.length (r.map u8v)) (hap : ∀ x, F x → x < Lo ∨ Bo ≤ x) (hBw : Bo ≤ w.heap.size) :
    Ret Try.prog 28 #[ptr k 0, .int .u64 id, bv] w (fun v' w' => Gr w w' F ∧ v' = .int .i64 (putO r) ∧ ∃ F', HeapR w' base k (putR R id r) (m + 1) F' ∧ NewF w.heap.size F F') := by
  obtain ⟨P, nx, M, ⟨v1, v2, ps, F0, hk, hx, hA, hMs, hF⟩, hI, hn0, hnm, hMl, rfl⟩ := h
  rcases hMs with ⟨rfl, rfl, rfl, rfl⟩ | ⟨pm, mm, rfl, rfl, hb1, hb2, hne, h1, h2⟩
  · have hFk : F k := (hF _).2 (.inl rfl)
    by_cases hbad : badB r = true
    · refine (HPut_nb (id := id) hbase hx hn0 (by omega) hbad hbr hBw).mono fun v' w' q => ?_
      obtain ⟨E, rfl, hx'⟩ := q
      unfold putO putR
      rw [if_pos hbad, if_pos hbad]
      refine ⟨E.mono fun x _ hx => hx ▸ hFk, rfl, _, ⟨[], nx, [], ⟨_, _, [], NoB, hk, hx', PgAll.nil _ _, .inl ⟨rfl, rfl, rfl, rfl⟩, fun x => Iff.rfl⟩, hI, hn0, by omega, by simp, rfl⟩, fun x hx => ?_⟩
      rcases hx with q | q | q | q
      · exact .inl (q ▸ hFk)
      · cases q
      · cases q
      · exact q.elim
    · have hbad : badB r = false := by simpa using hbad
      refine (HPut_ng (id := id) hbase hx hn0 (by omega) hbad hbr hBw).mono fun v' w' q => ?_
      obtain ⟨E, rfl, pm, mm, p, F1, l1, l2, hne, hx', h1, h2, hP⟩ := q
      have hz : PutsP [] nx r 0 (nx + 1, putK [] r) [(nx + 1, putN [] r)] (nx + 1) := .inr ⟨hbad, rfl, .inr ⟨rfl, rfl, rfl⟩⟩
      have hw := puts_new (id := id) hz hI hn0 hbad rfl
      have e1 : mput ([] : AM) id (nx + 1, putK [] r) = [(id, (nx + 1, putK [] r))] := rfl
      rw [e1] at hw
      unfold putO putR
      rw [if_neg (by rw [hbad]; decide), if_neg (by rw [hbad]; decide)]
      have hA' : PgAll w' base [(nx + 1, putN [] r)] [p] (fun x => NoB x ∨ F1 x) := (PgAll.nil w' base).snoc (hP.mono hbase) (fun x h => h.elim)
      refine ⟨E.mono fun x _ hx => hx ▸ hFk, rfl, _, ⟨[(nx + 1, putN [] r)], nx + 1, _, ⟨_, _, [p], _, hk, hx', hA', .inr ⟨pm, mm, rfl, rfl, by omega, by omega, hne, h1, h2⟩, fun x => Iff.rfl⟩, hw.1, by omega, by omega, by simp, hw.2.symm⟩, fun x hx => ?_⟩
      rcases hx with q | q | q | q | q
      · exact .inl (q ▸ hFk)
      · injection q with q; injection q with q; exact .inr (q ▸ l1)
      · injection q with q; injection q with q; exact .inr (q ▸ l2)
      · exact q.elim
      · exact .inr (hP.lt x q).1
  · obtain ⟨f1, f2, f3, f4⟩ := map_F hF
    have hPl : P.length ≤ 1000000 := by have := hI.pages; omega
    have fin : ∀ (v' : Value) (w' : World), (Gr w w' (fun x => x = k ∨ x = pm ∨ x = mm ∨ F0 x) ∧ ∃ (e nx' : Int) (P' : PM) (M' : AM) (ps' : List Nat) (F0' : Nat → Prop), v' = .int .i64 e ∧ Bx w' k 71 [.map (some pm), .int .i64 nx', .map (some mm)] ∧ PgAll w' base P' ps' F0' ∧ MapC (Value.int .i64) pv w' pm (esP P' ps') ∧ MapC (Value.int .u64) plv w' mm M' ∧ PutZ P nx M id r e P' nx' M' ∧ NewF w.heap.size F0 F0') →
        (Gr w w' F ∧ v' = .int .i64 (putO r) ∧ ∃ F', HeapR w' base k (putR (recs P M) id r) (m + 1) F' ∧ NewF w.heap.size F F') := fun v' w' q => by
      obtain ⟨E, e, nx', P', M', ps', F0', rfl, hx', hA', h1', h2', ⟨z1, z2, z3, z4, z5⟩, hN⟩ := q
      refine ⟨E.mono fun x _ hx => ?_, ?_, _, ⟨P', nx', M', ⟨_, _, ps', F0', hk, hx', hA', .inr ⟨pm, mm, rfl, rfl, hb1, hb2, hne, h1', h2'⟩, fun x => Iff.rfl⟩, z4, z1, by omega, by omega, ?_⟩, new_F hF hN⟩
      · rcases hx with rfl | rfl | rfl | hx
        · exact f1
        · exact f2
        · exact f3
        · exact f4 x hx
      · unfold putO
        rcases z5 with ⟨a, b, c⟩ | ⟨a, b, c⟩
        · rw [if_pos a, b]
        · rw [if_neg (by rw [a]; decide), b]
      · unfold putR
        rcases z5 with ⟨a, b, c⟩ | ⟨a, b, c⟩
        · rw [if_pos a, c]
        · rw [if_neg (by rw [a]; decide), c]
    cases hg : mget M id with
    | none => exact (HPut_miss hbase hx hA h1 h2 hne hI (by omega) hn0 hPl hg hbr (fun x hx => hap x (f4 x hx)) hBw).mono fin
    | some at_ => exact (HPut_hit hbase hx hA h1 h2 hne hI (by omega) hn0 hPl hg hbr (fun x hx => hap x (f4 x hx)) hBw).mono fin
theorem hDrop_ret (id : Int) (h : HeapR w base k R m F) (hbase : base ≤ w.heap.size) :
    Ret Try.prog 29 #[ptr k 0, .int .u64 id] w (fun v' w' => Gr w w' F ∧ v' = .int .i64 (if (mget R id).isSome = true then 0 else 22) ∧ ∃ F', HeapR w' base k (mdel R id) m F' ∧ NewF w.heap.size F F') := by
  have h0 := h
  obtain ⟨P, nx, M, ⟨v1, v2, ps, F0, hk, hx, hA, hMs, hF⟩, hI, hn0, hnm, hMl, rfl⟩ := h
  have none_ : ∀ (v' : Value) (w' : World), mget (recs P M) id = none → (Below w.heap.size w w' ∧ v' = .int .i64 22) → (Gr w w' F ∧ v' = .int .i64 (if (mget (recs P M) id).isSome = true then 0 else 22) ∧ ∃ F', HeapR w' base k (mdel (recs P M) id) m F' ∧ NewF w.heap.size F F') := fun v' w' hr q => by
    rw [hr]
    have hd : mdel (recs P M) id = recs P M := by
      unfold mdel
      have : mlook (recs P M) id = none := by unfold mget at hr; simpa using hr
      rw [this]
    rw [hd]
    exact ⟨Gr.ofBelow q.1 F, q.2, F, h0.keepG (Gr.of0 (grown_of_below q.1) NoB) (fun _ _ h => h), NewF.refl _ _⟩
  rcases hMs with ⟨rfl, rfl, rfl, rfl⟩ | ⟨pm, mm, rfl, rfl, hb1, hb2, hne, h1, h2⟩
  · exact (HDrop_n (id := id) hbase hx).mono fun v' w' q => none_ v' w' rfl q
  · cases hg : mget M id with
    | none => exact (HDrop_miss hbase hx hA h1 h2 hne hg).mono fun v' w' q => none_ v' w' (recs_none hg) q
    | some at_ =>
      refine (HDrop_hit hbase hx hA h1 h2 hne hI hg).mono fun v' w' q => ?_
      obtain ⟨E, rfl, P', ps', F0', hA', h1', h2', hD, hN⟩ := q
      obtain ⟨f1, f2, f3, f4⟩ := map_F hF
      have hd := drops_done hI hg hD
      have hr : (mget (recs P M) id).isSome = true := by rw [recs_get, hg]; rfl
      rw [if_pos hr]
      refine ⟨E.mono fun x _ hx => ?_, rfl, _, ⟨P', nx, mdel M id, ⟨_, _, ps', F0', hk, hx.keepG E ?_, hA', .inr ⟨pm, mm, rfl, rfl, hb1, hb2, hne, h1', h2'⟩, fun x => Iff.rfl⟩, hd.1, hn0, hnm, Nat.le_trans mdel_len hMl, hd.2.symm⟩, new_F hF hN⟩
      · rcases hx with rfl | rfl | hx
        · exact f2
        · exact f3
        · exact f4 x hx
      · rintro (q | q | q)
        · exact hx.notMap h1 q
        · exact hx.notMap h2 q
        · exact hA.notBx hx (by decide) (by decide) q
theorem hGet_hit {b : By} (h : HeapR w base k R m F) (hbase : base ≤ w.heap.size) (hg : mget R id = some b) :
    Ret Try.prog 30 #[ptr k 0, .int .u64 id] w (fun v' w' => Gr w w' F ∧ ∃ x F', v' = .tuple #[x, .int .i64 0] ∧ Own w' w.heap.size 5 1 x b.length (b.map u8v) ∧ HeapR w' base k R m F' ∧ NewF w.heap.size F F' ∧ Dj (Bl x) F') := by
  obtain ⟨P, nx, M, ⟨v1, v2, ps, F0, hk, hx, hA, hMs, hF⟩, hI, hn0, hnm, hMl, rfl⟩ := h
  rcases hMs with ⟨rfl, rfl, rfl, rfl⟩ | ⟨pm, mm, rfl, rfl, hb1, hb2, hne, h1, h2⟩
  · cases hg
  · obtain ⟨at_, hm⟩ : ∃ at_, mget M id = some at_ := by
      cases hq : mget M id with
      | none => rw [recs_none hq] at hg; cases hg
      | some a => exact ⟨a, rfl⟩
    refine (HGet_hit hbase hx hA h1 h2 hne hI hm).mono fun v' w' q => ?_
    obtain ⟨E, x, b', F0', rfl, hg', hO, hA', hN, hdx⟩ := q
    have hx9 := hx.keepG E (hA.notBx hx (by decide) (by decide))
    have h19 := h1.keepG E (hA.notMap h1)
    have h29 := h2.keepG E (hA.notMap h2)
    obtain rfl : b' = b := Option.some.inj (hg'.symm.trans hg)
    obtain ⟨f1, f2, f3, f4⟩ := map_F hF
    refine ⟨E.mono fun x _ hx => f4 x hx, x, _, rfl, hO, ⟨P, nx, M, ⟨_, _, ps, F0', hk, hx.keepG E (hA.notBx hx (by decide) (by decide)), hA', .inr ⟨pm, mm, rfl, rfl, hb1, hb2, hne, h1.keepG E (hA.notMap h1), h2.keepG E (hA.notMap h2)⟩, fun x => Iff.rfl⟩, hI, hn0, hnm, hMl, rfl⟩, new_F hF hN, fun y hy hf => ?_⟩
    rcases hf with rfl | hf | hf | hf
    · exact hO.neB hx9 (by decide) hy
    · injection hf with hf; injection hf with hf; exact hO.notMap h19 (by rw [hf]; exact hy)
    · injection hf with hf; injection hf with hf; exact hO.notMap h29 (by rw [hf]; exact hy)
    · exact hdx y hy hf
theorem hGet_miss (h : HeapR w base k R m F) (hbase : base ≤ w.heap.size) (hg : mget R id = none) :
    Ret Try.prog 30 #[ptr k 0, .int .u64 id] w (fun v' w' => Below w.heap.size w w' ∧ v' = .tuple #[.slice none 0 0, .int .i64 22]) := by
  obtain ⟨P, nx, M, ⟨v1, v2, ps, F0, hk, hx, hA, hMs, hF⟩, hI, hn0, hnm, hMl, rfl⟩ := h
  rcases hMs with ⟨rfl, rfl, rfl, rfl⟩ | ⟨pm, mm, rfl, rfl, hb1, hb2, hne, h1, h2⟩
  · exact HGet_n (id := id) hbase hx
  · refine HGet_miss hbase hx hA h1 h2 hne ?_
    rw [recs_get] at hg; simpa using hg
theorem hLen_ret (h : HeapR w base k R m F) (hbase : base ≤ w.heap.size) : Ret Try.prog 31 #[ptr k 0] w (fun v' w' => Below w.heap.size w w' ∧ v' = .int .i64 (R.length : Int)) := by
  obtain ⟨P, nx, M, ⟨v1, v2, ps, F0, hk, hx, hA, hMs, hF⟩, hI, hn0, hnm, hMl, rfl⟩ := h
  rw [recs_len]
  rcases hMs with ⟨rfl, rfl, rfl, rfl⟩ | ⟨pm, mm, rfl, rfl, hb1, hb2, hne, h1, h2⟩
  · exact HLen_n hbase hx
  · exact HLen_m hbase hx hA h1 h2 hne
theorem hPages_ret (h : HeapR w base k R m F) (hbase : base ≤ w.heap.size) : Ret Try.prog 32 #[ptr k 0] w (fun v' w' => Below w.heap.size w w' ∧ ∃ n : Nat, v' = .int .i64 (n : Int) ∧ n ≤ R.length) := by
  obtain ⟨P, nx, M, ⟨v1, v2, ps, F0, hk, hx, hA, hMs, hF⟩, hI, hn0, hnm, hMl, rfl⟩ := h
  rw [recs_len]
  rcases hMs with ⟨rfl, rfl, rfl, rfl⟩ | ⟨pm, mm, rfl, rfl, hb1, hb2, hne, h1, h2⟩
  · exact (HPages_n hbase hx).mono fun v' w' q => ⟨q.1, 0, q.2, Nat.le_refl _⟩
  · exact (HPages_m hbase hx hA h1 h2 hne).mono fun v' w' q => ⟨q.1, _, q.2, by rw [esP_len hA.1]; exact hI.pages⟩
theorem HeapR.len (h : HeapR w base k R m F) : R.length ≤ m := by
  obtain ⟨P, nx, M, _, _, _, _, hMl, rfl⟩ := h
  rw [recs_len]; exact hMl
theorem HeapR.nodup (h : HeapR w base k R m F) : (R.map Prod.fst).Nodup := by
  obtain ⟨P, nx, M, _, hI, _, _, hMl, rfl⟩ := h
  rw [recs_keys]; exact hI.km
end
end Go.Proofs.Ytdhpalioifjfbaa

namespace Go.Gx
open Go.RowKit
section
variable {P : Program} {ol : List Oper} {Q : Exit → Act → World → Prop} {E : Type} {Φ : E → Nat → Value → Prop} {C : E → Nat → World → Prop} {ch : Chain} {a0 : Act} {N : Nat}
end

section
variable {P : Program} {ol : List Oper} {Q : Exit → Act → World → Prop} {ops : List Nat} {φ : Nat → Value → Prop} {G : World → Prop} {a0 : Act} {N : Nat}
def PhE (ops : List Nat) (φ : Nat → Value → Prop) (e : List Value) (j : Nat) (u : Value) : Prop := (∀ c : Nat, ops[c]? = some j → e[c]? = some u) ∧ (ops.contains j = false → φ j u)
theorem PhE.mono {e : List Value} {v : Value} {j : Nat} {u : Value} (h : PhE ops φ e j u) : PhE ops φ (e ++ [v]) j u :=
  ⟨fun c hc => by have h1 := h.1 c hc; have hl := (List.getElem?_eq_some_iff.1 h1).1; rw [List.getElem?_append_left hl]; exact h1, h.2⟩
theorem PhE.light {j : Nat} {e : List Value} {u : Value} (hh : ops.contains j = false) (h : φ j u) : PhE ops φ e j u :=
  ⟨fun c hc => by have : ops.contains j = true := by simpa using List.mem_of_getElem? hc
                  exact absurd (this.symm.trans hh) (by decide), fun _ => h⟩
def KE (P : Program) (ol : List Oper) (ops : List Nat) (φ : Nat → Value → Prop) (G : World → Prop) (a0 : Act) (N : Nat) (Q : Exit → Act → World → Prop) : List Nat → List Value → World → Prop
  | [], e, w => ∀ w1, w.grownBy w1 none → ∀ a', a'.tmps.size = N → a'.defers = a0.defers → (∀ t, (ol.all fun o => o.dst != some t) = true → a'.tmps.getD t undef = a0.tmps.getD t undef) →
      (∀ j oj d, ol[j]? = some oj → oj.dst = some d → PhE ops φ e j (a'.tmps.getD d undef)) → Q .normal (putsL a' []) w1
  | i :: r, e, w => ∀ w1, w.grownBy w1 none → G w1 → ∀ a, a.tmps.size = N → (∀ t, safeB ol i t = true → a.tmps.getD t undef = a0.tmps.getD t undef) → (∀ j oj d, depB ol i j = true → ol[j]? = some oj → oj.dst = some d → PhE ops φ e j (a.tmps.getD d undef)) →
      ∀ o, ol[i]? = some o → wpList P ol.toArray (fun ex a' w' => ex = .normal ∧ ∃ e', (∀ j u, PhE ops φ e j u → PhE ops φ e' j u) ∧ ((o.dst = none ∧ a' = a) ∨ ∃ d v, o.dst = some d ∧ a' = putsL a [(d, v)] ∧ PhE ops φ e' i v) ∧ (e'.length = e.length + 1 ∧ KE P ol ops φ G a0 N Q r e' w' ∧ G w')) [o] (putsL a []) w1
theorem KE.stable : ∀ {rs : List Nat} {e : List Value} {w w2 : World}, KE P ol ops φ G a0 N Q rs e w → w.grownBy w2 none → KE P ol ops φ G a0 N Q rs e w2
  | [], _, _, _, h, E => fun w1 E1 => h w1 (grown_trans E E1)
  | _ :: _, _, _, _, h, E => fun w1 E1 => h w1 (grown_trans E E1)
def ObE (P : Program) (ol : List Oper) (ops : List Nat) (φ : Nat → Value → Prop) (G : World → Prop) (a0 : Act) (N : Nat) (i : Nat) (o : Oper) : Prop :=
  ∀ (e : List Value) (a : Act) (w : World), a.tmps.size = N → G w → (∀ t, safeB ol i t = true → a.tmps.getD t undef = a0.tmps.getD t undef) → (∀ j oj d, depB ol i j = true → ol[j]? = some oj → oj.dst = some d → PhE ops φ e j (a.tmps.getD d undef)) →
    wpList P ol.toArray (fun ex a' w' => ex = .normal ∧ (∃ d v, o.dst = some d ∧ a' = putsL a [(d, v)] ∧ PhE ops φ e i v) ∧ w.grownBy w' none) [o] (putsL a []) w
def ObEs (P : Program) (ol : List Oper) (ops : List Nat) (φ : Nat → Value → Prop) (G : World → Prop) (a0 : Act) (N : Nat) : Nat → List Oper → Prop
  | _, [] => True
  | i, o :: r => (ops.contains i = false → ObE P ol ops φ G a0 N i o) ∧ ObEs P ol ops φ G a0 N (i + 1) r
theorem ObEs.nil {i : Nat} : ObEs P ol ops φ G a0 N i [] := trivial
theorem ObEs.cons {i : Nat} {o : Oper} {r : List Oper} (h : ObE P ol ops φ G a0 N i o) (h' : ObEs P ol ops φ G a0 N (i + 1) r) : ObEs P ol ops φ G a0 N i (o :: r) := ⟨fun _ => h, h'⟩
theorem ObEs.pass {i : Nat} {o : Oper} {r : List Oper} (hh : ops.contains i = true) (h' : ObEs P ol ops φ G a0 N (i + 1) r) : ObEs P ol ops φ G a0 N i (o :: r) := ⟨fun h => absurd (hh.symm.trans h) (by decide), h'⟩
theorem ObEs.getx : ∀ {l : List Oper} {i : Nat}, ObEs P ol ops φ G a0 N i l → ∀ j o, l[j]? = some o → ops.contains (i + j) = false → ObE P ol ops φ G a0 N (i + j) o
  | [], _, _, j, o, h, _ => by simp at h
  | o' :: r, i, h, 0, o, hj, hs => by simp at hj; subst hj; exact h.1 hs
  | o' :: r, i, h, j + 1, o, hj, hs => by
    have := ObEs.getx h.2 j o (by simpa using hj) (by rwa [show i + 1 + j = i + (j + 1) by omega])
    rwa [show i + 1 + j = i + (j + 1) by omega] at this
end
end Go.Gx
