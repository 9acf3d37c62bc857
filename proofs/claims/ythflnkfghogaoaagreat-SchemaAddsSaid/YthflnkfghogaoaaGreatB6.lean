/- Walks, written by a program: what each function of the translation hands back. -/
import Derived.Test.YthflnkfghogaoaaGreatB5
set_option linter.unusedVariables false
set_option linter.unusedSimpArgs false

namespace Go.Proofs.YthflnkfghogaoaaGreat
open Go.Gx Go.RowKit
attribute [local irreducible] wpList wpStill Code.wp Calls

theorem Cols_own {nm : List UInt8} {l : List PCol} {cv iv : Value} {w : World} (hz : l.length ≤ 1000000) (hl : RdC w 0 w.heap.size 3 cv l.length (l.flatMap cellsC)) : Ret Tryz.prog 42 #[(.agg #[(.string (bs nm)), cv, iv])] w (fun v' w' => Below w.heap.size w w' ∧ ∃ av bv : Value, v' = .tuple #[av, bv] ∧ Own w' w.heap.size 94 3 av (colsOf nm l).length ((colsOf nm l).flatMap cellsI) ∧ Own w' w.heap.size 3 1 bv (kindsOf l).length ((kindsOf l).map (Value.int .i64))) := by
 have hb := Below.refl w.heap.size w
 refine enter (N := 37) Tryz.func42 rfl rfl (by simp) fun a hN hd hA => ?_
 have b : a.tmps.getD 0 undef = (.agg #[(.string (bs nm)), cv, iv]) := hA 0 (by simp)
 clear hA
 refine zF fun _ a => zH (op_box (cs := [(.string (bs nm)), cv, iv]) (zC hN rfl b) rfl ?_)
 intro g c k m b j
 obtain ⟨hb, _⟩ := yE hb j
 refine zD rfl (zD rfl (zB (a _ _ (zF fun _ a => zH (zD rfl (zB (a _ _ (zF fun _ a => ?_))))))))
 refine zH (zD rfl (zB (a _ _ (zF fun _ a => zF fun _ j => zH (zD rfl (zB (j _ _ (wp_block (loop_m (fun mz_ az_ w' => ∃ (i : Nat) (k m : Value), mz_ = l.length - i ∧ (Sl az_ 1 (ptr c 0)) ∧ (Sl az_ 2 (.slice none 0 0)) ∧ (Sl az_ 3 (.slice none 0 0)) ∧ (Sl az_ 6 (.int .i64 ((i : Nat) : Int))) ∧ (Sl az_ 4 k) ∧ (Sl az_ 5 m) ∧ (i ≤ l.length) ∧ (Below w.heap.size w w') ∧ (g.heap.size ≤ w'.heap.size) ∧ (Bx w' c 51 [(.string (bs nm)), cv, iv]) ∧ (Own w' w.heap.size 94 3 k (colsOf nm (l.take i)).length ((colsOf nm (l.take i)).flatMap cellsI)) ∧ (Own w' w.heap.size 3 1 m (kindsOf (l.take i)).length ((kindsOf (l.take i)).map (Value.int .i64)))) _ hN hd ⟨0, (.slice none 0 0), (.slice none 0 0), rfl, (zU hN rfl), (zU hN rfl), (zU hN rfl), (zU hN rfl), (zU hN rfl), (zU hN rfl), (Nat.zero_le _), hb, (Nat.le_refl _), b, (Own.nil _ _ _ _), (Own.nil _ _ _ _)⟩ ?_)))))))))
 rintro _ B C o t ⟨i, k, m, rfl, r, x, u, s, z, y, hi, hb, A, b, q, p⟩
 have := hb.size
 refine zF fun _ j => zF fun _ A => zH (zG (zC o rfl s) (zM fld51_1 (zC o rfl r) (zN one32 (zA o rfl) (b.cell rfl) ?_)))
 have hl' := hl.keep0 (zQ hb)
 refine op_len_rd Tryz.underlying32 (zA o rfl) hl' (op_lss (zA o rfl) (zA o rfl) (fun B => ?_) (fun B => ?_))
 ·
  refine zB (A _ _ (wp_cond_true (zA o rfl) (wp_skip (j _ _ (zF fun _ j => wp_block ?_)))))
  obtain ⟨B, C, D⟩ := hl'.atV (i := i) zz zx
  have hcl := @cols_len nm (l.take i)
  have hkl := @kinds_len (l.take i)
  rw [List.length_take] at hcl hkl
  have F := hl'
  refine reg_split (hd := [_, _, _, _, _, _, _, _, _, _, _, _, _, _, _, _, _, _, _, _, _]) (tl := _) 21 mixed zy rfl rfl (any_tree (φ := phiV [(fun uz => uz = k), (fun uz => uz = (ptr c 0)), (fun uz => uz = (.string (bs nm))), (fun uz => uz = (ptr c 1)), (fun uz => uz = cv), (fun uz => uz = (.int .i64 ((i : Nat) : Int))), (fun uz => uz = (ptr B C)), (fun uz => uz = (ptr B (C + 0))), (fun uz => uz = (.string (bs (l.getD i default).nm))), (fun uz => uz = (.agg #[(.int .i64 0), (.string (bs nm)), (.string (bs (l.getD i default).nm))])), (fun _ => True), (fun _ => True), (fun uz => uz = m), (fun uz => uz = (ptr c 1)), (fun uz => uz = cv), (fun uz => uz = (.int .i64 ((i : Nat) : Int))), (fun uz => uz = (ptr B C)), (fun uz => uz = (ptr B (C + 1))), (fun uz => uz = (.int .i64 (l.getD i default).kind)), (fun _ => True), (fun _ => True)]) (G := fun w' => RdC w' 0 w.heap.size 3 cv l.length (l.flatMap cellsC) ∧ Bx w' c 51 [(.string (bs nm)), cv, iv]) [10, 11, 19, 20] zy zy zy zy zy o (fun g J E h => by obtain ⟨H, I⟩ := h; exact ⟨H.keep0 E, I.keep0 E⟩) ⟨F, b⟩ (ObRs9.cons ?_ (ObRs9.cons ?_ (ObRs9.cons ?_ (ObRs9.cons ?_ (ObRs9.cons ?_ (ObRs9.cons ?_ (ObRs9.cons ?_ (ObRs9.cons ?_ (ObRs9.cons ?_ (ObRs9.cons ?_ (ObRs9.pass rfl (ObRs9.pass rfl (ObRs9.cons ?_ (ObRs9.cons ?_ (ObRs9.cons ?_ (ObRs9.cons ?_ (ObRs9.cons ?_ (ObRs9.cons ?_ (ObRs9.cons ?_ (ObRs9.pass rfl (ObRs9.pass rfl (ObRs9.nil)))))))))))))))))))))) (by simp only [putsL_defers]) ?_)
  ·
   intro eA aA wA hNA hGA hbsA hdpA
   have g := (hbsA 4 rfl).trans (zL o rfl z)
   refine zG (zC hNA rfl g) ?_
   exact obT_end rfl rfl
  ·
   intro eA aA wA hNA hGA hbsA hdpA
   have g := (hbsA 1 rfl).trans (zL o rfl r)
   refine zM fld51_0 (zC hNA rfl g) ?_
   exact obT_end rfl rfl
  ·
   intro eA aA wA hNA hGA hbsA hdpA
   have H : Sl aA 15 (ptr c 0) := (hdpA 1 _ 15 zy rfl rfl).2 rfl
   obtain ⟨F, b⟩ := hGA
   refine zN one9 (zC hNA rfl H) (b.cell rfl) ?_
   exact obT_end rfl rfl
  ·
   intro eA aA wA hNA hGA hbsA hdpA
   have g := (hbsA 1 rfl).trans (zL o rfl r)
   refine zM fld51_1 (zC hNA rfl g) ?_
   exact obT_end rfl rfl
  ·
   intro eA aA wA hNA hGA hbsA hdpA
   have H : Sl aA 17 (ptr c 1) := (hdpA 3 _ 17 zy rfl rfl).2 rfl
   obtain ⟨F, b⟩ := hGA
   refine zN one32 (zC hNA rfl H) (b.cell rfl) ?_
   exact obT_end rfl rfl
  ·
   intro eA aA wA hNA hGA hbsA hdpA
   have H := (hbsA 6 rfl).trans (zL o rfl s)
   refine zG (zC hNA rfl H) ?_
   exact obT_end rfl rfl
  ·
   intro eA aA wA hNA hGA hbsA hdpA
   have I : Sl aA 18 cv := (hdpA 4 _ 18 zy rfl rfl).2 rfl
   have J : Sl aA 19 (.int .i64 ((i : Nat) : Int)) := (hdpA 5 _ 19 zy rfl rfl).2 rfl
   obtain ⟨F, b⟩ := hGA
   refine op_index_atR (i := i) slt32 (zC hNA rfl I) F zz (zC hNA rfl J) zx zx D ?_
   exact obT_end rfl rfl
  ·
   intro eA aA wA hNA hGA hbsA hdpA
   have I : Sl aA 20 (ptr B C) := (hdpA 6 _ 20 zy rfl rfl).2 rfl
   refine zM fld48_0 (zC hNA rfl I) ?_
   exact obT_end rfl rfl
  ·
   intro eA aA wA hNA hGA hbsA hdpA
   have I : Sl aA 21 (ptr B (C + 0)) := (hdpA 7 _ 21 zy rfl rfl).2 rfl
   obtain ⟨F, b⟩ := hGA
   refine zN (v := (Value.string (bs (l.getD i default).nm))) one9 (zC hNA rfl I) (F.cellAt D 0 _ ((el_pc (i := i) rfl zx) 0 _ rfl)) ?_
   exact obT_end rfl rfl
  ·
   intro eA aA wA hNA hGA hbsA hdpA
   have I : Sl aA 16 (.string (bs nm)) := (hdpA 2 _ 16 zy rfl rfl).2 rfl
   have J : Sl aA 22 (.string (bs (l.getD i default).nm)) := (hdpA 8 _ 22 zy rfl rfl).2 rfl
   refine zf (pv := [(1, (.string (bs nm))), (2, (.string (bs (l.getD i default).nm)))]) (v := (Value.agg #[(.int .i64 0), (.string (bs nm)), (.string (bs (l.getD i default).nm))])) ⟨rfl, (zC hNA rfl I), ⟨rfl, (zC hNA rfl J), trivial⟩⟩ zy ?_
   exact obT_end rfl rfl
  ·
   intro eA aA wA hNA hGA hbsA hdpA
   have I := (hbsA 5 rfl).trans (zL o rfl y)
   refine zG (zC hNA rfl I) ?_
   exact obT_end rfl rfl
  ·
   intro eA aA wA hNA hGA hbsA hdpA
   have g := (hbsA 1 rfl).trans (zL o rfl r)
   refine zM fld51_1 (zC hNA rfl g) ?_
   exact obT_end rfl rfl
  ·
   intro eA aA wA hNA hGA hbsA hdpA
   have g : Sl aA 27 (ptr c 1) := (hdpA 13 _ 27 zy rfl rfl).2 rfl
   obtain ⟨F, b⟩ := hGA
   refine zN one32 (zC hNA rfl g) (b.cell rfl) ?_
   exact obT_end rfl rfl
  ·
   intro eA aA wA hNA hGA hbsA hdpA
   have H := (hbsA 6 rfl).trans (zL o rfl s)
   refine zG (zC hNA rfl H) ?_
   exact obT_end rfl rfl
  ·
   intro eA aA wA hNA hGA hbsA hdpA
   have c : Sl aA 28 cv := (hdpA 14 _ 28 zy rfl rfl).2 rfl
   have g : Sl aA 29 (.int .i64 ((i : Nat) : Int)) := (hdpA 15 _ 29 zy rfl rfl).2 rfl
   obtain ⟨F, b⟩ := hGA
   refine op_index_atR (i := i) slt32 (zC hNA rfl c) F zz (zC hNA rfl g) zx zx D ?_
   exact obT_end rfl rfl
  ·
   intro eA aA wA hNA hGA hbsA hdpA
   have c : Sl aA 30 (ptr B C) := (hdpA 16 _ 30 zy rfl rfl).2 rfl
   refine zM fld48_1 (zC hNA rfl c) ?_
   exact obT_end rfl rfl
  ·
   intro eA aA wA hNA hGA hbsA hdpA
   have c : Sl aA 31 (ptr B (C + 1)) := (hdpA 17 _ 31 zy rfl rfl).2 rfl
   obtain ⟨F, b⟩ := hGA
   refine zN (v := (Value.int .i64 (l.getD i default).kind)) one3 (zC hNA rfl c) (F.cellAt D 1 _ ((el_pc (i := i) rfl zx) 1 _ rfl)) ?_
   exact obT_end rfl rfl
  refine kt_step (rs := [10, 19]) zy (more_mem ?_ ?_)
  ·
   intro D c _ C B H g o_ ho_; obtain rfl := zE ho_
   obtain ⟨hb, _⟩ := yE hb c
   have D : Sl C 23 (.agg #[(.int .i64 0), (.string (bs nm)), (.string (bs (l.getD i default).nm))]) := (g 9 _ 23 zy rfl rfl).2 rfl
   refine op_bslice (e := 94) (pv := [(0, (.agg #[(.int .i64 0), (.string (bs nm)), (.string (bs (l.getD i default).nm))]))]) (cs := [(.int .i64 0), (.string (bs nm)), (.string (bs (l.getD i default).nm))]) ⟨rfl, (zC B rfl D), trivial⟩ zy ?_
   intro I C H D g B
   obtain ⟨hb, _⟩ := yE hb B
   have b := (b.keep0 c).keep0 B
   have F := (F.keep0 c).keep0 B
   have q := (q.keep0 c).keep0 B
   have p := (p.keep0 c).keep0 B
   refine kt_end rfl ⟨F, b⟩ (kt_step (rs := [11, 19]) zy (more_mem ?_ ?_))
   ·
    intro I c _ B H J D o_ ho_; obtain rfl := zE ho_
    obtain ⟨hb, _⟩ := yE hb c
    have q := q.keep0 c
    have g := g.keep0 c
    have I : Sl B 14 k := (D 0 _ 14 zy rfl rfl).2 rfl
    have J : Sl B 24 (.slice (some ⟨C, 0, none⟩) 1 1) := (zE ((D 10 _ 24 zy rfl rfl).1 rfl)).symm
    have B := q
    refine op_append slt34 (zC H rfl I) B (zC H rfl J) (Src.ofRd Tryz.underlying34 zz (RdC.ofBx (sz := 3) (n := 1) g rfl zz) (by simp [Value.oneCell', u8v])) (by unfold maxLen; omega) zx hb.size ?_
    intro I J H D K
    have := D.size
    have b := (b.keep0 c).keepO B D zz
    have F := (F.keep0 c).keepO B D zx
    have hb := below_stepO hb B D hb.size zx
    have H : Own J w.heap.size 94 3 I ((colsOf nm (l.take i)).length + 1) ((((colsOf nm (l.take i)) ++ [(PItm.mk 0 nm ((l.getD i default).nm))])).flatMap cellsI) := by simpa [u8v, u16v, sv, cellsI] using H
    refine kt_end rfl ⟨F, b⟩ (kt_step (rs := [19]) zy (one_mem ?_))
    intro O J _ K L P M o_ ho_; obtain rfl := zE ho_
    obtain ⟨hb, _⟩ := yE hb J
    have O : Sl K 32 (.int .i64 (l.getD i default).kind) := (M 18 _ 32 zy rfl rfl).2 rfl
    refine op_bslice (e := 3) (pv := [(0, (.int .i64 (l.getD i default).kind))]) (cs := [(.int .i64 (l.getD i default).kind)]) ⟨rfl, (zC L rfl O), trivial⟩ zy ?_
    intro Q M P O L K
    obtain ⟨hb, _⟩ := yE hb K
    have b := (b.keep0 J).keep0 K
    have F := (F.keep0 J).keep0 K
    refine kt_end rfl ⟨F, b⟩ (kt_step (rs := [20]) zy (one_mem ?_))
    intro S O _ Q P T R o_ ho_; obtain rfl := zE ho_
    obtain ⟨hb, _⟩ := yE hb O
    have p := ((((p.keep0 c).keepT B D zz).keep0 J).keep0 K).keep0 O
    have L := L.keep0 O
    have c : Sl Q 26 m := (R 12 _ 26 zy rfl rfl).2 rfl
    have B : Sl Q 33 (.slice (some ⟨M, 0, none⟩) 1 1) := (zE ((R 19 _ 33 zy rfl rfl).1 rfl)).symm
    have D := p
    refine op_append slt83 (zC P rfl c) D (zC P rfl B) (Src.ofRd Tryz.underlying83 zz (RdC.ofBx (sz := 1) (n := 1) L rfl zz) (by simp [Value.oneCell', u8v])) (by unfold maxLen; omega) zx hb.size ?_
    intro L M B c P
    have := c.size
    have b := (b.keep0 O).keepO D c zz
    have F := (F.keep0 O).keepO D c zx
    have hb := below_stepO hb D c hb.size zx
    have B : Own M w.heap.size 3 1 L ((kindsOf (l.take i)).length + 1) ((((kindsOf (l.take i)) ++ [(l.getD i default).kind])).map (Value.int .i64)) := by simpa [u8v, u16v, sv, cellsI] using B
    refine kt_end rfl ⟨F, b⟩ ?_
    intro U Q S M R P T
    have R := R.trans ((by simp only [putsL_defers] : _ = _).trans t)
    obtain ⟨hb, _⟩ := yE hb Q
    have b := b.keep0 Q
    have H := ((((H.keep0 J).keep0 K).keep0 O).keepT D c zz).keep0 Q
    have B := B.keep0 Q
    have c := (P 1 rfl).trans (zL o rfl r)
    have D := (P 2 rfl).trans (zL o rfl x)
    have J := (P 3 rfl).trans (zL o rfl u)
    have K := (P 6 rfl).trans (zL o rfl s)
    have O : Sl S 25 I := (zE ((T 11 _ 25 rfl rfl).1 rfl)).symm
    have P : Sl S 34 L := (zE ((T 20 _ 34 rfl rfl).1 rfl)).symm
    refine split_end (from_seq (tl := [_, _]) zz zy rfl (zD (zC M rfl O) (zD (zC M rfl P) (zB (j _ _ (zH (zG (zC M rfl K) (op_add (zA M rfl) rfl (add64 zx) (zD (zA M rfl) (zB ?_))))))))))
    -- round 11T
    exact zg _ M R ⟨(i + 1), I, L, rfl, (zL M rfl c), (zL M rfl D), (zL M rfl J), (zU M rfl).trans (congrArg (Value.int .i64) zx), (zU M rfl), (zU M rfl), zx, hb, zx, b, (H.cast (by rw [cols_snoc zx] <;> simp) (by rw [cols_snoc zx] <;> simp [cellsI])), (B.cast (by rw [kinds_snoc zx] <;> simp) (by rw [kinds_snoc zx] <;> simp))⟩ zx
   refine one_mem ?_
   intro J c _ D B I H o_ ho_; obtain rfl := zE ho_
   obtain ⟨hb, _⟩ := yE hb c
   have I : Sl D 32 (.int .i64 (l.getD i default).kind) := (H 18 _ 32 zy rfl rfl).2 rfl
   refine op_bslice (e := 3) (pv := [(0, (.int .i64 (l.getD i default).kind))]) (cs := [(.int .i64 (l.getD i default).kind)]) ⟨rfl, (zC B rfl I), trivial⟩ zy ?_
   intro K H I J D B
   obtain ⟨hb, _⟩ := yE hb B
   have b := (b.keep0 c).keep0 B
   have F := (F.keep0 c).keep0 B
   refine kt_end rfl ⟨F, b⟩ (kt_step (rs := [11]) zy (one_mem ?_))
   intro M I _ L K O J o_ ho_; obtain rfl := zE ho_
   obtain ⟨hb, _⟩ := yE hb I
   have q := ((q.keep0 c).keep0 B).keep0 I
   have g := ((g.keep0 c).keep0 B).keep0 I
   have M : Sl L 14 k := (J 0 _ 14 zy rfl rfl).2 rfl
   have O : Sl L 24 (.slice (some ⟨C, 0, none⟩) 1 1) := (zE ((J 10 _ 24 zy rfl rfl).1 rfl)).symm
   have C := q
   refine op_append slt34 (zC K rfl M) C (zC K rfl O) (Src.ofRd Tryz.underlying34 zz (RdC.ofBx (sz := 3) (n := 1) g rfl zz) (by simp [Value.oneCell', u8v])) (by unfold maxLen; omega) zx hb.size ?_
   intro K L J g M
   have := g.size
   have b := (b.keep0 I).keepO C g zz
   have F := (F.keep0 I).keepO C g zx
   have hb := below_stepO hb C g hb.size zx
   have J : Own L w.heap.size 94 3 K ((colsOf nm (l.take i)).length + 1) ((((colsOf nm (l.take i)) ++ [(PItm.mk 0 nm ((l.getD i default).nm))])).flatMap cellsI) := by simpa [u8v, u16v, sv, cellsI] using J
   refine kt_end rfl ⟨F, b⟩ (kt_step (rs := [20]) zy (one_mem ?_))
   intro R L _ O M Q P o_ ho_; obtain rfl := zE ho_
   obtain ⟨hb, _⟩ := yE hb L
   have p := ((((p.keep0 c).keep0 B).keep0 I).keepT C g zz).keep0 L
   have D := ((D.keep0 I).keepO C g zz).keep0 L
   have c : Sl O 26 m := (P 12 _ 26 zy rfl rfl).2 rfl
   have g : Sl O 33 (.slice (some ⟨H, 0, none⟩) 1 1) := (zE ((P 19 _ 33 zy rfl rfl).1 rfl)).symm
   have B := p
   refine op_append slt83 (zC M rfl c) B (zC M rfl g) (Src.ofRd Tryz.underlying83 zz (RdC.ofBx (sz := 1) (n := 1) D rfl zz) (by simp [Value.oneCell', u8v])) (by unfold maxLen; omega) zx hb.size ?_
   intro C D c g H
   have := g.size
   have b := (b.keep0 L).keepO B g zz
   have F := (F.keep0 L).keepO B g zx
   have hb := below_stepO hb B g hb.size zx
   have c : Own D w.heap.size 3 1 C ((kindsOf (l.take i)).length + 1) ((((kindsOf (l.take i)) ++ [(l.getD i default).kind])).map (Value.int .i64)) := by simpa [u8v, u16v, sv, cellsI] using c
   refine kt_end rfl ⟨F, b⟩ ?_
   intro Q I O D M H P
   have M := M.trans ((by simp only [putsL_defers] : _ = _).trans t)
   obtain ⟨hb, _⟩ := yE hb I
   have b := b.keep0 I
   have J := ((J.keep0 L).keepT B g zz).keep0 I
   have c := c.keep0 I
   have g := (H 1 rfl).trans (zL o rfl r)
   have B := (H 2 rfl).trans (zL o rfl x)
   have I := (H 3 rfl).trans (zL o rfl u)
   have L := (H 6 rfl).trans (zL o rfl s)
   have H : Sl O 25 K := (zE ((P 11 _ 25 rfl rfl).1 rfl)).symm
   have Q : Sl O 34 C := (zE ((P 20 _ 34 rfl rfl).1 rfl)).symm
   refine split_end (from_seq (tl := [_, _]) zz zy rfl (zD (zC D rfl H) (zD (zC D rfl Q) (zB (j _ _ (zH (zG (zC D rfl L) (op_add (zA D rfl) rfl (add64 zx) (zD (zA D rfl) (zB ?_))))))))))
   -- round 11T
   exact zg _ D M ⟨(i + 1), K, C, rfl, (zL D rfl g), (zL D rfl B), (zL D rfl I), (zU D rfl).trans (congrArg (Value.int .i64) zx), (zU D rfl), (zU D rfl), zx, hb, zx, b, (J.cast (by rw [cols_snoc zx] <;> simp) (by rw [cols_snoc zx] <;> simp [cellsI])), (c.cast (by rw [kinds_snoc zx] <;> simp) (by rw [kinds_snoc zx] <;> simp))⟩ zx
  refine one_mem ?_
  intro H c _ g B D C o_ ho_; obtain rfl := zE ho_
  obtain ⟨hb, _⟩ := yE hb c
  have D : Sl g 32 (.int .i64 (l.getD i default).kind) := (C 18 _ 32 zy rfl rfl).2 rfl
  refine op_bslice (e := 3) (pv := [(0, (.int .i64 (l.getD i default).kind))]) (cs := [(.int .i64 (l.getD i default).kind)]) ⟨rfl, (zC B rfl D), trivial⟩ zy ?_
  intro H C I D B g
  obtain ⟨hb, _⟩ := yE hb g
  have b := (b.keep0 c).keep0 g
  have F := (F.keep0 c).keep0 g
  refine kt_end rfl ⟨F, b⟩ (kt_step (rs := [10]) zy (one_mem ?_))
  intro L D _ J H K I o_ ho_; obtain rfl := zE ho_
  obtain ⟨hb, _⟩ := yE hb D
  have K : Sl J 23 (.agg #[(.int .i64 0), (.string (bs nm)), (.string (bs (l.getD i default).nm))]) := (I 9 _ 23 zy rfl rfl).2 rfl
  refine op_bslice (e := 94) (pv := [(0, (.agg #[(.int .i64 0), (.string (bs nm)), (.string (bs (l.getD i default).nm))]))]) (cs := [(.int .i64 0), (.string (bs nm)), (.string (bs (l.getD i default).nm))]) ⟨rfl, (zC H rfl K), trivial⟩ zy ?_
  intro L J K M I H
  obtain ⟨hb, _⟩ := yE hb H
  have b := (b.keep0 D).keep0 H
  have F := (F.keep0 D).keep0 H
  refine kt_end rfl ⟨F, b⟩ (kt_step (rs := [11]) zy (one_mem ?_))
  intro P K _ L M Q O o_ ho_; obtain rfl := zE ho_
  obtain ⟨hb, _⟩ := yE hb K
  have q := ((((q.keep0 c).keep0 g).keep0 D).keep0 H).keep0 K
  have I := I.keep0 K
  have P : Sl L 14 k := (O 0 _ 14 zy rfl rfl).2 rfl
  have k : Sl L 24 (.slice (some ⟨J, 0, none⟩) 1 1) := (zE ((O 10 _ 24 zy rfl rfl).1 rfl)).symm
  have J := q
  refine op_append slt34 (zC M rfl P) J (zC M rfl k) (Src.ofRd Tryz.underlying34 zz (RdC.ofBx (sz := 3) (n := 1) I rfl zz) (by simp [Value.oneCell', u8v])) (by unfold maxLen; omega) zx hb.size ?_
  intro L M I k O
  have := k.size
  have b := (b.keep0 K).keepO J k zz
  have F := (F.keep0 K).keepO J k zx
  have hb := below_stepO hb J k hb.size zx
  have I : Own M w.heap.size 94 3 L ((colsOf nm (l.take i)).length + 1) ((((colsOf nm (l.take i)) ++ [(PItm.mk 0 nm ((l.getD i default).nm))])).flatMap cellsI) := by simpa [u8v, u16v, sv, cellsI] using I
  refine kt_end rfl ⟨F, b⟩ (kt_step (rs := [20]) zy (one_mem ?_))
  intro R M _ O P S Q o_ ho_; obtain rfl := zE ho_
  obtain ⟨hb, _⟩ := yE hb M
  have p := ((((((p.keep0 c).keep0 g).keep0 D).keep0 H).keep0 K).keepT J k zz).keep0 M
  have B := ((((B.keep0 D).keep0 H).keep0 K).keepO J k zz).keep0 M
  have c : Sl O 26 m := (Q 12 _ 26 zy rfl rfl).2 rfl
  have g : Sl O 33 (.slice (some ⟨C, 0, none⟩) 1 1) := (zE ((Q 19 _ 33 zy rfl rfl).1 rfl)).symm
  have k := p
  refine op_append slt83 (zC P rfl c) k (zC P rfl g) (Src.ofRd Tryz.underlying83 zz (RdC.ofBx (sz := 1) (n := 1) B rfl zz) (by simp [Value.oneCell', u8v])) (by unfold maxLen; omega) zx hb.size ?_
  intro m B g c C
  have := c.size
  have b := (b.keep0 M).keepO k c zz
  have F := (F.keep0 M).keepO k c zx
  have hb := below_stepO hb k c hb.size zx
  have g : Own B w.heap.size 3 1 m ((kindsOf (l.take i)).length + 1) ((((kindsOf (l.take i)) ++ [(l.getD i default).kind])).map (Value.int .i64)) := by simpa [u8v, u16v, sv, cellsI] using g
  refine kt_end rfl ⟨F, b⟩ ?_
  intro K C H B F D J
  have F := F.trans ((by simp only [putsL_defers] : _ = _).trans t)
  obtain ⟨hb, _⟩ := yE hb C
  have b := b.keep0 C
  have I := ((I.keep0 M).keepT k c zz).keep0 C
  have g := g.keep0 C
  have c := (D 1 rfl).trans (zL o rfl r)
  have k := (D 2 rfl).trans (zL o rfl x)
  have r := (D 3 rfl).trans (zL o rfl u)
  have u := (D 6 rfl).trans (zL o rfl s)
  have s : Sl H 25 L := (zE ((J 11 _ 25 rfl rfl).1 rfl)).symm
  have x : Sl H 34 m := (zE ((J 20 _ 34 rfl rfl).1 rfl)).symm
  refine split_end (from_seq (tl := [_, _]) zz zy rfl (zD (zC B rfl s) (zD (zC B rfl x) (zB (j _ _ (zH (zG (zC B rfl u) (op_add (zA B rfl) rfl (add64 zx) (zD (zA B rfl) (zB ?_))))))))))
  -- round 11T
  exact zg _ B F ⟨(i + 1), L, m, rfl, (zL B rfl c), (zL B rfl k), (zL B rfl r), (zU B rfl).trans (congrArg (Value.int .i64) zx), (zU B rfl), (zU B rfl), zx, hb, zx, b, (I.cast (by rw [cols_snoc zx] <;> simp) (by rw [cols_snoc zx] <;> simp [cellsI])), (g.cast (by rw [kinds_snoc zx] <;> simp) (by rw [kinds_snoc zx] <;> simp))⟩ zx
 refine zB ?_
 refine A _ _ (wp_cond_false (zA o rfl) (wp_exit (then_exit (then_exit (blk_hit (a _ _ (zF fun _ a => zH (zG (zC o rfl z) (zG (zC o rfl y) (zD (zA o rfl) (zD (zA o rfl) (zB (a _ _ (wp_ret (ret2 rfl t (zA o rfl) (zA o rfl) ⟨_, rfl, ?_⟩)))))))))))))))
 have a : l.take i = l := List.take_of_length_le zx
 rw [a] at q p
 exact ⟨hb, _, _, rfl, q, p⟩

theorem Cols_ret {nm : List UInt8} {l : List PCol} {cv iv : Value} {w : World} (hz : l.length ≤ 1000000) (hl : RdC w 0 w.heap.size 3 cv l.length (l.flatMap cellsC)) : Ret Tryz.prog 42 #[.agg #[.string (bs nm), cv, iv]] w (fun v' w' => Below w.heap.size w w' ∧ ∃ av bv : Value, v' = .tuple #[av, bv] ∧ RdC w' w.heap.size w'.heap.size 3 av (colsOf nm l).length ((colsOf nm l).flatMap cellsI) ∧ RdC w' w.heap.size w'.heap.size 1 bv (kindsOf l).length ((kindsOf l).map (Value.int .i64))) :=
  (Cols_own hz hl).mono fun v' w' ⟨hb, av, bv, h1, h2, h3⟩ => ⟨hb, av, bv, h1, h2.rdw, h3.rdw⟩
def ExprP (m : Nat) : Prop := ∀ {base p n Bp : Nat} {lv : Value} {bl : List UInt8} {C : List PItm} {K : List Int} {vc vk : Value} {Lc Bc : Nat} {kd : Int} {deep : Nat} {w : World}, 2 * (4 - deep) + (if kd = 3 then 1 else 0) = m → PickR w base p lv bl n (fun k => k = p) → Bp ≤ p → RdC w 0 Bp 1 lv bl.length (bl.map u8v) → RdC w Lc Bc 3 vc C.length (C.flatMap cellsI) → RdC w Lc Bc 1 vk K.length (K.map (Value.int .i64)) → Bc ≤ w.heap.size → (p < Lc ∨ Bc ≤ p) → C.length ≤ 1000 → 1 ≤ kd → kd ≤ 3 → deep ≤ 5 → (kd = 3 → deep ≤ 4) →
  Ret Tryz.prog 47 #[ptr p 0, vc, vk, .int .i64 kd, .int .i64 ((deep : Nat) : Int)] w (fun v' w' => Gr w w' (fun k => k = p) ∧ ∃ e : XE, v' = (Value.agg #[(Value.int .i64 e.op), (Value.int .i64 e.vk), (Value.int .i64 e.vi), (Value.string (bs e.vt)), (Value.string (bs e.tb)), (Value.string (bs e.nm)), e.av]) ∧ XFr w' w.heap.size w'.heap.size e ∧ (GoodC C K → kindX C K e = (kd, 0)) ∧ ∃ n' : Nat, PickR w' base p lv bl n' (fun k => k = p) ∧ n ≤ n')

set_option maxHeartbeats 1600000 in
theorem Expr_in {base p n Bp : Nat} {lv : Value} {bl : List UInt8} {C : List PItm} {K : List Int} {vc vk : Value} {Lc Bc : Nat} {kd : Int} {deep : Nat} {w : World} (hpk : PickR w base p lv bl n (fun k => k = p)) (hBp : Bp ≤ p) (hbl : RdC w 0 Bp 1 lv bl.length (bl.map u8v)) (hC : RdC w Lc Bc 3 vc C.length (C.flatMap cellsI)) (hK : RdC w Lc Bc 1 vk K.length (K.map (Value.int .i64))) (hBc : Bc ≤ w.heap.size) (hcp : p < Lc ∨ Bc ≤ p) (hcl : C.length ≤ 1000) (hk1 : 1 ≤ kd) (hk2 : kd ≤ 3) (hd5 : deep ≤ 5) (hd4 : kd = 3 → deep ≤ 4) (ih : ∀ m, m < 2 * (4 - deep) + (if kd = 3 then 1 else 0) → ExprP m) : Ret Tryz.prog 47 #[(ptr p 0), vc, vk, (.int .i64 kd), (.int .i64 ((deep : Nat) : Int))] w (fun v' w' => Gr w w' (fun k => k = p) ∧ ∃ e : XE, v' = (.agg #[(.int .i64 e.op), (.int .i64 e.vk), (.int .i64 e.vi), (.string (bs e.vt)), (.string (bs e.tb)), (.string (bs e.nm)), e.av]) ∧ XFr w' w.heap.size w'.heap.size e ∧ (GoodC C K → kindX C K e = (kd, 0)) ∧ ∃ n' : Nat, PickR w' base p lv bl n' (fun k => k = p) ∧ n ≤ n') := by
 have hi_p : p < w.heap.size := (hpk.lt p rfl).2
 have hb := Gr.refl w (fun k => k = p)
 refine enter (N := 137) Tryz.func47 rfl rfl (by simp) fun c hN hd hA => ?_
 have g : c.tmps.getD 0 undef = (ptr p 0) := hA 0 (by simp)
 have l : c.tmps.getD 1 undef = vc := hA 1 (by simp)
 have o : c.tmps.getD 2 undef = vk := hA 2 (by simp)
 have q : c.tmps.getD 3 undef = (.int .i64 kd) := hA 3 (by simp)
 have r : c.tmps.getD 4 undef = (.int .i64 ((deep : Nat) : Int)) := hA 4 (by simp)
 clear hA
 have c_hbl : ∀ k, (fun k => k = p) k → k < 0 ∨ Bp ≤ k := fun k hk => .inr (by have := hpk.lt k hk; omega)
 have c_hC : ∀ k, (fun k => k = p) k → k < Lc ∨ Bc ≤ k := fun k hk => by have h9 : k = p := hk; omega
 have c_hK : ∀ k, (fun k => k = p) k → k < Lc ∨ Bc ≤ k := fun k hk => by have h9 : k = p := hk; omega
 refine zF fun _ c => zH (op_alloc (cs := [(.int .i64 0), (.int .i64 0), (.int .i64 0), (.string (bs [])), (.string (bs [])), (.string (bs [])), (.slice none 0 0)]) zero89 rfl ?_)
 intro y u z A s t
 have y : ¬ (fun k => k = p) u := fun hf => by have := (hpk.lt _ hf).2; omega
 obtain ⟨hb, _⟩ := yG hb t
 have hpk := hpk.kz t
 refine zB (c _ _ (zF fun _ c => zH (zG (zC hN rfl g) ?_)))
 have hbl' := hbl.keepG hb c_hbl
 refine zj ok15 (Num_ret (m := 8) hpk zx hbl' zx zx) ⟨(zA hN rfl), ⟨rfl, trivial⟩⟩ ?_
 rintro _ z ⟨u, D, rfl, B, A, t, F, E⟩
 have := u.size
 have s := s.keepG u y
 have hb := hb.stepF u (fun _ _ h => h)
 refine zD (zA hN rfl) (zB (c _ _ (zF fun _ c => zF fun _ u => zH (zG (zC hN rfl q) (op_eql (zA hN rfl) rfl (fun z => ?_) (fun z => ?_))))))
 ·
  refine zB (u _ _ (wp_cond_true (zA hN rfl) (zF fun _ u => wp_block (zF fun _ z => zH (zG (zC hN rfl r) (op_gtr (zA hN rfl) rfl (fun A => ?_) (fun A => ?_)))))))
  ·
   refine zG (zA hN rfl) (zR (j := 2) (dj := 22) (b := false) rfl rfl rfl (zA hN rfl) rfl rfl (zR (j := 2) (dj := 22) (b := false) rfl rfl rfl (zA hN rfl) rfl rfl (zc (zA hN rfl) rfl (zD (zA hN rfl) (zB (z _ _ (wp_cond_true (zA hN rfl) (zF fun _ z => zH (zG (zC hN rfl g) ?_)))))))))
   have hbl' := hbl.keepG hb c_hbl
   refine zj ok15 (Num_ret (m := 2) t zx hbl' zx zx) ⟨(zA hN rfl), ⟨rfl, trivial⟩⟩ ?_
   rintro _ F ⟨B, A, rfl, I, G, D, H, E⟩
   have := B.size
   have hb := hb.stepF B (fun _ _ h => h)
   refine op_add rfl (zA hN rfl) (add64 zx) (zD (zA hN rfl) (zB (z _ _ (zF fun _ z => zH (zG (zC hN rfl g) ?_)))))
   have hbl' := hbl.keepG hb c_hbl
   refine zj ok15 (Num_ret (m := 6) D zx hbl' zx zx) ⟨(zA hN rfl), ⟨rfl, trivial⟩⟩ ?_
   rintro _ F ⟨E, D, rfl, M, H, G, I, J⟩
   have := E.size
   have hb := hb.stepF E (fun _ _ h => h)
   refine op_add rfl (zA hN rfl) (add64 zx) (zG (zC hN rfl g) (zG (zC hN rfl l) (zG (zC hN rfl o) (zG (zA hN rfl) (zG (zC hN rfl r) (op_add (zA hN rfl) rfl (add64 zx) ?_))))))
   have hbl' := hbl.keepG hb c_hbl
   have hC' := hC.keepG hb c_hC
   have hK' := hK.keepG hb c_hK
   refine zj ok47 (ih _ (by split <;> omega) (kd := (1 + ((A : Nat) : Int))) (deep := (deep + 1)) rfl G zx hbl' (C := C) (K := K) hC' hK' zx zx zx zx zx zx zx) ⟨(zA hN rfl), ⟨(zA hN rfl), ⟨(zA hN rfl), ⟨(zA hN rfl), ⟨(zA hN rfl), trivial⟩⟩⟩⟩⟩ ?_
   rintro _ P ⟨I, H, rfl, G, M, Q, J, O⟩
   have := I.size
   have hb := hb.stepF I (fun _ _ h => h)
   refine zG (zC hN rfl g) (zG (zC hN rfl l) (zG (zC hN rfl o) (zG (zA hN rfl) (zG (zC hN rfl r) (op_add (zA hN rfl) rfl (add64 zx) ?_)))))
   have hbl' := hbl.keepG hb c_hbl
   have hC' := hC.keepG hb c_hC
   have hK' := hK.keepG hb c_hK
   refine zj ok47 (ih _ (by split <;> omega) (kd := (1 + ((A : Nat) : Int))) (deep := (deep + 1)) rfl J zx hbl' (C := C) (K := K) hC' hK' zx zx zx zx zx zx zx) ⟨(zA hN rfl), ⟨(zA hN rfl), ⟨(zA hN rfl), ⟨(zA hN rfl), ⟨(zA hN rfl), trivial⟩⟩⟩⟩⟩ ?_
   rintro _ T ⟨J, O, rfl, R, S, Q, P, U⟩
   have := J.size
   have G := G.keepG J sP
   have hb := hb.stepF J (fun _ _ h => h)
   refine zj ok68 (two_ret (L := F.heap.size) (8 + ((D : Nat) : Int)) H O _ zx (G.mono zx zx) (R.mono zx zx)) ⟨(zA hN rfl), ⟨(zA hN rfl), ⟨(zA hN rfl), trivial⟩⟩⟩ ?_
   rintro _ T ⟨F, R, rfl, G⟩
   have F := zQ F
   obtain ⟨hb, _⟩ := yG hb F
   have s := ((((s.keepG B y).keepG E y).keepG I y).keepG J y).keep0 F
   refine zZ size89 (zA hN rfl) (zA hN rfl) rfl (by simp only [yA, yB, yC, yD, G.1.one]; try rfl) s rfl ?_
   intro E s B
   have := B.size
   have P := (P.kz F).keepG (Gr.of B) (Dj.one y)
   have G := G.keep B sO
   have hb := hb.step1 B zx
   refine zB (z _ _ (wp_ret (zb (zO (zO ( (retC rfl hd (zA hN rfl) agg89 rfl s ⟨_, rfl, ?_⟩)))))))
   refine ⟨hb, (XE.mk (8 + ((D : Nat) : Int)) 0 0 [] [] [] R [H, O]), rfl, (G.mono zx zx).node, fun hg => (kind_two (a := H) (b := O) rfl (M hg) (S hg) ?_).trans ?_, Q, P, by omega⟩
   · show (5 ≤ (8 + ((D : Nat) : Int)) ∧ (8 + ((D : Nat) : Int)) ≤ 7 ∧ (1 + ((A : Nat) : Int)) = 1) ∨ (8 ≤ (8 + ((D : Nat) : Int)) ∧ (8 + ((D : Nat) : Int)) ≤ 13 ∧ ((1 + ((A : Nat) : Int)) = 1 ∨ (1 + ((A : Nat) : Int)) = 2)) ∨ (((8 + ((D : Nat) : Int)) = 14 ∨ (8 + ((D : Nat) : Int)) = 15) ∧ (1 + ((A : Nat) : Int)) = 3); omega
   · show ((if 5 ≤ (8 + ((D : Nat) : Int)) ∧ (8 + ((D : Nat) : Int)) ≤ 7 then (1 : Int) else 3), (0 : Int)) = _; rw [if_neg zx, show kd = 3 by omega]
  refine zG (zA hN rfl) (zS (j := 2) (dj := 22) (b := false) rfl rfl rfl (zA hN rfl) (zG (zA hN rfl) (zS (j := 2) (dj := 22) (b := false) rfl rfl rfl (zA hN rfl) (op_lss (zA hN rfl) rfl (fun A => ?_) (fun A => ?_)))))
  ·
   refine zd (zA hN rfl) (zA hN rfl) (zD (zA hN rfl) (zB (z _ _ (wp_cond_true (zA hN rfl) (zF fun _ z => zH (zG (zC hN rfl g) ?_))))))
   have hbl' := hbl.keepG hb c_hbl
   refine zj ok15 (Num_ret (m := 2) t zx hbl' zx zx) ⟨(zA hN rfl), ⟨rfl, trivial⟩⟩ ?_
   rintro _ I ⟨B, A, rfl, F, G, D, E, H⟩
   have := B.size
   have hb := hb.stepF B (fun _ _ h => h)
   refine op_add rfl (zA hN rfl) (add64 zx) (zD (zA hN rfl) (zB (z _ _ (zF fun _ z => zH (zG (zC hN rfl g) ?_)))))
   have hbl' := hbl.keepG hb c_hbl
   refine zj ok15 (Num_ret (m := 6) D zx hbl' zx zx) ⟨(zA hN rfl), ⟨rfl, trivial⟩⟩ ?_
   rintro _ F ⟨E, D, rfl, H, M, G, I, J⟩
   have := E.size
   have hb := hb.stepF E (fun _ _ h => h)
   refine op_add rfl (zA hN rfl) (add64 zx) (zG (zC hN rfl g) (zG (zC hN rfl l) (zG (zC hN rfl o) (zG (zA hN rfl) (zG (zC hN rfl r) (op_add (zA hN rfl) rfl (add64 zx) ?_))))))
   have hbl' := hbl.keepG hb c_hbl
   have hC' := hC.keepG hb c_hC
   have hK' := hK.keepG hb c_hK
   refine zj ok47 (ih _ (by split <;> omega) (kd := (1 + ((A : Nat) : Int))) (deep := (deep + 1)) rfl G zx hbl' (C := C) (K := K) hC' hK' zx zx zx zx zx zx zx) ⟨(zA hN rfl), ⟨(zA hN rfl), ⟨(zA hN rfl), ⟨(zA hN rfl), ⟨(zA hN rfl), trivial⟩⟩⟩⟩⟩ ?_
   rintro _ P ⟨I, G, rfl, H, M, Q, J, O⟩
   have := I.size
   have hb := hb.stepF I (fun _ _ h => h)
   refine zG (zC hN rfl g) (zG (zC hN rfl l) (zG (zC hN rfl o) (zG (zA hN rfl) (zG (zC hN rfl r) (op_add (zA hN rfl) rfl (add64 zx) ?_)))))
   have hbl' := hbl.keepG hb c_hbl
   have hC' := hC.keepG hb c_hC
   have hK' := hK.keepG hb c_hK
   refine zj ok47 (ih _ (by split <;> omega) (kd := (1 + ((A : Nat) : Int))) (deep := (deep + 1)) rfl J zx hbl' (C := C) (K := K) hC' hK' zx zx zx zx zx zx zx) ⟨(zA hN rfl), ⟨(zA hN rfl), ⟨(zA hN rfl), ⟨(zA hN rfl), ⟨(zA hN rfl), trivial⟩⟩⟩⟩⟩ ?_
   rintro _ U ⟨J, O, rfl, Q, S, R, P, T⟩
   have := J.size
   have H := H.keepG J sP
   have hb := hb.stepF J (fun _ _ h => h)
   refine zj ok68 (two_ret (L := F.heap.size) (8 + ((D : Nat) : Int)) G O _ zx (H.mono zx zx) (Q.mono zx zx)) ⟨(zA hN rfl), ⟨(zA hN rfl), ⟨(zA hN rfl), trivial⟩⟩⟩ ?_
   rintro _ T ⟨F, Q, rfl, H⟩
   have F := zQ F
   obtain ⟨hb, _⟩ := yG hb F
   have s := ((((s.keepG B y).keepG E y).keepG I y).keepG J y).keep0 F
   refine zZ size89 (zA hN rfl) (zA hN rfl) rfl (by simp only [yA, yB, yC, yD, H.1.one]; try rfl) s rfl ?_
   intro E s B
   have := B.size
   have P := (P.kz F).keepG (Gr.of B) (Dj.one y)
   have H := H.keep B sO
   have hb := hb.step1 B zx
   refine zB (z _ _ (wp_ret (zb (zO (zO ( (retC rfl hd (zA hN rfl) agg89 rfl s ⟨_, rfl, ?_⟩)))))))
   refine ⟨hb, (XE.mk (8 + ((D : Nat) : Int)) 0 0 [] [] [] Q [G, O]), rfl, (H.mono zx zx).node, fun hg => (kind_two (a := G) (b := O) rfl (M hg) (S hg) ?_).trans ?_, R, P, by omega⟩
   · show (5 ≤ (8 + ((D : Nat) : Int)) ∧ (8 + ((D : Nat) : Int)) ≤ 7 ∧ (1 + ((A : Nat) : Int)) = 1) ∨ (8 ≤ (8 + ((D : Nat) : Int)) ∧ (8 + ((D : Nat) : Int)) ≤ 13 ∧ ((1 + ((A : Nat) : Int)) = 1 ∨ (1 + ((A : Nat) : Int)) = 2)) ∨ (((8 + ((D : Nat) : Int)) = 14 ∨ (8 + ((D : Nat) : Int)) = 15) ∧ (1 + ((A : Nat) : Int)) = 3); omega
   · show ((if 5 ≤ (8 + ((D : Nat) : Int)) ∧ (8 + ((D : Nat) : Int)) ≤ 7 then (1 : Int) else 3), (0 : Int)) = _; rw [if_neg zx, show kd = 3 by omega]
  refine zd (zA hN rfl) (zA hN rfl) (zD (zA hN rfl) (zB (z _ _ (wp_cond_false (zA hN rfl) (zF fun _ z => zH (zG (zA hN rfl) (op_eql (zA hN rfl) rfl (fun A => ?_) (fun A => ?_))))))))
  ·
   refine zD (zA hN rfl) (zB (z _ _ (wp_cond_true (zA hN rfl) (zF fun _ z => zH (zG (zC hN rfl g) (zG (zC hN rfl l) (zG (zC hN rfl o) (zG (zC hN rfl q) (zG (zC hN rfl r) (op_add (zA hN rfl) rfl (add64 zx) ?_))))))))))
   have hbl' := hbl.keepG hb c_hbl
   have hC' := hC.keepG hb c_hC
   have hK' := hK.keepG hb c_hK
   refine zj ok47 (ih _ (by split <;> omega) (kd := kd) (deep := (deep + 1)) rfl t zx hbl' (C := C) (K := K) hC' hK' zx zx zx zx zx zx zx) ⟨(zA hN rfl), ⟨(zA hN rfl), ⟨(zA hN rfl), ⟨(zA hN rfl), ⟨(zA hN rfl), trivial⟩⟩⟩⟩⟩ ?_
   rintro _ I ⟨D, A, rfl, E, F, G, B, H⟩
   have := D.size
   have hb := hb.stepF D (fun _ _ h => h)
   refine op_bslice (e := 89) (pv := [(0, (.agg #[(.int .i64 A.op), (.int .i64 A.vk), (.int .i64 A.vi), (.string (bs A.vt)), (.string (bs A.tb)), (.string (bs A.nm)), A.av]))]) (cs := [(.int .i64 A.op), (.int .i64 A.vk), (.int .i64 A.vi), (.string (bs A.vt)), (.string (bs A.tb)), (.string (bs A.nm)), A.av]) ⟨rfl, (zA hN rfl), trivial⟩ zy ?_
   intro O H P M I J
   have M : ¬ (fun k => k = p) H := fun hf => by have := (B.lt _ hf).2; omega
   obtain ⟨hb, _⟩ := yG hb J
   have s := (s.keepG D y).keep0 J
   refine zf (pv := [(0, (.int .i64 4)), (4, (.slice (some ⟨H, 0, none⟩) 1 1))]) (v := (Value.agg #[(.int .i64 4), (.int .i64 0), (.int .i64 0), (.string (bs [])), (.string (bs [])), (.string (bs [])), (.slice (some ⟨H, 0, none⟩) 1 1)])) ⟨rfl, rfl, ⟨rfl, (zA hN rfl), trivial⟩⟩ zy (zZ size89 (zA hN rfl) (zA hN rfl) rfl rfl s rfl ?_)
   intro M s D
   have := D.size
   have B := (B.kz J).keepG (Gr.of D) (Dj.one y)
   have E := (E.keep0 J).keep D sO
   have I := I.keep D sB
   have hb := hb.step1 D zx
   refine zB (z _ _ (wp_ret (zb (zO (zO ( (retC rfl hd (zA hN rfl) agg89 rfl s ⟨_, rfl, ?_⟩)))))))
   exact ⟨hb, (XE.mk 4 0 0 [] [] [] (.slice (some ⟨H, 0, none⟩) 1 1) [A]), rfl, (XsFr.lit1 (x := A) I zx I.lt (E.mono zx zx)).node, fun hg => kind_one rfl (F hg) (by first | (left; exact ⟨rfl, by omega⟩) | (right; exact ⟨rfl, by omega⟩)), G, B, by omega⟩
  refine zD (zA hN rfl) (zB (z _ _ (wp_cond_false (zA hN rfl) (wp_skip (u _ _ (zF fun _ u => zH (zG (zC hN rfl g) ?_)))))))
  have hbl' := hbl.keepG hb c_hbl
  refine zj ok15 (Num_ret (m := 2) t zx hbl' zx zx) ⟨(zA hN rfl), ⟨rfl, trivial⟩⟩ ?_
  rintro _ D ⟨A, z, rfl, E, G, B, F, H⟩
  have := A.size
  have hb := hb.stepF A (fun _ _ h => h)
  refine op_add rfl (zA hN rfl) (add64 zx) (zG (zC hN rfl g) (zG (zC hN rfl l) (zG (zC hN rfl o) (zG (zC hN rfl q) (zG (zC hN rfl r) (op_add (zA hN rfl) rfl (add64 zx) ?_))))))
  have hbl' := hbl.keepG hb c_hbl
  have hC' := hC.keepG hb c_hC
  have hK' := hK.keepG hb c_hK
  refine zj ok47 (ih _ (by split <;> omega) (kd := kd) (deep := (deep + 1)) rfl B zx hbl' (C := C) (K := K) hC' hK' zx zx zx zx zx zx zx) ⟨(zA hN rfl), ⟨(zA hN rfl), ⟨(zA hN rfl), ⟨(zA hN rfl), ⟨(zA hN rfl), trivial⟩⟩⟩⟩⟩ ?_
  rintro _ M ⟨F, B, rfl, E, G, I, H, J⟩
  have := F.size
  have hb := hb.stepF F (fun _ _ h => h)
  refine zG (zC hN rfl g) (zG (zC hN rfl l) (zG (zC hN rfl o) (zG (zC hN rfl q) (zG (zC hN rfl r) (op_add (zA hN rfl) rfl (add64 zx) ?_)))))
  have hbl' := hbl.keepG hb c_hbl
  have hC' := hC.keepG hb c_hC
  have hK' := hK.keepG hb c_hK
  refine zj ok47 (ih _ (by split <;> omega) (kd := kd) (deep := (deep + 1)) rfl H zx hbl' (C := C) (K := K) hC' hK' zx zx zx zx zx zx zx) ⟨(zA hN rfl), ⟨(zA hN rfl), ⟨(zA hN rfl), ⟨(zA hN rfl), ⟨(zA hN rfl), trivial⟩⟩⟩⟩⟩ ?_
  rintro _ Q ⟨H, I, rfl, P, M, O, J, R⟩
  have := H.size
  have E := E.keepG H sP
  have hb := hb.stepF H (fun _ _ h => h)
  refine zj ok68 (two_ret (L := D.heap.size) (14 + ((z : Nat) : Int)) B I _ zx (E.mono zx zx) (P.mono zx zx)) ⟨(zA hN rfl), ⟨(zA hN rfl), ⟨(zA hN rfl), trivial⟩⟩⟩ ?_
  rintro _ Q ⟨D, P, rfl, E⟩
  have D := zQ D
  obtain ⟨hb, _⟩ := yG hb D
  have s := (((s.keepG A y).keepG F y).keepG H y).keep0 D
  refine zZ size89 (zA hN rfl) (zA hN rfl) rfl (by simp only [yA, yB, yC, yD, E.1.one]; try rfl) s rfl ?_
  intro F s A
  have := A.size
  have J := (J.kz D).keepG (Gr.of A) (Dj.one y)
  have E := E.keep A sO
  have hb := hb.step1 A zx
  refine zB (u _ _ (wp_ret (zO ( (retC rfl hd (zA hN rfl) agg89 rfl s ⟨_, rfl, ?_⟩)))))
  refine ⟨hb, (XE.mk (14 + ((z : Nat) : Int)) 0 0 [] [] [] P [B, I]), rfl, (E.mono zx zx).node, fun hg => (kind_two (a := B) (b := I) rfl (G hg) (M hg) ?_).trans ?_, O, J, by omega⟩
  · show (5 ≤ (14 + ((z : Nat) : Int)) ∧ (14 + ((z : Nat) : Int)) ≤ 7 ∧ kd = 1) ∨ (8 ≤ (14 + ((z : Nat) : Int)) ∧ (14 + ((z : Nat) : Int)) ≤ 13 ∧ (kd = 1 ∨ kd = 2)) ∨ (((14 + ((z : Nat) : Int)) = 14 ∨ (14 + ((z : Nat) : Int)) = 15) ∧ kd = 3); omega
  · show ((if 5 ≤ (14 + ((z : Nat) : Int)) ∧ (14 + ((z : Nat) : Int)) ≤ 7 then (1 : Int) else 3), (0 : Int)) = _; rw [if_neg zx, show kd = 3 by omega]
 refine zB (u _ _ (wp_cond_false (zA hN rfl) (wp_skip (c _ _ (zF fun _ c => zH (zG (zC hN rfl g) (zG (zC hN rfl l) (zG (zC hN rfl o) (zG (zC hN rfl q) ?_)))))))))
 have hbl' := hbl.keepG hb c_hbl
 have hC' := hC.keepG hb c_hC
 have hK' := hK.keepG hb c_hK
 refine zj ok43 (pcol_ret (k := kd) t zx hbl' (C := C) (K := K) hC' hK' zx zx zx) ⟨(zA hN rfl), ⟨(zA hN rfl), ⟨(zA hN rfl), ⟨(zA hN rfl), trivial⟩⟩⟩⟩ ?_
 rintro _ G ⟨A, B, D, rfl, z, E, F, t, H⟩
 have := A.size
 have hb := hb.stepF A (fun _ _ h => h)
 refine zG (zA hN rfl) (zW (zA hN rfl) rfl (zW (zA hN rfl) rfl (op_alloc (cs := [(.int .i64 0), (.int .i64 0), (.int .i64 0), (.string (bs [])), (.string (bs [])), (.string (bs [])), (.slice none 0 0)]) zero89 rfl ?_)))
 intro J I O M H G
 have J : ¬ (fun k => k = p) I := fun hf => by have := (t.lt _ hf).2; omega
 obtain ⟨hb, _⟩ := yG hb G
 have z := z.keep0 G
 refine zZ size89 (zA hN rfl) (zA hN rfl) rfl (by simp only [yA, yB, yC, yD, z.list.1.one]; try rfl) H rfl ?_
 intro M H I
 have := I.size
 have s := ((s.keepG A y).keep0 G).keep I sB
 have t := (t.kz G).keepG (Gr.of I) (Dj.one J)
 have z := z.keep I sO
 have hb := hb.step1 I zx
 refine zD (zA hN rfl) (zB (c _ _ (zF fun _ c => wp_block (zF fun _ u => zH (zG (zA hN rfl) (zG (zA hN rfl) ?_))))))
 rcases Bool.eq_false_or_eq_true (D) with A | A
 ·
  rw [A]
  refine zS (j := 1) (dj := 87) (b := true) rfl rfl rfl (zA hN rfl) (zG (zA hN rfl) (zS (j := 1) (dj := 87) (b := true) rfl rfl rfl (zA hN rfl) (op_lss (zA hN rfl) rfl (fun D => ?_) (fun D => ?_))))
  ·
   refine zc (zA hN rfl) (zA hN rfl) (zD (zA hN rfl) (zB (u _ _ (wp_cond_true (zA hN rfl) (zF fun _ u => zH (zY agg89 rfl (zA hN rfl) H (zZ size89 (zA hN rfl) (zA hN rfl) rfl (by simp only [yA, yB, yC, yD, z.list.1.one]; try rfl) s rfl ?_)))))))
   intro G s D
   have := D.size
   have t := t.keepG (Gr.of D) (Dj.one y)
   have z := z.keep D sO
   have hb := hb.step1 D zx
   refine zB (u _ _ (wp_ret (zb (zO ( (retC rfl hd (zA hN rfl) agg89 rfl s ⟨_, rfl, ?_⟩))))))
   exact ⟨hb, B, rfl, (z.mono zx zx), E (by first | assumption | simp_all), F, t, by omega⟩
  refine zc (zA hN rfl) (zA hN rfl) (zD (zA hN rfl) (zB (u _ _ (wp_cond_false (zA hN rfl) (zF fun _ u => zH (zG (zC hN rfl q) (op_eql (zA hN rfl) rfl (fun z => ?_) (fun z => ?_))))))))
  ·
   refine zG (zA hN rfl) (zR (j := 2) (dj := 95) (b := false) rfl rfl rfl (zA hN rfl) rfl rfl (zR (j := 2) (dj := 95) (b := false) rfl rfl rfl (zA hN rfl) rfl rfl (zc (zA hN rfl) rfl ?_)))
   refine zG (zA hN rfl) (zR (j := 6) (dj := 99) (b := false) rfl rfl rfl (zA hN rfl) rfl rfl (zR (j := 6) (dj := 99) (b := false) rfl rfl rfl (zA hN rfl) rfl rfl (zc (zA hN rfl) rfl (zD (zA hN rfl) (zB (u _ _ (wp_cond_true (zA hN rfl) (zF fun _ u => zH (zG (zC hN rfl g) (zG (zC hN rfl q) ?_))))))))))
   have hbl' := hbl.keepG hb c_hbl
   refine zj ok46 (Value_ret (kd := kd) t zx hbl') ⟨(zA hN rfl), ⟨(zA hN rfl), trivial⟩⟩ ?_
   rintro _ I ⟨B, E, F, rfl, G, D, H⟩
   have := B.size
   have hb := hb.stepF B (fun _ _ h => h)
   refine zj ok45 (lit_ret (if kd = 2 then (2 : Int) else 1) E F _) ⟨(zA hN rfl), trivial⟩ ?_
   rintro _ I ⟨H, rfl⟩
   have H := zQ H
   obtain ⟨hb, _⟩ := yG hb H
   have s := (s.keepG B y).keep0 H
   refine zZ size89 (zA hN rfl) (zA hN rfl) rfl rfl s rfl ?_
   intro I s B
   have := B.size
   have D := (D.kz H).keepG (Gr.of B) (Dj.one y)
   have hb := hb.step1 B zx
   refine zB (u _ _ (wp_ret (zb (zO ( (retC rfl hd (zA hN rfl) agg89 rfl s ⟨_, rfl, ?_⟩))))))
   exact ⟨hb, (XE.mk 1 (if kd = 2 then (2 : Int) else 1) E F [] [] (.slice none 0 0) []), rfl, .leaf rfl rfl, fun _ => (kind_lit rfl rfl).trans (by show ((if kd = 2 then (2 : Int) else 1), (0 : Int)) = _; (repeat' split) <;> first | rfl | (congr 1; omega)), G, D, by omega⟩
  refine zG (zA hN rfl) (zS (j := 2) (dj := 95) (b := false) rfl rfl rfl (zA hN rfl) (zG (zC hN rfl r) (zS (j := 2) (dj := 95) (b := false) rfl rfl rfl (zA hN rfl) (op_gtr (zA hN rfl) rfl (fun B => ?_) (fun B => ?_)))))
  ·
   refine zd (zA hN rfl) (zA hN rfl) ?_
   refine zG (zA hN rfl) (zR (j := 6) (dj := 99) (b := false) rfl rfl rfl (zA hN rfl) rfl rfl (zR (j := 6) (dj := 99) (b := false) rfl rfl rfl (zA hN rfl) rfl rfl (zc (zA hN rfl) rfl (zD (zA hN rfl) (zB (u _ _ (wp_cond_true (zA hN rfl) (zF fun _ u => zH (zG (zC hN rfl g) (zG (zC hN rfl q) ?_))))))))))
   have hbl' := hbl.keepG hb c_hbl
   refine zj ok46 (Value_ret (kd := kd) t zx hbl') ⟨(zA hN rfl), ⟨(zA hN rfl), trivial⟩⟩ ?_
   rintro _ I ⟨D, G, F, rfl, H, E, J⟩
   have := D.size
   have hb := hb.stepF D (fun _ _ h => h)
   refine zj ok45 (lit_ret (if kd = 2 then (2 : Int) else 1) G F _) ⟨(zA hN rfl), trivial⟩ ?_
   rintro _ J ⟨I, rfl⟩
   have I := zQ I
   obtain ⟨hb, _⟩ := yG hb I
   have s := (s.keepG D y).keep0 I
   refine zZ size89 (zA hN rfl) (zA hN rfl) rfl rfl s rfl ?_
   intro J s D
   have := D.size
   have E := (E.kz I).keepG (Gr.of D) (Dj.one y)
   have hb := hb.step1 D zx
   refine zB (u _ _ (wp_ret (zb (zO ( (retC rfl hd (zA hN rfl) agg89 rfl s ⟨_, rfl, ?_⟩))))))
   exact ⟨hb, (XE.mk 1 (if kd = 2 then (2 : Int) else 1) G F [] [] (.slice none 0 0) []), rfl, .leaf rfl rfl, fun _ => (kind_lit rfl rfl).trans (by show ((if kd = 2 then (2 : Int) else 1), (0 : Int)) = _; (repeat' split) <;> first | rfl | (congr 1; omega)), H, E, by omega⟩
  refine zd (zA hN rfl) (zA hN rfl) (zG (zA hN rfl) (zS (j := 6) (dj := 99) (b := false) rfl rfl rfl (zA hN rfl) (zG (zA hN rfl) (zS (j := 6) (dj := 99) (b := false) rfl rfl rfl (zA hN rfl) (op_lss (zA hN rfl) rfl (fun D => ?_) (fun D => ?_))))))
  ·
   refine zd (zA hN rfl) (zA hN rfl) (zD (zA hN rfl) (zB (u _ _ (wp_cond_true (zA hN rfl) (zF fun _ u => zH (zG (zC hN rfl g) (zG (zC hN rfl q) ?_)))))))
   have hbl' := hbl.keepG hb c_hbl
   refine zj ok46 (Value_ret (kd := kd) t zx hbl') ⟨(zA hN rfl), ⟨(zA hN rfl), trivial⟩⟩ ?_
   rintro _ M ⟨E, G, H, rfl, I, F, J⟩
   have := E.size
   have hb := hb.stepF E (fun _ _ h => h)
   refine zj ok45 (lit_ret (if kd = 2 then (2 : Int) else 1) G H _) ⟨(zA hN rfl), trivial⟩ ?_
   rintro _ M ⟨J, rfl⟩
   have J := zQ J
   obtain ⟨hb, _⟩ := yG hb J
   have s := (s.keepG E y).keep0 J
   refine zZ size89 (zA hN rfl) (zA hN rfl) rfl rfl s rfl ?_
   intro M s E
   have := E.size
   have F := (F.kz J).keepG (Gr.of E) (Dj.one y)
   have hb := hb.step1 E zx
   refine zB (u _ _ (wp_ret (zb (zO ( (retC rfl hd (zA hN rfl) agg89 rfl s ⟨_, rfl, ?_⟩))))))
   exact ⟨hb, (XE.mk 1 (if kd = 2 then (2 : Int) else 1) G H [] [] (.slice none 0 0) []), rfl, .leaf rfl rfl, fun _ => (kind_lit rfl rfl).trans (by show ((if kd = 2 then (2 : Int) else 1), (0 : Int)) = _; (repeat' split) <;> first | rfl | (congr 1; omega)), I, F, by omega⟩
  refine zd (zA hN rfl) (zA hN rfl) (zD (zA hN rfl) (zB (u _ _ (wp_cond_false (zA hN rfl) (zF fun _ u => zH (zG (zA hN rfl) (op_eql (zA hN rfl) rfl (fun E => ?_) (fun E => ?_))))))))
  ·
   refine zD (zA hN rfl) (zB (u _ _ (wp_cond_true (zA hN rfl) (zF fun _ u => zH (zG (zC hN rfl g) (zG (zC hN rfl l) (zG (zC hN rfl o) (zG (zC hN rfl q) (zG (zC hN rfl r) (op_add (zA hN rfl) rfl (add64 zx) ?_))))))))))
   have hbl' := hbl.keepG hb c_hbl
   have hC' := hC.keepG hb c_hC
   have hK' := hK.keepG hb c_hK
   refine zj ok47 (ih _ (by split <;> omega) (kd := kd) (deep := (deep + 1)) rfl t zx hbl' (C := C) (K := K) hC' hK' zx zx zx zx zx zx zx) ⟨(zA hN rfl), ⟨(zA hN rfl), ⟨(zA hN rfl), ⟨(zA hN rfl), ⟨(zA hN rfl), trivial⟩⟩⟩⟩⟩ ?_
   rintro _ P ⟨I, F, rfl, H, M, J, G, O⟩
   have := I.size
   have hb := hb.stepF I (fun _ _ h => h)
   refine op_bslice (e := 89) (pv := [(0, (.agg #[(.int .i64 F.op), (.int .i64 F.vk), (.int .i64 F.vi), (.string (bs F.vt)), (.string (bs F.tb)), (.string (bs F.nm)), F.av]))]) (cs := [(.int .i64 F.op), (.int .i64 F.vk), (.int .i64 F.vi), (.string (bs F.vt)), (.string (bs F.tb)), (.string (bs F.nm)), F.av]) ⟨rfl, (zA hN rfl), trivial⟩ zy ?_
   intro R P S T O Q
   have R : ¬ (fun k => k = p) P := fun hf => by have := (G.lt _ hf).2; omega
   obtain ⟨hb, _⟩ := yG hb Q
   have s := (s.keepG I y).keep0 Q
   refine zf (pv := [(0, (.int .i64 3)), (4, (.slice (some ⟨P, 0, none⟩) 1 1))]) (v := (Value.agg #[(.int .i64 3), (.int .i64 0), (.int .i64 0), (.string (bs [])), (.string (bs [])), (.string (bs [])), (.slice (some ⟨P, 0, none⟩) 1 1)])) ⟨rfl, rfl, ⟨rfl, (zA hN rfl), trivial⟩⟩ zy (zZ size89 (zA hN rfl) (zA hN rfl) rfl rfl s rfl ?_)
   intro R s I
   have := I.size
   have G := (G.kz Q).keepG (Gr.of I) (Dj.one y)
   have H := (H.keep0 Q).keep I sO
   have O := O.keep I sB
   have hb := hb.step1 I zx
   refine zB (u _ _ (wp_ret (zb (zO ( (retC rfl hd (zA hN rfl) agg89 rfl s ⟨_, rfl, ?_⟩))))))
   exact ⟨hb, (XE.mk 3 0 0 [] [] [] (.slice (some ⟨P, 0, none⟩) 1 1) [F]), rfl, (XsFr.lit1 (x := F) O zx O.lt (H.mono zx zx)).node, fun hg => kind_one rfl (M hg) (by first | (left; exact ⟨rfl, by omega⟩) | (right; exact ⟨rfl, by omega⟩)), J, G, by omega⟩
  refine zD (zA hN rfl) (zB (u _ _ (wp_cond_false (zA hN rfl) (wp_skip (c _ _ (zF fun _ c => zH (zG (zC hN rfl g) ?_)))))))
  have hbl' := hbl.keepG hb c_hbl
  refine zj ok15 (Num_ret (m := 3) t zx hbl' zx zx) ⟨(zA hN rfl), ⟨rfl, trivial⟩⟩ ?_
  rintro _ H ⟨G, F, rfl, P, M, I, O, J⟩
  have := G.size
  have hb := hb.stepF G (fun _ _ h => h)
  refine op_add rfl (zA hN rfl) (add64 zx) (zG (zC hN rfl g) (zG (zC hN rfl l) (zG (zC hN rfl o) (zG (zC hN rfl q) (zG (zC hN rfl r) (op_add (zA hN rfl) rfl (add64 zx) ?_))))))
  have hbl' := hbl.keepG hb c_hbl
  have hC' := hC.keepG hb c_hC
  have hK' := hK.keepG hb c_hK
  refine zj ok47 (ih _ (by split <;> omega) (kd := kd) (deep := (deep + 1)) rfl I zx hbl' (C := C) (K := K) hC' hK' zx zx zx zx zx zx zx) ⟨(zA hN rfl), ⟨(zA hN rfl), ⟨(zA hN rfl), ⟨(zA hN rfl), ⟨(zA hN rfl), trivial⟩⟩⟩⟩⟩ ?_
  rintro _ S ⟨J, M, rfl, I, P, R, O, Q⟩
  have := J.size
  have hb := hb.stepF J (fun _ _ h => h)
  refine zG (zC hN rfl g) (zG (zC hN rfl l) (zG (zC hN rfl o) (zG (zC hN rfl q) (zG (zC hN rfl r) (op_add (zA hN rfl) rfl (add64 zx) ?_)))))
  have hbl' := hbl.keepG hb c_hbl
  have hC' := hC.keepG hb c_hC
  have hK' := hK.keepG hb c_hK
  refine zj ok47 (ih _ (by split <;> omega) (kd := kd) (deep := (deep + 1)) rfl O zx hbl' (C := C) (K := K) hC' hK' zx zx zx zx zx zx zx) ⟨(zA hN rfl), ⟨(zA hN rfl), ⟨(zA hN rfl), ⟨(zA hN rfl), ⟨(zA hN rfl), trivial⟩⟩⟩⟩⟩ ?_
  rintro _ W ⟨O, R, rfl, T, U, S, Q, V⟩
  have := O.size
  have I := I.keepG O sP
  have hb := hb.stepF O (fun _ _ h => h)
  refine zj ok68 (two_ret (L := H.heap.size) (5 + ((F : Nat) : Int)) M R _ zx (I.mono zx zx) (T.mono zx zx)) ⟨(zA hN rfl), ⟨(zA hN rfl), ⟨(zA hN rfl), trivial⟩⟩⟩ ?_
  rintro _ V ⟨H, T, rfl, I⟩
  have H := zQ H
  obtain ⟨hb, _⟩ := yG hb H
  have s := (((s.keepG G y).keepG J y).keepG O y).keep0 H
  refine zZ size89 (zA hN rfl) (zA hN rfl) rfl (by simp only [yA, yB, yC, yD, I.1.one]; try rfl) s rfl ?_
  intro J s G
  have := G.size
  have Q := (Q.kz H).keepG (Gr.of G) (Dj.one y)
  have I := I.keep G sO
  have hb := hb.step1 G zx
  refine zB (c _ _ (wp_ret (retC rfl hd (zA hN rfl) agg89 rfl s ⟨_, rfl, ?_⟩)))
  refine ⟨hb, (XE.mk (5 + ((F : Nat) : Int)) 0 0 [] [] [] T [M, R]), rfl, (I.mono zx zx).node, fun hg => (kind_two (a := M) (b := R) rfl (P hg) (U hg) ?_).trans ?_, S, Q, by omega⟩
  · show (5 ≤ (5 + ((F : Nat) : Int)) ∧ (5 + ((F : Nat) : Int)) ≤ 7 ∧ kd = 1) ∨ (8 ≤ (5 + ((F : Nat) : Int)) ∧ (5 + ((F : Nat) : Int)) ≤ 13 ∧ (kd = 1 ∨ kd = 2)) ∨ (((5 + ((F : Nat) : Int)) = 14 ∨ (5 + ((F : Nat) : Int)) = 15) ∧ kd = 3); omega
  · show ((if 5 ≤ (5 + ((F : Nat) : Int)) ∧ (5 + ((F : Nat) : Int)) ≤ 7 then (1 : Int) else 3), (0 : Int)) = _; rw [if_pos zx, show kd = 1 by omega]
 rw [A]
 refine zR (j := 1) (dj := 87) (b := true) rfl rfl rfl (zA hN rfl) rfl rfl (zR (j := 1) (dj := 87) (b := true) rfl rfl rfl (zA hN rfl) rfl rfl (zd (zA hN rfl) rfl (zD (zA hN rfl) (zB (u _ _ (wp_cond_false (zA hN rfl) (zF fun _ u => zH (zG (zC hN rfl q) (op_eql (zA hN rfl) rfl (fun z => ?_) (fun z => ?_))))))))))
 ·
  refine zG (zA hN rfl) (zR (j := 2) (dj := 95) (b := false) rfl rfl rfl (zA hN rfl) rfl rfl (zR (j := 2) (dj := 95) (b := false) rfl rfl rfl (zA hN rfl) rfl rfl (zc (zA hN rfl) rfl ?_)))
  refine zG (zA hN rfl) (zR (j := 6) (dj := 99) (b := false) rfl rfl rfl (zA hN rfl) rfl rfl (zR (j := 6) (dj := 99) (b := false) rfl rfl rfl (zA hN rfl) rfl rfl (zc (zA hN rfl) rfl (zD (zA hN rfl) (zB (u _ _ (wp_cond_true (zA hN rfl) (zF fun _ u => zH (zG (zC hN rfl g) (zG (zC hN rfl q) ?_))))))))))
  have hbl' := hbl.keepG hb c_hbl
  refine zj ok46 (Value_ret (kd := kd) t zx hbl') ⟨(zA hN rfl), ⟨(zA hN rfl), trivial⟩⟩ ?_
  rintro _ J ⟨z, F, G, rfl, H, A, I⟩
  have := z.size
  have hb := hb.stepF z (fun _ _ h => h)
  refine zj ok45 (lit_ret (if kd = 2 then (2 : Int) else 1) F G _) ⟨(zA hN rfl), trivial⟩ ?_
  rintro _ J ⟨I, rfl⟩
  have I := zQ I
  obtain ⟨hb, _⟩ := yG hb I
  have s := (s.keepG z y).keep0 I
  refine zZ size89 (zA hN rfl) (zA hN rfl) rfl rfl s rfl ?_
  intro J s z
  have := z.size
  have A := (A.kz I).keepG (Gr.of z) (Dj.one y)
  have hb := hb.step1 z zx
  refine zB (u _ _ (wp_ret (zb (zO ( (retC rfl hd (zA hN rfl) agg89 rfl s ⟨_, rfl, ?_⟩))))))
  exact ⟨hb, (XE.mk 1 (if kd = 2 then (2 : Int) else 1) F G [] [] (.slice none 0 0) []), rfl, .leaf rfl rfl, fun _ => (kind_lit rfl rfl).trans (by show ((if kd = 2 then (2 : Int) else 1), (0 : Int)) = _; (repeat' split) <;> first | rfl | (congr 1; omega)), H, A, by omega⟩
 refine zG (zA hN rfl) (zS (j := 2) (dj := 95) (b := false) rfl rfl rfl (zA hN rfl) (zG (zC hN rfl r) (zS (j := 2) (dj := 95) (b := false) rfl rfl rfl (zA hN rfl) (op_gtr (zA hN rfl) rfl (fun B => ?_) (fun B => ?_)))))
 ·
  refine zd (zA hN rfl) (zA hN rfl) ?_
  refine zG (zA hN rfl) (zR (j := 6) (dj := 99) (b := false) rfl rfl rfl (zA hN rfl) rfl rfl (zR (j := 6) (dj := 99) (b := false) rfl rfl rfl (zA hN rfl) rfl rfl (zc (zA hN rfl) rfl (zD (zA hN rfl) (zB (u _ _ (wp_cond_true (zA hN rfl) (zF fun _ u => zH (zG (zC hN rfl g) (zG (zC hN rfl q) ?_))))))))))
  have hbl' := hbl.keepG hb c_hbl
  refine zj ok46 (Value_ret (kd := kd) t zx hbl') ⟨(zA hN rfl), ⟨(zA hN rfl), trivial⟩⟩ ?_
  rintro _ I ⟨A, B, F, rfl, G, z, H⟩
  have := A.size
  have hb := hb.stepF A (fun _ _ h => h)
  refine zj ok45 (lit_ret (if kd = 2 then (2 : Int) else 1) B F _) ⟨(zA hN rfl), trivial⟩ ?_
  rintro _ I ⟨H, rfl⟩
  have H := zQ H
  obtain ⟨hb, _⟩ := yG hb H
  have s := (s.keepG A y).keep0 H
  refine zZ size89 (zA hN rfl) (zA hN rfl) rfl rfl s rfl ?_
  intro I s A
  have := A.size
  have z := (z.kz H).keepG (Gr.of A) (Dj.one y)
  have hb := hb.step1 A zx
  refine zB (u _ _ (wp_ret (zb (zO ( (retC rfl hd (zA hN rfl) agg89 rfl s ⟨_, rfl, ?_⟩))))))
  exact ⟨hb, (XE.mk 1 (if kd = 2 then (2 : Int) else 1) B F [] [] (.slice none 0 0) []), rfl, .leaf rfl rfl, fun _ => (kind_lit rfl rfl).trans (by show ((if kd = 2 then (2 : Int) else 1), (0 : Int)) = _; (repeat' split) <;> first | rfl | (congr 1; omega)), G, z, by omega⟩
 refine zd (zA hN rfl) (zA hN rfl) (zG (zA hN rfl) (zS (j := 6) (dj := 99) (b := false) rfl rfl rfl (zA hN rfl) (zG (zA hN rfl) (zS (j := 6) (dj := 99) (b := false) rfl rfl rfl (zA hN rfl) (op_lss (zA hN rfl) rfl (fun D => ?_) (fun D => ?_))))))
 ·
  refine zd (zA hN rfl) (zA hN rfl) (zD (zA hN rfl) (zB (u _ _ (wp_cond_true (zA hN rfl) (zF fun _ u => zH (zG (zC hN rfl g) (zG (zC hN rfl q) ?_)))))))
  have hbl' := hbl.keepG hb c_hbl
  refine zj ok46 (Value_ret (kd := kd) t zx hbl') ⟨(zA hN rfl), ⟨(zA hN rfl), trivial⟩⟩ ?_
  rintro _ H ⟨z, B, D, rfl, F, A, G⟩
  have := z.size
  have hb := hb.stepF z (fun _ _ h => h)
  refine zj ok45 (lit_ret (if kd = 2 then (2 : Int) else 1) B D _) ⟨(zA hN rfl), trivial⟩ ?_
  rintro _ H ⟨G, rfl⟩
  have G := zQ G
  obtain ⟨hb, _⟩ := yG hb G
  have s := (s.keepG z y).keep0 G
  refine zZ size89 (zA hN rfl) (zA hN rfl) rfl rfl s rfl ?_
  intro H s z
  have := z.size
  have A := (A.kz G).keepG (Gr.of z) (Dj.one y)
  have hb := hb.step1 z zx
  refine zB (u _ _ (wp_ret (zb (zO ( (retC rfl hd (zA hN rfl) agg89 rfl s ⟨_, rfl, ?_⟩))))))
  exact ⟨hb, (XE.mk 1 (if kd = 2 then (2 : Int) else 1) B D [] [] (.slice none 0 0) []), rfl, .leaf rfl rfl, fun _ => (kind_lit rfl rfl).trans (by show ((if kd = 2 then (2 : Int) else 1), (0 : Int)) = _; (repeat' split) <;> first | rfl | (congr 1; omega)), F, A, by omega⟩
 refine zd (zA hN rfl) (zA hN rfl) (zD (zA hN rfl) (zB (u _ _ (wp_cond_false (zA hN rfl) (zF fun _ u => zH (zG (zA hN rfl) (op_eql (zA hN rfl) rfl (fun E => ?_) (fun E => ?_))))))))
 ·
  refine zD (zA hN rfl) (zB (u _ _ (wp_cond_true (zA hN rfl) (zF fun _ u => zH (zG (zC hN rfl g) (zG (zC hN rfl l) (zG (zC hN rfl o) (zG (zC hN rfl q) (zG (zC hN rfl r) (op_add (zA hN rfl) rfl (add64 zx) ?_))))))))))
  have hbl' := hbl.keepG hb c_hbl
  have hC' := hC.keepG hb c_hC
  have hK' := hK.keepG hb c_hK
  refine zj ok47 (ih _ (by split <;> omega) (kd := kd) (deep := (deep + 1)) rfl t zx hbl' (C := C) (K := K) hC' hK' zx zx zx zx zx zx zx) ⟨(zA hN rfl), ⟨(zA hN rfl), ⟨(zA hN rfl), ⟨(zA hN rfl), ⟨(zA hN rfl), trivial⟩⟩⟩⟩⟩ ?_
  rintro _ G ⟨D, z, rfl, B, E, F, A, H⟩
  have := D.size
  have hb := hb.stepF D (fun _ _ h => h)
  refine op_bslice (e := 89) (pv := [(0, (.agg #[(.int .i64 z.op), (.int .i64 z.vk), (.int .i64 z.vi), (.string (bs z.vt)), (.string (bs z.tb)), (.string (bs z.nm)), z.av]))]) (cs := [(.int .i64 z.op), (.int .i64 z.vk), (.int .i64 z.vi), (.string (bs z.vt)), (.string (bs z.tb)), (.string (bs z.nm)), z.av]) ⟨rfl, (zA hN rfl), trivial⟩ zy ?_
  intro O I M J H G
  have J : ¬ (fun k => k = p) I := fun hf => by have := (A.lt _ hf).2; omega
  obtain ⟨hb, _⟩ := yG hb G
  have s := (s.keepG D y).keep0 G
  refine zf (pv := [(0, (.int .i64 3)), (4, (.slice (some ⟨I, 0, none⟩) 1 1))]) (v := (Value.agg #[(.int .i64 3), (.int .i64 0), (.int .i64 0), (.string (bs [])), (.string (bs [])), (.string (bs [])), (.slice (some ⟨I, 0, none⟩) 1 1)])) ⟨rfl, rfl, ⟨rfl, (zA hN rfl), trivial⟩⟩ zy (zZ size89 (zA hN rfl) (zA hN rfl) rfl rfl s rfl ?_)
  intro J s D
  have := D.size
  have A := (A.kz G).keepG (Gr.of D) (Dj.one y)
  have B := (B.keep0 G).keep D sO
  have H := H.keep D sB
  have hb := hb.step1 D zx
  refine zB (u _ _ (wp_ret (zb (zO ( (retC rfl hd (zA hN rfl) agg89 rfl s ⟨_, rfl, ?_⟩))))))
  exact ⟨hb, (XE.mk 3 0 0 [] [] [] (.slice (some ⟨I, 0, none⟩) 1 1) [z]), rfl, (XsFr.lit1 (x := z) H zx H.lt (B.mono zx zx)).node, fun hg => kind_one rfl (E hg) (by first | (left; exact ⟨rfl, by omega⟩) | (right; exact ⟨rfl, by omega⟩)), F, A, by omega⟩
 refine zD (zA hN rfl) (zB (u _ _ (wp_cond_false (zA hN rfl) (wp_skip (c _ _ (zF fun _ c => zH (zG (zC hN rfl g) ?_)))))))
 have hbl' := hbl.keepG hb c_hbl
 refine zj ok15 (Num_ret (m := 3) t zx hbl' zx zx) ⟨(zA hN rfl), ⟨rfl, trivial⟩⟩ ?_
 rintro _ z ⟨u, t, rfl, E, D, A, F, B⟩
 have := u.size
 have hb := hb.stepF u (fun _ _ h => h)
 refine op_add rfl (zA hN rfl) (add64 zx) (zG (zC hN rfl g) (zG (zC hN rfl l) (zG (zC hN rfl o) (zG (zC hN rfl q) (zG (zC hN rfl r) (op_add (zA hN rfl) rfl (add64 zx) ?_))))))
 have hbl' := hbl.keepG hb c_hbl
 have hC' := hC.keepG hb c_hC
 have hK' := hK.keepG hb c_hK
 refine zj ok47 (ih _ (by split <;> omega) (kd := kd) (deep := (deep + 1)) rfl A zx hbl' (C := C) (K := K) hC' hK' zx zx zx zx zx zx zx) ⟨(zA hN rfl), ⟨(zA hN rfl), ⟨(zA hN rfl), ⟨(zA hN rfl), ⟨(zA hN rfl), trivial⟩⟩⟩⟩⟩ ?_
 rintro _ H ⟨B, A, rfl, D, E, I, F, G⟩
 have := B.size
 have hb := hb.stepF B (fun _ _ h => h)
 refine zG (zC hN rfl g) (zG (zC hN rfl l) (zG (zC hN rfl o) (zG (zC hN rfl q) (zG (zC hN rfl r) (op_add (zA hN rfl) rfl (add64 zx) ?_)))))
 have hbl' := hbl.keepG hb c_hbl
 have hC' := hC.keepG hb c_hC
 have hK' := hK.keepG hb c_hK
 refine zj ok47 (ih _ (by split <;> omega) (kd := kd) (deep := (deep + 1)) rfl F zx hbl' (C := C) (K := K) hC' hK' zx zx zx zx zx zx zx) ⟨(zA hN rfl), ⟨(zA hN rfl), ⟨(zA hN rfl), ⟨(zA hN rfl), ⟨(zA hN rfl), trivial⟩⟩⟩⟩⟩ ?_
 rintro _ H ⟨g, l, rfl, F, r, q, o, G⟩
 have := g.size
 have D := D.keepG g sP
 have hb := hb.stepF g (fun _ _ h => h)
 refine zj ok68 (two_ret (L := z.heap.size) (5 + ((t : Nat) : Int)) A l _ zx (D.mono zx zx) (F.mono zx zx)) ⟨(zA hN rfl), ⟨(zA hN rfl), ⟨(zA hN rfl), trivial⟩⟩⟩ ?_
 rintro _ G ⟨z, F, rfl, D⟩
 have z := zQ z
 obtain ⟨hb, _⟩ := yG hb z
 have s := (((s.keepG u y).keepG B y).keepG g y).keep0 z
 refine zZ size89 (zA hN rfl) (zA hN rfl) rfl (by simp only [yA, yB, yC, yD, D.1.one]; try rfl) s rfl ?_
 intro u s g
 have := g.size
 have o := (o.kz z).keepG (Gr.of g) (Dj.one y)
 have D := D.keep g sO
 have hb := hb.step1 g zx
 refine zB (c _ _ (wp_ret (retC rfl hd (zA hN rfl) agg89 rfl s ⟨_, rfl, ?_⟩)))
 refine ⟨hb, (XE.mk (5 + ((t : Nat) : Int)) 0 0 [] [] [] F [A, l]), rfl, (D.mono zx zx).node, fun hg => (kind_two (a := A) (b := l) rfl (E hg) (r hg) ?_).trans ?_, q, o, by omega⟩
 · show (5 ≤ (5 + ((t : Nat) : Int)) ∧ (5 + ((t : Nat) : Int)) ≤ 7 ∧ kd = 1) ∨ (8 ≤ (5 + ((t : Nat) : Int)) ∧ (5 + ((t : Nat) : Int)) ≤ 13 ∧ (kd = 1 ∨ kd = 2)) ∨ (((5 + ((t : Nat) : Int)) = 14 ∨ (5 + ((t : Nat) : Int)) = 15) ∧ kd = 3); omega
 · show ((if 5 ≤ (5 + ((t : Nat) : Int)) ∧ (5 + ((t : Nat) : Int)) ≤ 7 then (1 : Int) else 3), (0 : Int)) = _; rw [if_pos zx, show kd = 1 by omega]

theorem Expr_all (m : Nat) : ExprP m := by
  induction m using Nat.strongRecOn with
  | _ m ih =>
    intro base p n Bp lv bl C K vc vk Lc Bc kd deep w hm hpk hBp hbl hC hK hBc hcp hcl h1 h2 h3 h4
    subst hm
    exact Expr_in hpk hBp hbl hC hK hBc hcp hcl h1 h2 h3 h4 ih

theorem Made_ret {lv : Value} {bl : List UInt8} {B0 : Nat} {w : World} (hB0 : B0 ≤ w.heap.size) (hbl : RdC w 0 w.heap.size 1 lv bl.length (bl.map u8v)) (hl9 : bl.length ≤ 1000) : Ret Tryz.prog 6 #[lv] w (fun v' w' => Below w.heap.size w w' ∧ ∃ p : Nat, v' = ptr p 0 ∧ w.heap.size ≤ p ∧ PickR w' B0 p lv bl 0 (fun k => k = p)) := by
 have hb := Below.refl w.heap.size w
 refine enter (N := 6) Tryz.func6 rfl rfl (by simp) fun a hN hd hA => ?_
 have b : a.tmps.getD 0 undef = lv := hA 0 (by simp)
 clear hA
 refine zF fun _ a => zH (zD rfl (zB (a _ _ (zF fun _ a => zH (zG (zC hN rfl b) ?_)))))
 have hbl' := hbl.keep0 (zQ hb)
 refine zf (pv := [(0, lv)]) (v := (Value.agg #[lv, (.int .i64 0)])) ⟨rfl, (zA hN rfl), trivial⟩ (by obtain ⟨_, _, _, rfl⟩ := hbl'.sl; kernel_rfl) (op_box (cs := [lv, (.int .i64 0)]) (zA hN rfl) rfl ?_)
 intro h e g j b c
 obtain ⟨hb, _⟩ := yE hb c
 refine zD (zA hN rfl) (zB (a _ _ (wp_ret (ret1 rfl hd (zA hN rfl) ⟨_, rfl, ?_⟩))))
 exact ⟨hb, _, rfl, by omega, rfl, by omega, Nat.zero_le _, hl9, b⟩

theorem pwhere_ret {base p n Bp : Nat} {lv : Value} {bl : List UInt8} {C : List PItm} {K : List Int} {vc vk : Value} {Lc Bc : Nat} {w : World} (hpk : PickR w base p lv bl n (fun k => k = p)) (hBp : Bp ≤ p) (hbl : RdC w 0 Bp 1 lv bl.length (bl.map u8v)) (hC : RdC w Lc Bc 3 vc C.length (C.flatMap cellsI)) (hK : RdC w Lc Bc 1 vk K.length (K.map (Value.int .i64))) (hBc : Bc ≤ w.heap.size) (hcp : p < Lc ∨ Bc ≤ p) (hcl : C.length ≤ 1000) : Ret Tryz.prog 44 #[(ptr p 0), vc, vk] w (fun v' w' => Gr w w' (fun k => k = p) ∧ ∃ wh : List XE, XsFr w' w.heap.size w'.heap.size v' wh ∧ ∃ n' : Nat, PickR w' base p lv bl n' (fun k => k = p) ∧ n ≤ n') := by
 have hi_p : p < w.heap.size := (hpk.lt p rfl).2
 have a := Expr_all
 have hb := Gr.refl w (fun k => k = p)
 refine enter (N := 15) Tryz.func44 rfl rfl (by simp) fun b hN hd hA => ?_
 have c : b.tmps.getD 0 undef = (ptr p 0) := hA 0 (by simp)
 have g : b.tmps.getD 1 undef = vc := hA 1 (by simp)
 have j : b.tmps.getD 2 undef = vk := hA 2 (by simp)
 clear hA
 have c_hbl : ∀ k, (fun k => k = p) k → k < 0 ∨ Bp ≤ k := fun k hk => .inr (by have := hpk.lt k hk; omega)
 have c_hC : ∀ k, (fun k => k = p) k → k < Lc ∨ Bc ≤ k := fun k hk => by have h9 : k = p := hk; omega
 have c_hK : ∀ k, (fun k => k = p) k → k < Lc ∨ Bc ≤ k := fun k hk => by have h9 : k = p := hk; omega
 refine zF fun _ b => zH (zD rfl (zB (b _ _ (zF fun _ b => zF fun _ l => zH (zG (zC hN rfl c) ?_)))))
 have hbl' := hbl.keepG hb c_hbl
 refine zj ok15 (Num_ret (m := 3) hpk zx hbl' zx zx) ⟨(zA hN rfl), ⟨rfl, trivial⟩⟩ ?_
 rintro _ z ⟨q, s, rfl, u, r, o, y, t⟩
 have := q.size
 have hb := hb.stepF q (fun _ _ h => h)
 refine op_eql (zA hN rfl) rfl (fun q => ?_) (fun q => ?_)
 ·
  refine zB (l _ _ (wp_cond_true (zA hN rfl) (zF fun _ l => zH (zD rfl (zB (l _ _ (wp_ret (zO ( (ret1 rfl hd (zA hN rfl) ⟨_, rfl, ?_⟩))))))))))
  exact ⟨hb, [], XsFr.nil _ _ _, r, o, by omega⟩
 refine zB (l _ _ (wp_cond_false (zA hN rfl) (wp_skip (b _ _ (zF fun _ b => zH (zG (zC hN rfl c) (zG (zC hN rfl g) (zG (zC hN rfl j) ?_))))))))
 have hbl' := hbl.keepG hb c_hbl
 have hC' := hC.keepG hb c_hC
 have hK' := hK.keepG hb c_hK
 refine ze (vs := [(ptr p 0), vc, vk, (.int .i64 3), (.int .i64 0)]) ok47 ⟨(zA hN rfl), ⟨(zA hN rfl), ⟨(zA hN rfl), ⟨rfl, ⟨rfl, trivial⟩⟩⟩⟩⟩ (a _ (kd := 3) (deep := 0) rfl o zx hbl' (C := C) (K := K) hC' hK' zx zx zx zx zx zx zx) ?_
 rintro _ o ⟨j, a, rfl, g, q, l, c, r⟩
 have := j.size
 have hb := hb.stepF j (fun _ _ h => h)
 refine op_bslice (e := 89) (pv := [(0, (.agg #[(.int .i64 a.op), (.int .i64 a.vk), (.int .i64 a.vi), (.string (bs a.vt)), (.string (bs a.tb)), (.string (bs a.nm)), a.av]))]) (cs := [(.int .i64 a.op), (.int .i64 a.vk), (.int .i64 a.vi), (.string (bs a.vt)), (.string (bs a.tb)), (.string (bs a.nm)), a.av]) ⟨rfl, (zA hN rfl), trivial⟩ zy ?_
 intro t q s r o j
 have r : ¬ (fun k => k = p) q := fun hf => by have := (c.lt _ hf).2; omega
 obtain ⟨hb, _⟩ := yG hb j
 have c := c.kz j
 have g := g.keep0 j
 refine zD (zA hN rfl) (zB (b _ _ (wp_ret (ret1 rfl hd (zA hN rfl) ⟨_, rfl, ?_⟩))))
 exact ⟨hb, [a], XsFr.lit1 (x := a) o zx o.lt (g.mono zx zx), l, c, by omega⟩

theorem Tags_ret {base p n Bp : Nat} {lv : Value} {bl : List UInt8} {w : World} (hpk : PickR w base p lv bl n (fun k => k = p)) (hBp : Bp ≤ p) (hbl : RdC w 0 Bp 1 lv bl.length (bl.map u8v)) : Ret Tryz.prog 18 #[(ptr p 0)] w (fun v' w' => Gr w w' (fun k => k = p) ∧ ∃ tags : List UInt16, tags.length ≤ 2 ∧ RdC w' w.heap.size w'.heap.size 1 v' tags.length (tags.map u16v) ∧ ∃ n' : Nat, PickR w' base p lv bl n' (fun k => k = p) ∧ n ≤ n') := by
 have hi_p : p < w.heap.size := (hpk.lt p rfl).2
 have hb := Gr.refl w (fun k => k = p)
 refine enter (N := 19) Tryz.func18 rfl rfl (by simp) fun a hN hd hA => ?_
 have b : a.tmps.getD 0 undef = (ptr p 0) := hA 0 (by simp)
 clear hA
 have c_hbl : ∀ k, (fun k => k = p) k → k < 0 ∨ Bp ≤ k := fun k hk => .inr (by have := hpk.lt k hk; omega)
 refine zF fun _ a => zH ?_
 refine zD rfl (zB (a _ _ (zF fun _ a => zH (zD rfl (zB (a _ _ (zF fun _ a => zF fun _ c => zH (zG (zC hN rfl b) ?_))))))))
 have hbl' := hbl.keepG hb c_hbl
 refine zj ok15 (Num_ret (m := 3) hpk zx hbl' zx zx) ⟨(zA hN rfl), ⟨rfl, trivial⟩⟩ ?_
 rintro _ l ⟨g, u, rfl, o, q, j, s, t⟩
 have hpk_old := hpk
 have := g.size
 have hb := hb.stepF g (fun _ _ h => h)
 refine zD (zA hN rfl) (zB (c _ _ (wp_block (loop_m (fun mz_ az_ w' => ∃ (i g : Nat) (o : Value) (tags : List UInt16), mz_ = (i + 1) ∧ (Sl az_ 0 (ptr p 0)) ∧ (Sl az_ 2 (.slice none 0 0)) ∧ (Sl az_ 4 (.int .i64 ((i : Nat) : Int))) ∧ (Sl az_ 3 o) ∧ (tags.length + i ≤ 2) ∧ (n ≤ g) ∧ (Gr w w' (fun k => k = p)) ∧ (l.heap.size ≤ w'.heap.size) ∧ (PickR w' base p lv bl g (fun k => k = p)) ∧ (Own w' w.heap.size 56 1 o tags.length (tags.map u16v))) _ hN hd ⟨_, _, (.slice none 0 0), [], rfl, (zL hN rfl b), (zU hN rfl), (zU hN rfl), (zU hN rfl), (by simp; omega), zx, hb, (Nat.le_refl _), j, (Own.nil _ _ _ _)⟩ ?_))))
 rintro _ A x b l ⟨i, g, o, tags, rfl, t, u, s, q, htl, y, hb, z, hpk, j⟩
 have := hb.size
 refine zF fun _ c => zF fun _ o => zH (zG (zC b rfl s) (op_gtr (zA b rfl) rfl (fun x => ?_) (fun x => ?_)))
 ·
  refine zB (o _ _ (wp_cond_true (zA b rfl) (wp_skip (c _ _ (zF fun _ c => wp_block (zH (zG (zC b rfl q) (zG (zC b rfl t) ?_))))))))
  have hbl' := hbl.keepG hb c_hbl
  refine zj ok15 (Num_ret (m := 3) hpk zx hbl' zx zx) ⟨(zA b rfl), ⟨rfl, trivial⟩⟩ ?_
  rintro _ D ⟨z, y, rfl, C, A, x, B, E⟩
  have hpk_old := hpk
  have := z.size
  have j := j.keepG z (hpk_old.notOwn j zz)
  have hb := hb.stepF z (fun _ _ h => h)
  refine op_add rfl (zA b rfl) (add64 zx) (op_conv (r := ((UInt16.ofNat (1 + y)).toNat : Int)) (zA b rfl) us3 Tryz.underlying56 (wrap_tag zx) (op_bslice (e := 56) (pv := [(0, (.int .u16 ((UInt16.ofNat (1 + y)).toNat : Int)))]) (cs := [(.int .u16 ((UInt16.ofNat (1 + y)).toNat : Int))]) ⟨rfl, (zA b rfl), trivial⟩ zy ?_))
  intro D C E F B z
  have D : ¬ (fun k => k = p) C := fun hf => by have := (x.lt _ hf).2; omega
  obtain ⟨hb, _⟩ := yG hb z
  have j := j.keep0 z
  have x := x.kz z
  have z := j
  refine op_append slt23 (zA b rfl) z (zA b rfl) (Src.ofRd Tryz.underlying23 zz (RdC.ofBx (sz := 1) (n := 1) B rfl zz) (by simp [Value.oneCell', u8v])) (by unfold maxLen; omega) zx hb.size ?_
  intro D E C B F
  have := B.size
  have x := x.keepG (Gr.of B) (x.notOwn z zz).symm
  have hb := hb.stepO z B zx
  have C : Own E w.heap.size 56 1 D (tags.length + 1) (((tags ++ [(UInt16.ofNat (1 + y))])).map u16v) := by simpa [u8v, u16v, sv, cellsI] using C
  refine zD (zA b rfl) (zB (c _ _ (zH (zG (zC b rfl s) (op_sub (zA b rfl) rfl (sub64 zx) (zD (zA b rfl) (zB ?_)))))))
  -- round 8T
  exact zg _ b l ⟨(i - 1), A, D, (tags ++ [(UInt16.ofNat (1 + y))]), rfl, (zL b rfl t), (zL b rfl u), (zU b rfl).trans (congrArg (Value.int .i64) zx), (zU b rfl), (by simp; omega), zx, hb, zx, x, (C.cast (by simp) rfl)⟩ zx
 refine zB (o _ _ (wp_cond_false (zA b rfl) (wp_exit (then_exit (then_exit (blk_hit (a _ _ (zF fun _ a => zH (zG (zC b rfl q) (zD (zA b rfl) (zB (a _ _ (wp_ret (ret1 rfl l (zA b rfl) ⟨_, rfl, ?_⟩))))))))))))))
 exact ⟨hb, tags, by omega, j.rdw, g, hpk, by omega⟩

theorem pview_ret {base p n Bp : Nat} {lv : Value} {bl : List UInt8} {w : World} (hpk : PickR w base p lv bl n (fun k => k = p)) (hBp : Bp ≤ p) (hbl : RdC w 0 Bp 1 lv bl.length (bl.map u8v)) : Ret Tryz.prog 17 #[(ptr p 0)] w (fun v' w' => Gr w w' (fun k => k = p) ∧ ∃ s : List UInt8, v' = .string (bs s) ∧ ∃ n' : Nat, PickR w' base p lv bl n' (fun k => k = p) ∧ n ≤ n') := by
 have hi_p : p < w.heap.size := (hpk.lt p rfl).2
 have hb := Gr.refl w (fun k => k = p)
 refine enter (N := 8) Tryz.func17 rfl rfl (by simp) fun a hN hd hA => ?_
 have b : a.tmps.getD 0 undef = (ptr p 0) := hA 0 (by simp)
 clear hA
 have c_hbl : ∀ k, (fun k => k = p) k → k < 0 ∨ Bp ≤ k := fun k hk => .inr (by have := hpk.lt k hk; omega)
 refine zF fun _ a => zH (zD rfl (zB (a _ _ (zF fun _ a => zH (op_bslice (e := 9) (pv := [(0, (.string (bs [100]))), (1, (.string (bs [101]))), (2, (.string (bs [102]))), (3, (.string (bs [103])))]) (cs := [(.string (bs [100])), (.string (bs [101])), (.string (bs [102])), (.string (bs [103]))]) ⟨rfl, rfl, ⟨rfl, rfl, ⟨rfl, rfl, ⟨rfl, rfl, trivial⟩⟩⟩⟩ zy ?_)))))
 intro o j r q c g
 have o : ¬ (fun k => k = p) j := fun hf => by have := (hpk.lt _ hf).2; omega
 obtain ⟨hb, _⟩ := yG hb g
 have hpk := hpk.kz g
 refine zG (zC hN rfl b) ?_
 have hbl' := hbl.keepG hb c_hbl
 refine zj ok15 (Num_ret (m := 4) hpk zx hbl' zx zx) ⟨(zA hN rfl), ⟨rfl, trivial⟩⟩ ?_
 rintro _ t ⟨g, b, rfl, r, j, q, x, u⟩
 have := g.size
 have c := c.keepG g o
 have hb := hb.stepF g (fun _ _ h => h)
 refine zh slt49 (zA hN rfl) (RdC.ofBx (sz := 1) (n := 4) c rfl zz) (zA hN rfl) zx zx ?_
 intro t r g o c
 refine zN (v := (Value.string (bs (([[100], [101], [102], [103]] : List (List UInt8)).getD b [])))) one9 (zA hN rfl) (by have := c 0 (.string (bs (([[100], [101], [102], [103]] : List (List UInt8)).getD b []))) zz (el_sv (l := ([[100], [101], [102], [103]] : List (List UInt8))) (i := b) rfl (show _ < 4 by omega)); simpa using this) (zD (zA hN rfl) (zB (a _ _ (wp_ret (ret1 rfl hd (zA hN rfl) ⟨_, rfl, ?_⟩)))))
 exact ⟨hb, (([[100], [101], [102], [103]] : List (List UInt8)).getD b []), rfl, j, q, by omega⟩

theorem SchemaL_ret (w : World) : Ret Tryz.prog 16 #[] w (fun v' w' => Below w.heap.size w w' ∧ ∃ (tv : Value) (D : List DTab), v' = .agg #[tv, .slice none 0 0] ∧ D.map DTab.t = schT ∧ TsFr w' w.heap.size w'.heap.size tv D) := by
 have hb := Below.refl w.heap.size w
 refine enter (N := 14) Tryz.func16 rfl rfl (by simp) fun a hN hd hA => ?_
 clear hA
 refine zF fun _ a => zH (op_alloc (cs := [(.slice none 0 0), (.slice none 0 0)]) zero30 rfl ?_)
 intro h j k g b c
 obtain ⟨hb, _⟩ := yE hb c
 refine zB (a _ _ (zF fun _ a => zH (zf (pv := [(0, (.string (bs [107]))), (1, (.int .i64 1))]) (v := (Value.agg #[(.string (bs [107])), (.int .i64 1), (.string (bs []))])) ⟨rfl, rfl, ⟨rfl, rfl, trivial⟩⟩ zy (zf (pv := [(0, (.string (bs [118]))), (1, (.int .i64 2))]) (v := (Value.agg #[(.string (bs [118])), (.int .i64 2), (.string (bs []))])) ⟨rfl, rfl, ⟨rfl, rfl, trivial⟩⟩ zy (zf (pv := [(0, (.string (bs [110]))), (1, (.int .i64 1))]) (v := (Value.agg #[(.string (bs [110])), (.int .i64 1), (.string (bs []))])) ⟨rfl, rfl, ⟨rfl, rfl, trivial⟩⟩ zy (op_bslice (e := 48) (pv := [(0, (.agg #[(.string (bs [107])), (.int .i64 1), (.string (bs []))])), (1, (.agg #[(.string (bs [118])), (.int .i64 2), (.string (bs []))])), (2, (.agg #[(.string (bs [110])), (.int .i64 1), (.string (bs []))]))]) (cs := [(.string (bs [107])), (.int .i64 1), (.string (bs [])), (.string (bs [118])), (.int .i64 2), (.string (bs [])), (.string (bs [110])), (.int .i64 1), (.string (bs []))]) ⟨rfl, (zA hN rfl), ⟨rfl, (zA hN rfl), ⟨rfl, (zA hN rfl), trivial⟩⟩⟩ zy ?_))))))
 intro j g k l c h
 obtain ⟨hb, _⟩ := yE hb h
 refine op_bslice (e := 9) (pv := [(0, (.string (bs [110])))]) (cs := [(.string (bs [110]))]) ⟨rfl, rfl, trivial⟩ zy ?_
 intro m k o p j l
 obtain ⟨hb, _⟩ := yE hb l
 refine zf (pv := [(0, (.string (bs [116]))), (1, (.slice (some ⟨g, 0, none⟩) 3 3)), (2, (.slice (some ⟨k, 0, none⟩) 1 1))]) (v := (Value.agg #[(.string (bs [116])), (.slice (some ⟨g, 0, none⟩) 3 3), (.slice (some ⟨k, 0, none⟩) 1 1)])) ⟨rfl, rfl, ⟨rfl, (zA hN rfl), ⟨rfl, (zA hN rfl), trivial⟩⟩⟩ zy (zf (pv := [(0, (.string (bs [107]))), (1, (.int .i64 2))]) (v := (Value.agg #[(.string (bs [107])), (.int .i64 2), (.string (bs []))])) ⟨rfl, rfl, ⟨rfl, rfl, trivial⟩⟩ zy (zf (pv := [(0, (.string (bs [114]))), (1, (.int .i64 1)), (2, (.string (bs [116])))]) (v := (Value.agg #[(.string (bs [114])), (.int .i64 1), (.string (bs [116]))])) ⟨rfl, rfl, ⟨rfl, rfl, ⟨rfl, rfl, trivial⟩⟩⟩ zy (zf (pv := [(0, (.string (bs [110]))), (1, (.int .i64 1))]) (v := (Value.agg #[(.string (bs [110])), (.int .i64 1), (.string (bs []))])) ⟨rfl, rfl, ⟨rfl, rfl, trivial⟩⟩ zy (op_bslice (e := 48) (pv := [(0, (.agg #[(.string (bs [107])), (.int .i64 2), (.string (bs []))])), (1, (.agg #[(.string (bs [114])), (.int .i64 1), (.string (bs [116]))])), (2, (.agg #[(.string (bs [110])), (.int .i64 1), (.string (bs []))]))]) (cs := [(.string (bs [107])), (.int .i64 2), (.string (bs [])), (.string (bs [114])), (.int .i64 1), (.string (bs [116])), (.string (bs [110])), (.int .i64 1), (.string (bs []))]) ⟨rfl, (zA hN rfl), ⟨rfl, (zA hN rfl), ⟨rfl, (zA hN rfl), trivial⟩⟩⟩ zy ?_))))
 intro q p s r m o
 obtain ⟨hb, _⟩ := yE hb o
 refine zf (pv := [(0, (.string (bs [117]))), (1, (.slice (some ⟨p, 0, none⟩) 3 3))]) (v := (Value.agg #[(.string (bs [117])), (.slice (some ⟨p, 0, none⟩) 3 3), (.slice none 0 0)])) ⟨rfl, rfl, ⟨rfl, (zA hN rfl), trivial⟩⟩ zy (op_bslice (e := 51) (pv := [(0, (.agg #[(.string (bs [116])), (.slice (some ⟨g, 0, none⟩) 3 3), (.slice (some ⟨k, 0, none⟩) 1 1)])), (1, (.agg #[(.string (bs [117])), (.slice (some ⟨p, 0, none⟩) 3 3), (.slice none 0 0)]))]) (cs := [(.string (bs [116])), (.slice (some ⟨g, 0, none⟩) 3 3), (.slice (some ⟨k, 0, none⟩) 1 1), (.string (bs [117])), (.slice (some ⟨p, 0, none⟩) 3 3), (.slice none 0 0)]) ⟨rfl, (zA hN rfl), ⟨rfl, (zA hN rfl), trivial⟩⟩ zy ?_)
 intro q p r s k g
 obtain ⟨hb, _⟩ := yE hb g
 have b := (((b.keep0 h).keep0 l).keep0 o).keep0 g
 have c := ((c.keep0 l).keep0 o).keep0 g
 have j := (j.keep0 o).keep0 g
 have m := m.keep0 g
 refine zf (pv := [(0, (.slice (some ⟨p, 0, none⟩) 2 2))]) (v := (Value.agg #[(.slice (some ⟨p, 0, none⟩) 2 2), (.slice none 0 0)])) ⟨rfl, (zA hN rfl), trivial⟩ zy ?_
 have g := b
 refine zZ size30 (zA hN rfl) (zA hN rfl) rfl rfl b rfl ?_
 intro l b h
 have := h.size
 have c := c.keep h (sN c g)
 have j := j.keep h (sN j g)
 have m := m.keep h (sN m g)
 have k := k.keep h (sN k g)
 have hb := below_step1 hb h hb.size zx
 refine zB (a _ _ (wp_ret (retC rfl hd (zA hN rfl) agg30 rfl b ⟨_, rfl, ?_⟩)))
 obtain ⟨D, hM, hT⟩ := sch_mkL (L := w.heap.size) (B := l.heap.size) c j m k zx zx zx zx zx zx zx zx
 exact ⟨hb, _, D, rfl, hM, hT⟩

set_option maxHeartbeats 8000000 in
theorem selected_ret {base p n Bp : Nat} {lv : Value} {bl : List UInt8} {tv : Value} {D : List DTab} {Ls Bs r : Nat} {w : World} (hpk : PickR w base p lv bl n (fun k => k = p)) (hBp : Bp ≤ p) (hbl : RdC w 0 Bp 1 lv bl.length (bl.map u8v)) (hT : TsFr w Ls Bs tv D) (hM : D.map DTab.t = schT) (hBs : Bs ≤ w.heap.size) (hsp : p < Ls ∨ Bs ≤ p) (hr : r < D.length) : Ret Tryz.prog 19 #[(ptr p 0), (.agg #[tv, (.slice none 0 0)]), (.agg #[(.string (bs (D.getD r default).t.nm)), (D.getD r default).cv, (D.getD r default).iv])] w (fun v' w' => Gr w w' (fun k => k = p) ∧ ∃ s : XS, v' = (.agg #[(.int .i64 s.f.kind), (.string (bs s.f.tb)), (.string (bs s.f.nm)), s.f.cv, s.f.gv, s.f.vv, s.f.iv, (.string (bs s.f.join)), s.f.ov, s.f.wv, s.f.rv, (.bool s.f.desc), s.nv]) ∧ SFr w' w.heap.size w'.heap.size s ∧ ∃ n' : Nat, PickR w' base p lv bl n' (fun k => k = p) ∧ n ≤ n') := by
 have hi_p : p < w.heap.size := (hpk.lt p rfl).2
 obtain ⟨c, a⟩ := sch_3 hM
 have hR := hT.1
 have htcr := (hT.2 (D.getD r default) (getD_mem zx)).1
 have hlr : (D.getD r default).t.cols.length = 3 := a _ (getD_mem zx)
 have hlcr : (colsOf (D.getD r default).t.nm (D.getD r default).t.cols).length = 3 := by rw [cols_len, hlr]
 have hlkr : (kindsOf (D.getD r default).t.cols).length = 3 := by rw [kinds_len, hlr]
 have c := (hT.2 (D.getD 0 default) (getD_mem zx)).1
 have g : (D.getD 0 default).t.cols.length = 3 := a _ (getD_mem zx)
 have l : (colsOf (D.getD 0 default).t.nm (D.getD 0 default).t.cols).length = 3 := by rw [cols_len, g]
 have o : (kindsOf (D.getD 0 default).t.cols).length = 3 := by rw [kinds_len, g]
 have q := (hT.2 (D.getD 1 default) (getD_mem zx)).1
 have t : (D.getD 1 default).t.cols.length = 3 := a _ (getD_mem zx)
 have a : (colsOf (D.getD 1 default).t.nm (D.getD 1 default).t.cols).length = 3 := by rw [cols_len, t]
 have y : (kindsOf (D.getD 1 default).t.cols).length = 3 := by rw [kinds_len, t]
 have hb := Gr.refl w (fun k => k = p)
 refine enter (N := 173) Tryz.func19 rfl rfl (by simp) fun z hN hd hA => ?_
 have A : z.tmps.getD 0 undef = (ptr p 0) := hA 0 (by simp)
 have B : z.tmps.getD 1 undef = (.agg #[tv, (.slice none 0 0)]) := hA 1 (by simp)
 have F : z.tmps.getD 2 undef = (.agg #[(.string (bs (D.getD r default).t.nm)), (D.getD r default).cv, (D.getD r default).iv]) := hA 2 (by simp)
 clear hA
 have c_hbl : ∀ k, (fun k => k = p) k → k < 0 ∨ Bp ≤ k := fun k hk => .inr (by have := hpk.lt k hk; omega)
 have c_hT : ∀ k, (fun k => k = p) k → k < Ls ∨ Bs ≤ k := fun k hk => by have h9 : k = p := hk; omega
 have c_hR : ∀ k, (fun k => k = p) k → k < Ls ∨ Bs ≤ k := fun k hk => by have h9 : k = p := hk; omega
 have c_htcr : ∀ k, (fun k => k = p) k → k < Ls ∨ Bs ≤ k := fun k hk => by have h9 : k = p := hk; omega
 have z : ∀ k, (fun k => k = p) k → k < Ls ∨ Bs ≤ k := fun k hk => by have h9 : k = p := hk; omega
 have H : ∀ k, (fun k => k = p) k → k < Ls ∨ Bs ≤ k := fun k hk => by have h9 : k = p := hk; omega
 refine zF fun _ I => zH (op_box (cs := [tv, (.slice none 0 0)]) (zC hN rfl B) rfl ?_)
 intro L J O P B M
 have O : ¬ (fun k => k = p) J := fun hf => by have := (hpk.lt _ hf).2; omega
 obtain ⟨hb, _⟩ := yG hb M
 have hpk := hpk.kz M
 refine op_box (cs := [(.string (bs (D.getD r default).t.nm)), (D.getD r default).cv, (D.getD r default).iv]) (zC hN rfl F) rfl ?_
 intro Q M S R F P
 have Q : ¬ (fun k => k = p) M := fun hf => by have := (hpk.lt _ hf).2; omega
 obtain ⟨hb, _⟩ := yG hb P
 have hpk := hpk.kz P
 refine op_alloc (cs := [(.int .i64 0), (.string (bs [])), (.string (bs [])), (.slice none 0 0), (.slice none 0 0), (.slice none 0 0), (.slice none 0 0), (.string (bs [])), (.slice none 0 0), (.slice none 0 0), (.slice none 0 0), (.bool false), (.slice none 0 0)]) zero37 rfl ?_
 intro V S W U R T
 have U : ¬ (fun k => k = p) S := fun hf => by have := (hpk.lt _ hf).2; omega
 obtain ⟨hb, _⟩ := yG hb T
 have hpk := hpk.kz T
 have F := F.keep0 T
 refine zB (I _ _ (zF fun _ I => zH (zM fld51_0 (zA hN rfl) (zN one9 (zA hN rfl) (F.cell rfl) (zf (pv := [(0, (.int .i64 6)), (1, (.string (bs (D.getD r default).t.nm)))]) (v := (Value.agg #[(.int .i64 6), (.string (bs (D.getD r default).t.nm)), (.string (bs [])), (.slice none 0 0), (.slice none 0 0), (.slice none 0 0), (.slice none 0 0), (.string (bs [])), (.slice none 0 0), (.slice none 0 0), (.slice none 0 0), (.bool false), (.slice none 0 0)])) ⟨rfl, rfl, ⟨rfl, (zA hN rfl), trivial⟩⟩ zy (op_alloc (cs := [(.int .i64 0), (.string (bs [])), (.string (bs [])), (.slice none 0 0), (.slice none 0 0), (.slice none 0 0), (.slice none 0 0), (.string (bs [])), (.slice none 0 0), (.slice none 0 0), (.slice none 0 0), (.bool false), (.slice none 0 0)]) zero37 rfl ?_))))))
 intro Z W aa Y V X
 have Y : ¬ (fun k => k = p) W := fun hf => by have := (hpk.lt _ hf).2; omega
 obtain ⟨hb, _⟩ := yG hb X
 have B := ((B.keep0 P).keep0 T).keep0 X
 have F := F.keep0 X
 have P := V
 refine zZ size37 (zA hN rfl) (zA hN rfl) rfl rfl V rfl ?_
 intro T V Z
 have := Z.size
 have hpk := (hpk.kz X).keepG (Gr.of Z) (Dj.one Y)
 have B := B.keep Z (sN B P)
 have F := F.keep Z (sN F P)
 have hb := hb.step1 Z zx
 refine zB (I _ _ (zF fun _ I => zH (zY agg51 rfl (zA hN rfl) F ?_)))
 have htcr' := htcr.keepG hb c_htcr
 refine zj ok42 (Cols_own (nm := ((D.getD r default).t.nm)) zx (htcr'.mono (Nat.zero_le _) zx)) ⟨(zA hN rfl), trivial⟩ ?_
 rintro _ af ⟨ac, ad, ae, rfl, aa, ab⟩
 have ag : Dj (fun k => k = p) (Bl ad) := Dj.fresh (fun k hk => (hpk.lt k hk).2) (fun k hk => (aa.lt k hk).1)
 have ah : Dj (fun k => k = p) (Bl ae) := Dj.fresh (fun k hk => (hpk.lt k hk).2) (fun k hk => (ab.lt k hk).1)
 have ac := zQ ac
 obtain ⟨hb, _⟩ := yG hb ac
 have hpk := hpk.kz ac
 obtain ⟨B, F⟩ := kb2 ac B F
 have R := ((R.keep0 X).keep Z sB).keep0 ac
 have V := V.keep0 ac
 refine zG (zA hN rfl) (zW (zA hN rfl) rfl (zW (zA hN rfl) rfl (zD (zA hN rfl) (zD (zA hN rfl) (zB (I _ _ (seq_join1 (N := 173) (fun az_ w' => ∃ (Z : List UInt8) (X aj ai : Value) (ac : List XE) (C9 : List PItm) (K9 : List Int) (B9 n9 : Nat), (Sl az_ 0 (ptr p 0)) ∧ (Sl az_ 6 (ptr S 0)) ∧ (Sl az_ 7 (ptr W 0)) ∧ (Sl az_ 8 aj) ∧ (Sl az_ 9 ai) ∧ (C9.length ≤ 6) ∧ (B9 ≤ w'.heap.size) ∧ (w.heap.size ≤ B9) ∧ (n ≤ n9) ∧ (Gr w w' (fun k => k = p)) ∧ (af.heap.size ≤ w'.heap.size) ∧ (Bx w' J 30 [tv, (.slice none 0 0)]) ∧ (Bx w' M 51 [(.string (bs (D.getD r default).t.nm)), (D.getD r default).cv, (D.getD r default).iv]) ∧ (Bx w' S 37 [(.int .i64 0), (.string (bs [])), (.string (bs [])), (.slice none 0 0), (.slice none 0 0), (.slice none 0 0), (.slice none 0 0), (.string (bs [])), (.slice none 0 0), (.slice none 0 0), (.slice none 0 0), (.bool false), (.slice none 0 0)]) ∧ (RdC w' T.heap.size B9 3 aj C9.length (C9.flatMap cellsI)) ∧ (RdC w' T.heap.size B9 1 ai K9.length (K9.map (Value.int .i64))) ∧ (Bx w' W 37 [(.int .i64 6), (.string (bs (D.getD r default).t.nm)), (.string (bs [])), (.slice none 0 0), (.slice none 0 0), (.slice none 0 0), (.slice none 0 0), (.string (bs Z)), X, (.slice none 0 0), (.slice none 0 0), (.bool false), (.slice none 0 0)]) ∧ (PickR w' base p lv bl n9 (fun k => k = p)) ∧ (XsFr w' T.heap.size B9 X ac)) (fun ak => ?_) ?_)))))))
 ·
  refine zF fun _ I => zF fun _ J1 => zH (zG (zC hN rfl A) ?_)
  have hbl' := hbl.keepG hb c_hbl
  refine zj ok15 (Num_ret (m := 4) hpk zx hbl' zx zx) ⟨(zA hN rfl), ⟨rfl, trivial⟩⟩ ?_
  rintro _ an ⟨al, ap, rfl, ao, am, af, aq, ar⟩
  have := al.size
  have B := B.keepG al O
  have F := F.keepG al Q
  have R := R.keepG al U
  have V := V.keepG al Y
  have aa := aa.keepG al ag.symm
  have ab := ab.keepG al ah.symm
  have hb := hb.stepF al (fun _ _ h => h)
  refine op_eql (zA hN rfl) rfl (fun al => ?_) (fun al => ?_)
  ·
   refine zB (J1 _ _ (wp_cond_true (zA hN rfl) (zF fun _ J1 => zH (zM fld30_0 (zA hN rfl) (zN one27 (zA hN rfl) (B.cell rfl) ?_)))))
   have hR' := hR.keepG hb c_hR
   refine zh slt27 (zA hN rfl) hR' rfl zx zx ?_
   intro ao aq ar ap al
   refine zX (cs := [(.string (bs (D.getD 0 default).t.nm)), (D.getD 0 default).cv, (D.getD 0 default).iv]) agg51 rfl (zA hN rfl) (fun j u hu => al j u (by have := (List.getElem?_eq_some_iff.1 hu).1; simpa using this) ((el_dt (i := 0) zx zx) j u hu)) (op_alloc (cs := [(.string (bs [])), (.slice none 0 0), (.slice none 0 0)]) zero51 rfl ?_)
   intro aq ap ar au al ao
   have aq : ¬ (fun k => k = p) ap := fun hf => by have := (af.lt _ hf).2; omega
   obtain ⟨hb, _⟩ := yG hb ao
   obtain ⟨B, R, V⟩ := kb3 ao B R V
   have ar := al
   have hT' := hT.keepG hb c_hT
   refine zZ size51 (zA hN rfl) (zA hN rfl) rfl (by simp only [yA, yB, yC, yD, (hT'.2 (D.getD 0 default) (getD_mem zx)).1.one, (hT'.2 (D.getD 0 default) (getD_mem zx)).2.one]; try rfl) al rfl ?_
   intro aw al au
   have := au.size
   have B := B.keep au (sN B ar)
   have F := (F.keep0 ao).keep au sB
   have R := R.keep au (sN R ar)
   have V := V.keep au (sN V ar)
   have aa := (aa.keep0 ao).keepX ar au zz
   have ab := (ab.keep0 ao).keepX ar au zz
   have af := (af.kz ao).keepG (Gr.of au) (Dj.one aq)
   have hb := hb.step1 au zx
   refine zB (J1 _ _ (seq_join1 (N := 173) (fun az_ w' => ∃ (o9 : Nat), (Sl az_ 0 (ptr p 0)) ∧ (Sl az_ 6 (ptr S 0)) ∧ (Sl az_ 7 (ptr W 0)) ∧ (Sl az_ 8 ad) ∧ (Sl az_ 9 ae) ∧ (Sl az_ 10 (ptr ap 0)) ∧ (o9 < D.length) ∧ ((D.getD o9 default).t.cols.length = 3) ∧ ((colsOf (D.getD o9 default).t.nm (D.getD o9 default).t.cols).length = 3) ∧ ((kindsOf (D.getD o9 default).t.cols).length = 3) ∧ (Gr w w' (fun k => k = p)) ∧ (aw.heap.size ≤ w'.heap.size) ∧ (Bx w' J 30 [tv, (.slice none 0 0)]) ∧ (Bx w' M 51 [(.string (bs (D.getD r default).t.nm)), (D.getD r default).cv, (D.getD r default).iv]) ∧ (Bx w' S 37 [(.int .i64 0), (.string (bs [])), (.string (bs [])), (.slice none 0 0), (.slice none 0 0), (.slice none 0 0), (.slice none 0 0), (.string (bs [])), (.slice none 0 0), (.slice none 0 0), (.slice none 0 0), (.bool false), (.slice none 0 0)]) ∧ (Bx w' W 37 [(.int .i64 6), (.string (bs (D.getD r default).t.nm)), (.string (bs [])), (.slice none 0 0), (.slice none 0 0), (.slice none 0 0), (.slice none 0 0), (.string (bs [])), (.slice none 0 0), (.slice none 0 0), (.slice none 0 0), (.bool false), (.slice none 0 0)]) ∧ (Own w' T.heap.size 94 3 ad (colsOf ((D.getD r default).t.nm) ((D.getD r default).t.cols)).length ((colsOf ((D.getD r default).t.nm) ((D.getD r default).t.cols)).flatMap cellsI)) ∧ (Own w' T.heap.size 3 1 ae (kindsOf ((D.getD r default).t.cols)).length ((kindsOf ((D.getD r default).t.cols)).map (Value.int .i64))) ∧ (PickR w' base p lv bl am (fun k => k = p)) ∧ (Bx w' ap 51 [(.string (bs (D.getD o9 default).t.nm)), (D.getD o9 default).cv, (D.getD o9 default).iv]) ∧ (RdC w' Ls Bs 3 (D.getD o9 default).cv ((D.getD o9 default).t.cols).length (((D.getD o9 default).t.cols).flatMap cellsC))) (fun ao => ?_) ?_))
   ·
    refine zF fun _ J1 => zF fun _ J2 => zH (zM fld51_0 (zA hN rfl) (zN one9 (zA hN rfl) (F.cell rfl) (op_seql (zA hN rfl) rfl (fun ap => ?_) (fun ap => ?_))))
    ·
     refine zB (J2 _ _ (wp_cond_true (zA hN rfl) (zH (zM fld30_0 (zA hN rfl) (zN one27 (zA hN rfl) (B.cell rfl) ?_)))))
     have hR' := hR.keepG hb c_hR
     refine zh slt27 (zA hN rfl) hR' rfl zx zx ?_
     intro ay ax au aw ap
     refine zX (cs := [(.string (bs (D.getD 1 default).t.nm)), (D.getD 1 default).cv, (D.getD 1 default).iv]) agg51 rfl (zA hN rfl) (fun j u hu => ap j u (by have := (List.getElem?_eq_some_iff.1 hu).1; simpa using this) ((el_dt (i := 1) zx zx) j u hu)) ?_
     have ar := al
     have hT' := hT.keepG hb c_hT
     refine zZ size51 (zA hN rfl) (zA hN rfl) rfl (by simp only [yA, yB, yC, yD, (hT'.2 (D.getD 1 default) (getD_mem zx)).1.one, (hT'.2 (D.getD 1 default) (getD_mem zx)).2.one]; try rfl) al rfl ?_
     intro au al ap
     have := ap.size
     have B := B.keep ap (sN B ar)
     have F := F.keep ap sB
     have R := R.keep ap (sN R ar)
     have V := V.keep ap (sN V ar)
     have aa := aa.keepX ar ap zz
     have ab := ab.keepX ar ap zz
     have af := af.keepG (Gr.of ap) (Dj.one aq)
     have hb := hb.step1 ap zx
     refine zB (J1 _ _ ?_)
     have ap := q.keepG hb H
     exact ao _ _ _ hN hd ⟨1, (zL hN rfl A), (zU hN rfl), (zU hN rfl), (zU hN rfl), (zU hN rfl), (zU hN rfl), zx, t, a, y, hb, zx, B, F, R, V, aa, ab, af, al, ap⟩
    refine zB (J2 _ _ (wp_cond_false (zA hN rfl) (wp_skip (J1 _ _ ?_))))
    have a := c.keepG hb z
    exact ao _ _ _ hN hd ⟨0, (zL hN rfl A), (zU hN rfl), (zU hN rfl), (zU hN rfl), (zU hN rfl), (zU hN rfl), zx, g, l, o, hb, zx, B, F, R, V, aa, ab, af, al, a⟩
   rintro aq al a H ⟨o9, g, z, o, t, y, q, ap, au, aw, ao, hb, ar, B, F, R, V, aa, ab, af, c, l⟩
   have := hb.size
   refine zF fun _ J1 => zH (zM fld51_0 (zC a rfl q) (zN one9 (zA a rfl) (c.cell rfl) (zM fld37_7 (zC a rfl o) ?_)))
   have P := V
   refine za (vs := [(.string (bs (D.getD o9 default).t.nm))]) (cs' := [(.int .i64 6), (.string (bs (D.getD r default).t.nm)), (.string (bs [])), (.slice none 0 0), (.slice none 0 0), (.slice none 0 0), (.slice none 0 0), (.string (bs (D.getD o9 default).t.nm)), (.slice none 0 0), (.slice none 0 0), (.slice none 0 0), (.bool false), (.slice none 0 0)]) size9 (zA a rfl) (zA a rfl) rfl rfl rfl V (zI rfl) rfl ?_
   intro ao V al
   have := al.size
   have B := B.keep al (sN B P)
   have F := F.keep al (sN F P)
   have aa := aa.keepX P al zz
   have ab := ab.keepX P al zz
   have c := c.keep al (sN c P)
   have l := l.keep al sO
   have hb := hb.step1 al zx
   refine zB (J1 _ _ (zF fun _ J1 => zH (zY agg51 rfl (zC a rfl q) c (zj ok42 (Cols_ret (nm := ((D.getD o9 default).t.nm)) zx (l.mono (Nat.zero_le _) zx)) ⟨(zA a rfl), trivial⟩ ?_))))
   rintro _ ap ⟨c, aq, ar, rfl, l, q⟩
   have aq : ∀ k, ad.ownBlock = some k → k < ao.heap.size ∨ ap.heap.size ≤ k := fun k hk => .inl ((aa.lt k hk).2)
   have ar : ∀ k, ad.ownBlock = some k → k < ao.heap.size ∨ ap.heap.size ≤ k := fun k hk => .inl ((aa.lt k hk).2)
   have au : ∀ k, ae.ownBlock = some k → k < ao.heap.size ∨ ap.heap.size ≤ k := fun k hk => .inl ((ab.lt k hk).2)
   have c := zQ c
   obtain ⟨hb, _⟩ := yG hb c
   have aa := aa.keep0 c
   have af := (af.keepG (Gr.of al) (Dj.one Y)).kz c
   refine zG (zA a rfl) (zW (zA a rfl) rfl (zW (zA a rfl) rfl (zD (zA a rfl) (zD (zA a rfl) (zB (J1 _ _ (zF fun _ J1 => zH (zG (zC a rfl t) (zG (zA a rfl) ?_)))))))))
   have t := aa
   refine op_append slt34 (zA a rfl) t (zA a rfl) (Src.ofRd Tryz.underlying34 zz l (one_pi _)) (by unfold maxLen; omega) zx (by first | exact Nat.le_trans (by assumption) hb.size | (have := hb.size; omega)) ?_
   intro aw ay ao ap ax
   have az : Dj (fun k => k = p) (Bl aw) := Dj.step ax (fun k hk => (af.lt k hk).2) ag
   have := ap.size
   have ab := (ab.keep0 c).keepT t ap zz
   have af := af.keepG (Gr.of ap) ag
   have q := q.keep ap ar
   have hb := hb.stepO t ap zx
   have ao : Own ay T.heap.size 94 3 aw ((colsOf ((D.getD r default).t.nm) ((D.getD r default).t.cols)).length + (colsOf ((D.getD o9 default).t.nm) ((D.getD o9 default).t.cols)).length) ((((colsOf ((D.getD r default).t.nm) ((D.getD r default).t.cols)) ++ (colsOf ((D.getD o9 default).t.nm) ((D.getD o9 default).t.cols)))).flatMap cellsI) := by simpa [u8v, u16v, sv, cellsI] using ao
   refine zG (zC a rfl y) (zG (zA a rfl) ?_)
   have y := ab
   refine op_append slt83 (zA a rfl) y (zA a rfl) (Src.ofRd Tryz.underlying83 zz q (one_i64 _)) (by unfold maxLen; omega) zx (by first | exact Nat.le_trans (by assumption) hb.size | (have := hb.size; omega)) ?_
   intro ar ay q ag ax
   have aB : Dj (fun k => k = p) (Bl ar) := Dj.step ax (fun k hk => (af.lt k hk).2) ah
   have := ag.size
   have af := af.keepG (Gr.of ag) ah
   have hb := hb.stepO y ag zx
   have q : Own ay T.heap.size 3 1 ar ((kindsOf ((D.getD r default).t.cols)).length + (kindsOf ((D.getD o9 default).t.cols)).length) ((((kindsOf ((D.getD r default).t.cols)) ++ (kindsOf ((D.getD o9 default).t.cols)))).map (Value.int .i64)) := by simpa [u8v, u16v, sv, cellsI] using q
   refine zD (zA a rfl) (zD (zA a rfl) (zB (J1 _ _ (zF fun _ J1 => zH (zG (zC a rfl g) ?_)))))
   have hbl' := hbl.keepG hb c_hbl
   refine zj ok15 (Num_ret (m := 2) af zx hbl' zx zx) ⟨(zA a rfl), ⟨rfl, trivial⟩⟩ ?_
   rintro _ aG ⟨ah, ax, rfl, aC, aF, ay, aD, aE⟩
   have := ah.size
   have ao := (ao.keepT y ag zz).keepG ah az.symm
   have q := q.keepG ah aB.symm
   have hb := hb.stepF ah (fun _ _ h => h)
   refine op_add rfl (zA a rfl) (add64 zx) (zD (zA a rfl) (zB (J1 _ _ (zF fun _ J1 => zH (zG (zC a rfl g) (zG (zA a rfl) (zG (zA a rfl) (zG (zA a rfl) ?_))))))))
   have hbl' := hbl.keepG hb c_hbl
   refine zj ok43 (pcol_ret (k := (1 + ((ax : Nat) : Int))) ay zx hbl' (C := ((colsOf ((D.getD r default).t.nm) ((D.getD r default).t.cols)) ++ (colsOf ((D.getD o9 default).t.nm) ((D.getD o9 default).t.cols)))) (K := ((kindsOf ((D.getD r default).t.cols)) ++ (kindsOf ((D.getD o9 default).t.cols)))) (ao.rdw.cast (by simp) rfl) (q.rdw.cast (by simp) rfl) zx zx (by first | omega | (simp only [List.length_append]; omega))) ⟨(zA a rfl), ⟨(zA a rfl), ⟨(zA a rfl), ⟨(zA a rfl), trivial⟩⟩⟩⟩ ?_
   rintro _ aF ⟨aC, ay, aJ, rfl, aD, aI, aG, aE, aH⟩
   have := aC.size
   have hb := hb.stepF aC (fun _ _ h => h)
   refine zG (zA a rfl) (zW (zA a rfl) rfl (zW (zA a rfl) rfl (op_alloc (cs := [(.int .i64 0), (.int .i64 0), (.int .i64 0), (.string (bs [])), (.string (bs [])), (.string (bs [])), (.slice none 0 0)]) zero89 rfl ?_)))
   intro aJ aH aI aK aG aF
   have aI : ¬ (fun k => k = p) aH := fun hf => by have := (aE.lt _ hf).2; omega
   obtain ⟨hb, _⟩ := yG hb aF
   have B := (((((B.keep0 c).keepO t ap zz).keepO y ag zz).keepG ah O).keepG aC O).keep0 aF
   have F := (((((F.keep0 c).keepO t ap zz).keepO y ag zz).keepG ah Q).keepG aC Q).keep0 aF
   have R := ((((((R.keep al sB).keep0 c).keepO t ap zz).keepO y ag zz).keepG ah U).keepG aC U).keep0 aF
   have V := (((((V.keep0 c).keepO t ap zz).keepO y ag zz).keepG ah Y).keepG aC Y).keep0 aF
   have aD := aD.keep0 aF
   have c := aG
   refine zZ size89 (zA a rfl) (zA a rfl) rfl (by simp only [yA, yB, yC, yD, aD.list.1.one]; try rfl) aG rfl ?_
   intro y aG t
   have := t.size
   have B := B.keep t (sN B c)
   have F := F.keep t (sN F c)
   have R := R.keep t (sN R c)
   have V := V.keep t (sN V c)
   have ao := ((ao.keepG aC az.symm).keep0 aF).keepX c t zz
   have q := ((q.keepG aC aB.symm).keep0 aF).keepX c t zz
   have aE := (aE.kz aF).keepG (Gr.of t) (Dj.one aI)
   have hb := hb.step1 t zx
   refine zD (zA a rfl) (zB (J1 _ _ (zF fun _ J1 => zH (zG (zC a rfl g) (zG (zA a rfl) (zG (zA a rfl) (zG (zA a rfl) ?_)))))))
   have hbl' := hbl.keepG hb c_hbl
   refine zj ok43 (pcol_ret (k := (1 + ((ax : Nat) : Int))) aE zx hbl' (C := ((colsOf ((D.getD r default).t.nm) ((D.getD r default).t.cols)) ++ (colsOf ((D.getD o9 default).t.nm) ((D.getD o9 default).t.cols)))) (K := ((kindsOf ((D.getD r default).t.cols)) ++ (kindsOf ((D.getD o9 default).t.cols)))) (ao.rdw.cast (by simp) rfl) (q.rdw.cast (by simp) rfl) zx zx (by first | omega | (simp only [List.length_append]; omega))) ⟨(zA a rfl), ⟨(zA a rfl), ⟨(zA a rfl), ⟨(zA a rfl), trivial⟩⟩⟩⟩ ?_
   rintro _ aL ⟨y, c, aH, rfl, ax, aJ, aE, al, aK⟩
   have := y.size
   have hb := hb.stepF y (fun _ _ h => h)
   refine zG (zA a rfl) (zW (zA a rfl) rfl (zW (zA a rfl) rfl (op_alloc (cs := [(.int .i64 0), (.int .i64 0), (.int .i64 0), (.string (bs [])), (.string (bs [])), (.string (bs [])), (.slice none 0 0)]) zero89 rfl ?_)))
   intro aN aK aL aM aJ aH
   have aL : ¬ (fun k => k = p) aK := fun hf => by have := (al.lt _ hf).2; omega
   obtain ⟨hb, _⟩ := yG hb aH
   have B := (B.keepG y O).keep0 aH
   have F := (F.keepG y Q).keep0 aH
   have R := (R.keepG y U).keep0 aH
   have V := (V.keepG y Y).keep0 aH
   have l := (((((((l.keep ap aq).keep ag au).keepG ah sP).keepG aC sP).keep0 aF).keep t sO).keepG y sP).keep0 aH
   have ax := ax.keep0 aH
   have ag := aJ
   refine zZ size89 (zA a rfl) (zA a rfl) rfl (by simp only [yA, yB, yC, yD, ax.list.1.one]; try rfl) aJ rfl ?_
   intro ap aJ ah
   have := ah.size
   have B := B.keep ah (sN B ag)
   have F := F.keep ah (sN F ag)
   have R := R.keep ah (sN R ag)
   have V := V.keep ah (sN V ag)
   have aG := ((aG.keepG y aI).keep0 aH).keep ah sB
   have al := (al.kz aH).keepG (Gr.of ah) (Dj.one aL)
   have hb := hb.step1 ah zx
   refine zD (zA a rfl) (zB (J1 _ _ (zH (zY agg89 rfl (zA a rfl) aG (zY agg89 rfl (zA a rfl) aJ (op_bslice (e := 89) (pv := [(0, (.agg #[(.int .i64 ay.op), (.int .i64 ay.vk), (.int .i64 ay.vi), (.string (bs ay.vt)), (.string (bs ay.tb)), (.string (bs ay.nm)), ay.av])), (1, (.agg #[(.int .i64 c.op), (.int .i64 c.vk), (.int .i64 c.vi), (.string (bs c.vt)), (.string (bs c.tb)), (.string (bs c.nm)), c.av]))]) (cs := [(.int .i64 ay.op), (.int .i64 ay.vk), (.int .i64 ay.vi), (.string (bs ay.vt)), (.string (bs ay.tb)), (.string (bs ay.nm)), ay.av, (.int .i64 c.op), (.int .i64 c.vk), (.int .i64 c.vi), (.string (bs c.vt)), (.string (bs c.tb)), (.string (bs c.nm)), c.av]) ⟨rfl, (zA a rfl), ⟨rfl, (zA a rfl), trivial⟩⟩ zy ?_))))))
   intro aG au aC aF aq ap
   have aC : ¬ (fun k => k = p) au := fun hf => by have := (al.lt _ hf).2; omega
   obtain ⟨hb, _⟩ := yG hb ap
   obtain ⟨B, F, V⟩ := kb3 ap B F V
   refine zM fld37_8 (zC a rfl o) ?_
   have P := V
   refine za (vs := [(.slice (some ⟨au, 0, none⟩) 2 2)]) (cs' := [(.int .i64 6), (.string (bs (D.getD r default).t.nm)), (.string (bs [])), (.slice none 0 0), (.slice none 0 0), (.slice none 0 0), (.slice none 0 0), (.string (bs (D.getD o9 default).t.nm)), (.slice (some ⟨au, 0, none⟩) 2 2), (.slice none 0 0), (.slice none 0 0), (.bool false), (.slice none 0 0)]) size33 (zA a rfl) (zA a rfl) rfl rfl rfl V (zI rfl) rfl ?_
   intro aF V aC
   have := aC.size
   have B := B.keep aC (sN B P)
   have F := F.keep aC (sN F P)
   have R := (R.keep0 ap).keep aC sB
   have l := ((l.keep ah sO).keep0 ap).keep aC sO
   have ao := ((((ao.keepG y az.symm).keep0 aH).keepX ag ah zz).keep0 ap).keepX P aC zz
   have q := ((((q.keepG y aB.symm).keep0 aH).keepX ag ah zz).keep0 ap).keepX P aC zz
   have aD := (((((aD.keep t sO).keepG y sP).keep0 aH).keep ah sO).keep0 ap).keep aC sO
   have al := (al.kz ap).keepG (Gr.of aC) (Dj.one Y)
   have ax := ((ax.keep ah sO).keep0 ap).keep aC sO
   have aq := aq.keep aC (sN aq P)
   have hb := hb.step1 aC zx
   refine zB (I _ _ ?_)
   exact ak _ _ _ a H ⟨(D.getD o9 default).t.nm, (.slice (some ⟨au, 0, none⟩) 2 2), aw, ar, [ay, c], ((colsOf ((D.getD r default).t.nm) ((D.getD r default).t.cols)) ++ (colsOf ((D.getD o9 default).t.nm) ((D.getD o9 default).t.cols))), ((kindsOf ((D.getD r default).t.cols)) ++ (kindsOf ((D.getD o9 default).t.cols))), aF.heap.size, aE, (zL a rfl g), (zL a rfl z), (zL a rfl o), (zU a rfl), (zU a rfl), (by first | omega | (simp only [List.length_append]; omega)), (Nat.le_refl _), zx, zx, hb, zx, B, F, R, (ao.rdw.cast (by simp) rfl), (q.rdw.cast (by simp) rfl), V, al, (XsFr.lit2 (x := ay) (x2 := c) aq zx aq.lt (aD.mono zx zx) (ax.mono zx zx))⟩
  refine zB (J1 _ _ (wp_cond_false (zA hN rfl) (wp_skip (I _ _ ?_))))
  exact ak _ _ _ hN hd ⟨[], (.slice none 0 0), ad, ae, [], (colsOf ((D.getD r default).t.nm) ((D.getD r default).t.cols)), (kindsOf ((D.getD r default).t.cols)), an.heap.size, am, (zL hN rfl A), (zU hN rfl), (zU hN rfl), (zU hN rfl), (zU hN rfl), (by first | omega | (simp only [List.length_append]; omega)), (Nat.le_refl _), zx, zx, hb, zx, B, F, R, (aa.rdw.cast (by simp) rfl), (ab.rdw.cast (by simp) rfl), V, af, (XsFr.nil _ _ _)⟩
 rintro ab A c P ⟨Z, X, aj, ai, ac, C9, K9, B9, n9, q, H, t, y, z, aa, F, V, ad, hb, ae, B, F, R, g, l, o, hpk, a⟩
 have := hb.size
 refine zF fun _ I => zH (zG (zC c rfl q) (zG (zC c rfl y) (zG (zC c rfl z) ?_)))
 have hbl' := hbl.keepG hb c_hbl
 refine zj ok44 (pwhere_ret hpk zx hbl' (C := C9) (K := K9) g l zx zx (by first | omega | (simp only [List.length_append]; omega))) ⟨(zA c rfl), ⟨(zA c rfl), ⟨(zA c rfl), trivial⟩⟩⟩ ?_
 rintro aa af ⟨ad, ab, V, ah, ae, ag⟩
 have hpk_old := hpk
 have := ad.size
 have B := B.keepG ad O
 have F := F.keepG ad Q
 have o := o.keepG ad Y
 have hb := hb.stepF ad (fun _ _ h => h)
 refine zM fld37_9 (zC c rfl t) ?_
 have ag := o
 refine za (vs := [aa]) (cs' := [(.int .i64 6), (.string (bs (D.getD r default).t.nm)), (.string (bs [])), (.slice none 0 0), (.slice none 0 0), (.slice none 0 0), (.slice none 0 0), (.string (bs Z)), X, aa, (.slice none 0 0), (.bool false), (.slice none 0 0)]) size33 (zA c rfl) (zA c rfl) V.1.cl rfl (by simp only [yA, yB, yC, yD, V.1.one]; try rfl) o (zI rfl) rfl ?_
 intro ak o ah
 have := ah.size
 have B := B.keep ah (sN B ag)
 have F := F.keep ah (sN F ag)
 have R := (R.keepG ad U).keep ah sB
 have g := (g.keepG ad sP).keep ah sO
 have l := (l.keepG ad sP).keep ah sO
 have a := (a.keepG ad sP).keep ah sO
 have ae := ae.keepG (Gr.of ah) (Dj.one Y)
 have V := V.keep ah sO
 have hb := hb.step1 ah zx
 refine zB (I _ _ (seq_join1 (N := 173) (fun az_ w' => ∃ (ad : Value) (I9 : List PItm) (B7 n7 : Nat), (Sl az_ 0 (ptr p 0)) ∧ (Sl az_ 6 (ptr S 0)) ∧ (Sl az_ 7 (ptr W 0)) ∧ (Sl az_ 8 aj) ∧ (Sl az_ 9 ai) ∧ (I9.length ≤ 1000) ∧ (B7 ≤ w'.heap.size) ∧ (w.heap.size ≤ B7) ∧ (n ≤ n7) ∧ (Gr w w' (fun k => k = p)) ∧ (ak.heap.size ≤ w'.heap.size) ∧ (Bx w' J 30 [tv, (.slice none 0 0)]) ∧ (Bx w' M 51 [(.string (bs (D.getD r default).t.nm)), (D.getD r default).cv, (D.getD r default).iv]) ∧ (Bx w' S 37 [(.int .i64 0), (.string (bs [])), (.string (bs [])), (.slice none 0 0), (.slice none 0 0), (.slice none 0 0), (.slice none 0 0), (.string (bs [])), (.slice none 0 0), (.slice none 0 0), (.slice none 0 0), (.bool false), (.slice none 0 0)]) ∧ (RdC w' T.heap.size B9 3 aj C9.length (C9.flatMap cellsI)) ∧ (RdC w' T.heap.size B9 1 ai K9.length (K9.map (Value.int .i64))) ∧ (XsFr w' T.heap.size B9 X ac) ∧ (XsFr w' A.heap.size af.heap.size aa ab) ∧ (RdC w' T.heap.size B7 3 ad I9.length (I9.flatMap cellsI)) ∧ (Bx w' W 37 [(.int .i64 6), (.string (bs (D.getD r default).t.nm)), (.string (bs [])), (.slice none 0 0), (.slice none 0 0), (.slice none 0 0), ad, (.string (bs Z)), X, aa, (.slice none 0 0), (.bool false), (.slice none 0 0)]) ∧ (PickR w' base p lv bl n7 (fun k => k = p))) (fun ah => ?_) ?_))
 ·
  refine zF fun _ I => zF fun _ J1 => zH (zG (zC c rfl q) ?_)
  have hbl' := hbl.keepG hb c_hbl
  refine zj ok15 (Num_ret (m := 4) ae zx hbl' zx zx) ⟨(zA c rfl), ⟨rfl, trivial⟩⟩ ?_
  rintro _ am ⟨ae, ao, rfl, ap, al, ak, aq, an⟩
  have := ae.size
  have B := B.keepG ae O
  have F := F.keepG ae Q
  have R := R.keepG ae U
  have g := g.keepG ae sP
  have l := l.keepG ae sP
  have a := a.keepG ae sP
  have V := V.keepG ae sP
  have o := o.keepG ae Y
  have hb := hb.stepF ae (fun _ _ h => h)
  refine zB (J1 _ _ (wp_block (zF fun _ J1 => zH (op_eql (zA c rfl) rfl (fun ae => ?_) (fun ae => ?_)))))
  ·
   refine zD (zA c rfl) (zB (J1 _ _ (wp_cond_true (zA c rfl) (zF fun _ J1 => zH (zf (pv := [(0, (.int .i64 1))]) (v := (Value.agg #[(.int .i64 1), (.string (bs [])), (.string (bs []))])) ⟨rfl, rfl, trivial⟩ zy (op_bslice (e := 94) (pv := [(0, (.agg #[(.int .i64 1), (.string (bs [])), (.string (bs []))]))]) (cs := [(.int .i64 1), (.string (bs [])), (.string (bs []))]) ⟨rfl, (zA c rfl), trivial⟩ zy ?_))))))
   intro ap an aq ar ao ae
   have ap : ¬ (fun k => k = p) an := fun hf => by have := (ak.lt _ hf).2; omega
   obtain ⟨hb, _⟩ := yG hb ae
   have o := o.keep0 ae
   obtain ⟨B, F⟩ := kb2 ae B F
   refine zM fld37_6 (zC c rfl t) ?_
   have ag := o
   refine za (vs := [(.slice (some ⟨an, 0, none⟩) 1 1)]) (cs' := [(.int .i64 6), (.string (bs (D.getD r default).t.nm)), (.string (bs [])), (.slice none 0 0), (.slice none 0 0), (.slice none 0 0), (.slice (some ⟨an, 0, none⟩) 1 1), (.string (bs Z)), X, aa, (.slice none 0 0), (.bool false), (.slice none 0 0)]) size34 (zA c rfl) (zA c rfl) rfl rfl rfl o (zI rfl) rfl ?_
   intro ar o aq
   have := aq.size
   have B := B.keep aq (sN B ag)
   have F := F.keep aq (sN F ag)
   have ak := (ak.kz ae).keepG (Gr.of aq) (Dj.one Y)
   have ao := ao.keep aq (sN ao ag)
   have hb := hb.step1 aq zx
   refine zB (J1 _ _ (zF fun _ J1 => zF fun _ J2 => zH (zG (zC c rfl q) ?_)))
   have hbl' := hbl.keepG hb c_hbl
   refine zj ok15 (Num_ret (m := 3) ak zx hbl' zx zx) ⟨(zA c rfl), ⟨rfl, trivial⟩⟩ ?_
   rintro _ au ⟨ag, az, rfl, ax, aw, ar, ay, aB⟩
   have := ag.size
   have B := B.keepG ag O
   have F := F.keepG ag Q
   have R := ((R.keep0 ae).keep aq sB).keepG ag U
   have g := ((g.keep0 ae).keep aq sO).keepG ag sP
   have l := ((l.keep0 ae).keep aq sO).keepG ag sP
   have a := ((a.keep0 ae).keep aq sO).keepG ag sP
   have V := ((V.keep0 ae).keep aq sO).keepG ag sP
   have ao := ao.keepG ag ap
   have o := o.keepG ag Y
   have hb := hb.stepF ag (fun _ _ h => h)
   refine zD (zA c rfl) (zB (J2 _ _ (wp_block (loop_m (fun mz_ az_ w' => ∃ (i n2 : Nat) (ae : Value) (I2 : List PItm), mz_ = (i + 1) ∧ (Sl az_ 0 (ptr p 0)) ∧ (Sl az_ 6 (ptr S 0)) ∧ (Sl az_ 7 (ptr W 0)) ∧ (Sl az_ 8 aj) ∧ (Sl az_ 9 ai) ∧ (Sl az_ 18 (.int .i64 ((i : Nat) : Int))) ∧ (I2.length + i ≤ 3) ∧ (n ≤ n2) ∧ (Gr w w' (fun k => k = p)) ∧ (au.heap.size ≤ w'.heap.size) ∧ (Bx w' J 30 [tv, (.slice none 0 0)]) ∧ (Bx w' M 51 [(.string (bs (D.getD r default).t.nm)), (D.getD r default).cv, (D.getD r default).iv]) ∧ (Bx w' S 37 [(.int .i64 0), (.string (bs [])), (.string (bs [])), (.slice none 0 0), (.slice none 0 0), (.slice none 0 0), (.slice none 0 0), (.string (bs [])), (.slice none 0 0), (.slice none 0 0), (.slice none 0 0), (.bool false), (.slice none 0 0)]) ∧ (RdC w' T.heap.size B9 3 aj C9.length (C9.flatMap cellsI)) ∧ (RdC w' T.heap.size B9 1 ai K9.length (K9.map (Value.int .i64))) ∧ (XsFr w' T.heap.size B9 X ac) ∧ (XsFr w' A.heap.size af.heap.size aa ab) ∧ (Bx w' W 37 [(.int .i64 6), (.string (bs (D.getD r default).t.nm)), (.string (bs [])), (.slice none 0 0), (.slice none 0 0), (.slice none 0 0), ae, (.string (bs Z)), X, aa, (.slice none 0 0), (.bool false), (.slice none 0 0)]) ∧ (PickR w' base p lv bl n2 (fun k => k = p)) ∧ (Own w' an 94 3 ae I2.length (I2.flatMap cellsI))) _ c P ⟨_, _, (.slice (some ⟨an, 0, none⟩) 1 1), [PItm.mk 1 [] []], rfl, (zL c rfl q), (zL c rfl H), (zL c rfl t), (zL c rfl y), (zL c rfl z), (zU c rfl), (by simp; omega), zx, hb, (Nat.le_refl _), B, F, R, g, l, a, V, o, ar, ((Own.ofBx (base := an) (sz := 3) (n := 1) ao rfl zz zx).cast rfl (by simp [cellsI]))⟩ ?_))))
   rintro _ aB aD ag ax ⟨i, n2, ae, I2, rfl, aq, ap, ar, aw, ay, au, hil, az, hb, aC, B, F, R, g, l, a, V, hxl, hpk, ao⟩
   have := hb.size
   refine zF fun _ J2 => zF fun _ J3 => zH (zG (zC ag rfl au) (op_gtr (zA ag rfl) rfl (fun aB => ?_) (fun aB => ?_)))
   ·
    refine zB (J3 _ _ (wp_cond_true (zA ag rfl) (wp_skip (J2 _ _ (zF fun _ J2 => wp_block (zF fun _ J3 => zH (zG (zC ag rfl aq) (zG (zC ag rfl aw) (zG (zC ag rfl ay) ?_)))))))))
    have hbl' := hbl.keepG hb c_hbl
    refine zj ok43 (pcol_ret (k := 1) hpk zx hbl' (C := C9) (K := K9) g l zx zx (by first | omega | (simp only [List.length_append]; omega))) ⟨(zA ag rfl), ⟨(zA ag rfl), ⟨(zA ag rfl), ⟨rfl, trivial⟩⟩⟩⟩ ?_
    rintro _ aH ⟨aC, aB, aJ, rfl, aE, aG, aF, aD, aI⟩
    have hpk_old := hpk
    have := aC.size
    have ao := ao.keepG aC (hpk_old.notOwn ao zz)
    have hb := hb.stepF aC (fun _ _ h => h)
    refine zG (zA ag rfl) (zW (zA ag rfl) rfl (zW (zA ag rfl) rfl (op_alloc (cs := [(.int .i64 0), (.int .i64 0), (.int .i64 0), (.string (bs [])), (.string (bs [])), (.string (bs [])), (.slice none 0 0)]) zero89 rfl ?_)))
    intro aJ aH aK aI aF aG
    have aI : ¬ (fun k => k = p) aH := fun hf => by have := (aD.lt _ hf).2; omega
    obtain ⟨hb, _⟩ := yG hb aG
    have B := (B.keepG aC O).keep0 aG
    have F := (F.keepG aC Q).keep0 aG
    have R := (R.keepG aC U).keep0 aG
    have hxl := (hxl.keepG aC Y).keep0 aG
    have aE := aE.keep0 aG
    have aJ := aF
    refine zZ size89 (zA ag rfl) (zA ag rfl) rfl (by simp only [yA, yB, yC, yD, aE.list.1.one]; try rfl) aF rfl ?_
    intro aK aF aE
    have := aE.size
    have B := B.keep aE (sN B aJ)
    have F := F.keep aE (sN F aJ)
    have R := R.keep aE (sN R aJ)
    have g := ((g.keepG aC sP).keep0 aG).keep aE sO
    have l := ((l.keepG aC sP).keep0 aG).keep aE sO
    have a := ((a.keepG aC sP).keep0 aG).keep aE sO
    have V := ((V.keepG aC sP).keep0 aG).keep aE sO
    have hxl := hxl.keep aE (sN hxl aJ)
    have ao := (ao.keep0 aG).keepX aJ aE zz
    have aD := (aD.kz aG).keepG (Gr.of aE) (Dj.one aI)
    have hb := hb.step1 aE zx
    refine zD (zA ag rfl) (zB (J3 _ _ ?_))
    skip
    refine reg_split (hd := [_, _, _, _, _, _, _, _, _, _, _, _]) (tl := _) 12 mixed zy rfl rfl (any_tree (φ := phiV [(fun uz => uz = (ptr W 6)), (fun uz => uz = ae), (fun uz => uz = (ptr p 0)), (fun _ => True), (fun _ => True), (fun uz => uz = (ptr aH 4)), (fun uz => uz = (.string (bs aB.tb))), (fun uz => uz = (ptr aH 5)), (fun uz => uz = (.string (bs aB.nm))), (fun _ => True), (fun _ => True), (fun _ => True)]) (G := fun w' => Bx w' W 37 [(.int .i64 6), (.string (bs (D.getD r default).t.nm)), (.string (bs [])), (.slice none 0 0), (.slice none 0 0), (.slice none 0 0), ae, (.string (bs Z)), X, aa, (.slice none 0 0), (.bool false), (.slice none 0 0)] ∧ Bx w' aH 89 [(.int .i64 aB.op), (.int .i64 aB.vk), (.int .i64 aB.vi), (.string (bs aB.vt)), (.string (bs aB.tb)), (.string (bs aB.nm)), aB.av]) [3, 4, 9, 10, 11] zy zy zy zy zy ag (fun L w2 E h => by obtain ⟨h0, h1⟩ := h; exact ⟨h0.keep0 E, h1.keep0 E⟩) ⟨hxl, aF⟩ (ObRs9.cons ?_ (ObRs9.cons ?_ (ObRs9.cons ?_ (ObRs9.pass rfl (ObRs9.pass rfl (ObRs9.cons ?_ (ObRs9.cons ?_ (ObRs9.cons ?_ (ObRs9.cons ?_ (ObRs9.pass rfl (ObRs9.pass rfl (ObRs9.pass rfl (ObRs9.nil))))))))))))) (by simp only [putsL_defers]) ?_)
    ·
     intro eA aA wA hNA hGA hbsA hdpA
     have aC := (hbsA 7 rfl).trans (zL ag rfl ar)
     refine zM fld37_6 (zC hNA rfl aC) ?_
     exact obT_end rfl rfl
    ·
     intro eA aA wA hNA hGA hbsA hdpA
     have aE : Sl aA 110 (ptr W 6) := (hdpA 0 _ 110 zy rfl rfl).2 rfl
     obtain ⟨hxl, aF⟩ := hGA
     refine zN one34 (zC hNA rfl aE) (hxl.cell rfl) ?_
     exact obT_end rfl rfl
    ·
     intro eA aA wA hNA hGA hbsA hdpA
     have aE := (hbsA 0 rfl).trans (zL ag rfl aq)
     refine zG (zC hNA rfl aE) ?_
     exact obT_end rfl rfl
    ·
     intro eA aA wA hNA hGA hbsA hdpA
     have aG := (hbsA 19 rfl).trans (zU ag rfl)
     refine zM fld89_2 (zC hNA rfl aG) ?_
     exact obT_end rfl rfl
    ·
     intro eA aA wA hNA hGA hbsA hdpA
     have aJ : Sl aA 115 (ptr aH 4) := (hdpA 5 _ 115 zy rfl rfl).2 rfl
     obtain ⟨hxl, aF⟩ := hGA
     refine zN one9 (zC hNA rfl aJ) (aF.cell rfl) ?_
     exact obT_end rfl rfl
    ·
     intro eA aA wA hNA hGA hbsA hdpA
     have aG := (hbsA 19 rfl).trans (zU ag rfl)
     refine zM fld89_3 (zC hNA rfl aG) ?_
     exact obT_end rfl rfl
    ·
     intro eA aA wA hNA hGA hbsA hdpA
     have aG : Sl aA 117 (ptr aH 5) := (hdpA 7 _ 117 zy rfl rfl).2 rfl
     obtain ⟨hxl, aF⟩ := hGA
     refine zN one9 (zC hNA rfl aG) (aF.cell rfl) ?_
     exact obT_end rfl rfl
    refine kt_step (rs := [3]) zy (one_mem ?_)
    intro aL aG _ aK aJ aM aH o_ ho_; obtain rfl := zE ho_
    obtain ⟨hb, _⟩ := yG hb aG
    have ao := ao.keep0 aG
    have aD := aD.kz aG
    have aL : Sl aK 112 (ptr p 0) := (aH 2 _ 112 zy rfl rfl).2 rfl
    have hbl' := hbl.keepG hb c_hbl
    refine zj ok15 (Num_ret (m := 3) aD zx hbl' zx zx) ⟨(zC aJ rfl aL), ⟨rfl, trivial⟩⟩ ?_
    rintro _ aO ⟨aJ, aK, rfl, aN, aL, aH, aM, aP⟩
    have aM := aD
    have := aJ.size
    have hxl := (hxl.keep0 aG).keepG aJ Y
    have ao := ao.keepG aJ (aM.notOwn ao zz)
    have aF := (aF.keep0 aG).keepG aJ aI
    have hb := hb.stepF aJ (fun _ _ h => h)
    refine kt_end rfl ⟨hxl, aF⟩ (kt_step (rs := [4]) zy (one_mem ?_))
    intro aP aD _ aI aN aO aM o_ ho_; obtain rfl := zE ho_
    obtain ⟨hb, _⟩ := yG hb aD
    obtain ⟨hxl, aF⟩ := kb2 aD hxl aF
    have aH := aH.kz aD
    have aO : Sl aI 113 (.int .i64 ((aK : Nat) : Int)) := (zE ((aM 3 _ 113 zy rfl rfl).1 rfl)).symm
    refine op_add rfl (zC aN rfl aO) (add64 zx) (kt_end rfl ⟨hxl, aF⟩ (kt_step (rs := [9]) zy (one_mem ?_)))
    intro aQ aI _ aO aM aP aN o_ ho_; obtain rfl := zE ho_
    obtain ⟨hb, _⟩ := yG hb aI
    obtain ⟨hxl, aF⟩ := kb2 aI hxl aF
    have aH := aH.kz aI
    have aP : Sl aO 114 (.int .i64 (2 + ((aK : Nat) : Int))) := (zE ((aN 4 _ 114 zy rfl rfl).1 rfl)).symm
    have aQ : Sl aO 116 (.string (bs aB.tb)) := (aN 6 _ 116 zy rfl rfl).2 rfl
    have aR : Sl aO 118 (.string (bs aB.nm)) := (aN 8 _ 118 zy rfl rfl).2 rfl
    refine zf (pv := [(0, (.int .i64 (2 + ((aK : Nat) : Int)))), (1, (.string (bs aB.tb))), (2, (.string (bs aB.nm)))]) (v := (Value.agg #[(.int .i64 (2 + ((aK : Nat) : Int))), (.string (bs aB.tb)), (.string (bs aB.nm))])) ⟨rfl, (zC aM rfl aP), ⟨rfl, (zC aM rfl aQ), ⟨rfl, (zC aM rfl aR), trivial⟩⟩⟩ zy (kt_end rfl ⟨hxl, aF⟩ (kt_step (rs := [10]) zy (one_mem ?_)))
    intro aR aM _ aO aP aQ aN o_ ho_; obtain rfl := zE ho_
    obtain ⟨hb, _⟩ := yG hb aM
    have aH := aH.kz aM
    have aQ : Sl aO 119 (.agg #[(.int .i64 (2 + ((aK : Nat) : Int))), (.string (bs aB.tb)), (.string (bs aB.nm))]) := (zE ((aN 9 _ 119 zy rfl rfl).1 rfl)).symm
    refine op_bslice (e := 94) (pv := [(0, (.agg #[(.int .i64 (2 + ((aK : Nat) : Int))), (.string (bs aB.tb)), (.string (bs aB.nm))]))]) (cs := [(.int .i64 (2 + ((aK : Nat) : Int))), (.string (bs aB.tb)), (.string (bs aB.nm))]) ⟨rfl, (zC aP rfl aQ), trivial⟩ zy ?_
    intro aQ aP aR aS aO aN
    have aQ : ¬ (fun k => k = p) aP := fun hf => by have := (aH.lt _ hf).2; omega
    obtain ⟨hb, _⟩ := yG hb aN
    have hxl := (hxl.keep0 aM).keep0 aN
    have aF := (aF.keep0 aM).keep0 aN
    have aH := aH.kz aN
    refine kt_end rfl ⟨hxl, aF⟩ (kt_step (rs := [11]) zy (one_mem ?_))
    intro aU aQ _ aS aT aV aR o_ ho_; obtain rfl := zE ho_
    obtain ⟨hb, _⟩ := yG hb aQ
    have ao := ((((ao.keep0 aD).keep0 aI).keep0 aM).keep0 aN).keep0 aQ
    have aH := aH.kz aQ
    have aO := aO.keep0 aQ
    have aU : Sl aS 111 ae := (aR 1 _ 111 zy rfl rfl).2 rfl
    have aV : Sl aS 120 (.slice (some ⟨aP, 0, none⟩) 1 1) := (zE ((aR 10 _ 120 zy rfl rfl).1 rfl)).symm
    have aP := ao
    refine op_append slt34 (zC aT rfl aU) aP (zC aT rfl aV) (Src.ofRd Tryz.underlying34 zz (RdC.ofBx (sz := 3) (n := 1) aO rfl zz) (by simp [Value.oneCell', u8v])) (by unfold maxLen; omega) zx (by first | exact Nat.le_trans (by assumption) hb.size | (have := hb.size; omega)) ?_
    intro aS aT aR aO aU
    have := aO.size
    have hxl := (hxl.keep0 aQ).keepO aP aO zz
    have aF := (aF.keep0 aQ).keepO aP aO zz
    have aH := aH.keepG (Gr.of aO) (aH.notOwn aP zz).symm
    have hb := hb.stepO aP aO zx
    have aR : Own aT an 94 3 aS (I2.length + 1) (((I2 ++ [(PItm.mk (2 + ((aK : Nat) : Int)) aB.tb aB.nm)])).flatMap cellsI) := by simpa [u8v, u16v, sv, cellsI] using aR
    refine kt_end rfl ⟨hxl, aF⟩ ?_
    intro aX aF aW an aU aT aV
    have aU := aU.trans ((by simp only [putsL_defers] : _ = _).trans ax)
    obtain ⟨hb, _⟩ := yG hb aF
    have B := ((((((((B.keep0 aG).keepG aJ O).keep0 aD).keep0 aI).keep0 aM).keep0 aN).keep0 aQ).keepO aP aO zz).keep0 aF
    have F := ((((((((F.keep0 aG).keepG aJ Q).keep0 aD).keep0 aI).keep0 aM).keep0 aN).keep0 aQ).keepO aP aO zz).keep0 aF
    have hxl := hxl.keep0 aF
    have aR := aR.keep0 aF
    have aX := (aT 0 rfl).trans (zL ag rfl aq)
    have aq := (aT 6 rfl).trans (zL ag rfl ap)
    have aY := (aT 7 rfl).trans (zL ag rfl ar)
    have aZ := (aT 8 rfl).trans (zL ag rfl aw)
    have aw := (aT 9 rfl).trans (zL ag rfl ay)
    have ay := (aT 18 rfl).trans (zL ag rfl au)
    have au : Sl aW 121 aS := (zE ((aV 11 _ 121 rfl rfl).1 rfl)).symm
    refine split_end (from_seq (tl := [_, _]) zz zy rfl (zM fld37_6 (zC an rfl aY) ?_))
    have hxl_old := hxl
    refine za (vs := [aS]) (cs' := [(.int .i64 6), (.string (bs (D.getD r default).t.nm)), (.string (bs [])), (.slice none 0 0), (.slice none 0 0), (.slice none 0 0), aS, (.string (bs Z)), X, aa, (.slice none 0 0), (.bool false), (.slice none 0 0)]) size34 (zA an rfl) (zC an rfl au) aR.cl rfl (by simp only [yA, yB, yC, yD, aR.one]; try rfl) hxl (zI rfl) rfl ?_
    intro aT hxl au
    have := au.size
    have B := B.keep au (sN B hxl_old)
    have F := F.keep au (sN F hxl_old)
    have R := (((((((((R.keep0 aG).keepG aJ U).keep0 aD).keep0 aI).keep0 aM).keep0 aN).keep0 aQ).keepO aP aO zz).keep0 aF).keep au sB
    have g := (((((((((g.keep0 aG).keepG aJ sP).keep0 aD).keep0 aI).keep0 aM).keep0 aN).keep0 aQ).keepO aP aO zx).keep0 aF).keep au sO
    have l := (((((((((l.keep0 aG).keepG aJ sP).keep0 aD).keep0 aI).keep0 aM).keep0 aN).keep0 aQ).keepO aP aO zx).keep0 aF).keep au sO
    have a := (((((((((a.keep0 aG).keepG aJ sP).keep0 aD).keep0 aI).keep0 aM).keep0 aN).keep0 aQ).keepO aP aO zx).keep0 aF).keep au sO
    have V := (((((((((V.keep0 aG).keepG aJ sP).keep0 aD).keep0 aI).keep0 aM).keep0 aN).keep0 aQ).keepO aP aO zx).keep0 aF).keep au sO
    have aH := (aH.kz aF).keepG (Gr.of au) (Dj.one Y)
    have aR := aR.keepX hxl_old au zz
    have hb := hb.step1 au zx
    refine zB (J2 _ _ (zH (zG (zC an rfl ay) (op_sub (zA an rfl) rfl (sub64 zx) (zD (zA an rfl) (zB ?_))))))
    -- round 93T 100T
    exact zg _ an aU ⟨(i - 1), aL, aS, (I2 ++ [(PItm.mk (2 + ((aK : Nat) : Int)) aB.tb aB.nm)]), rfl, (zL an rfl aX), (zL an rfl aq), (zL an rfl aY), (zL an rfl aZ), (zL an rfl aw), (zU an rfl).trans (congrArg (Value.int .i64) zx), (by simp; omega), zx, hb, zx, B, F, R, g, l, a, V, hxl, aH, (aR.cast (by simp) rfl)⟩ zx
   refine zB (J3 _ _ (wp_cond_false (zA ag rfl) (wp_exit (then_exit (then_exit (blk_hit (J1 _ _ (zF fun _ J1 => zH (zY agg37 rfl (zC ag rfl ar) hxl ?_)))))))))
   have an := R
   refine zZ size37 (zC ag rfl ap) (zA ag rfl) rfl (by simp only [yA, yB, yC, yD, ao.one, a.1.one, V.1.one]; try rfl) R rfl ?_
   intro ar R aq
   have := aq.size
   have a := a.keep aq sO
   have V := V.keep aq sO
   have hpk := hpk.keepG (Gr.of aq) (Dj.one U)
   have ao := ao.keepX an aq zz
   have hb := hb.step1 aq zx
   refine zB (J1 _ _ (wp_ret (zb (zO ( (retC rfl ax (zC ag rfl ap) agg37 rfl R ⟨_, rfl, ?_⟩))))))
   exact ⟨hb, XS.mk (StF.mk 6 ((D.getD r default).t.nm) [] (.slice none 0 0) [] (.slice none 0 0) [] (.slice none 0 0) [] ae I2 Z X ac aa ab (.slice none 0 0) [] false) (.slice none 0 0) [], rfl, SFr.flat ⟨(rdN _ _ _ _), (rdN _ _ _ _), (XsFr.nil _ _ _), (ao.rdw.mono zx zx), (a.mono zx zx), (V.mono zx zx), (XsFr.nil _ _ _)⟩ (by refine ⟨?_, ?_, ?_⟩ <;> (try simp [XS.f]) <;> omega) rfl rfl, n2, hpk, by omega⟩
  refine zD (zA c rfl) (zB (J1 _ _ (wp_cond_false (zA c rfl) (zF fun _ J1 => zH (op_eql (zA c rfl) rfl (fun ag => ?_) (fun ag => ?_))))))
  ·
   refine zD (zA c rfl) (zB (J1 _ _ (wp_cond_true (zA c rfl) (zF fun _ J1 => zH (zG (zC c rfl q) ?_)))))
   have hbl' := hbl.keepG hb c_hbl
   refine zj ok15 (Num_ret (m := 3) ak zx hbl' zx zx) ⟨(zA c rfl), ⟨rfl, trivial⟩⟩ ?_
   rintro _ ao ⟨ag, ap, rfl, ax, au, aq, aw, ar⟩
   have := ag.size
   have B := B.keepG ag O
   have F := F.keepG ag Q
   have R := R.keepG ag U
   have g := g.keepG ag sP
   have l := l.keepG ag sP
   have a := a.keepG ag sP
   have V := V.keepG ag sP
   have o := o.keepG ag Y
   have hb := hb.stepF ag (fun _ _ h => h)
   refine zD (zA c rfl) (zB (J1 _ _ (wp_block (loop_m (fun mz_ az_ w' => ∃ (i n2 : Nat) (ae : Value) (I2 : List PItm), mz_ = (i + 1) ∧ (Sl az_ 0 (ptr p 0)) ∧ (Sl az_ 6 (ptr S 0)) ∧ (Sl az_ 7 (ptr W 0)) ∧ (Sl az_ 8 aj) ∧ (Sl az_ 9 ai) ∧ (Sl az_ 21 (.int .i64 (((i : Nat) : Int) - 1))) ∧ (I2.length + i ≤ 3) ∧ (n ≤ n2) ∧ (Gr w w' (fun k => k = p)) ∧ (ao.heap.size ≤ w'.heap.size) ∧ (Bx w' J 30 [tv, (.slice none 0 0)]) ∧ (Bx w' M 51 [(.string (bs (D.getD r default).t.nm)), (D.getD r default).cv, (D.getD r default).iv]) ∧ (Bx w' S 37 [(.int .i64 0), (.string (bs [])), (.string (bs [])), (.slice none 0 0), (.slice none 0 0), (.slice none 0 0), (.slice none 0 0), (.string (bs [])), (.slice none 0 0), (.slice none 0 0), (.slice none 0 0), (.bool false), (.slice none 0 0)]) ∧ (RdC w' T.heap.size B9 3 aj C9.length (C9.flatMap cellsI)) ∧ (RdC w' T.heap.size B9 1 ai K9.length (K9.map (Value.int .i64))) ∧ (XsFr w' T.heap.size B9 X ac) ∧ (XsFr w' A.heap.size af.heap.size aa ab) ∧ (Bx w' W 37 [(.int .i64 6), (.string (bs (D.getD r default).t.nm)), (.string (bs [])), (.slice none 0 0), (.slice none 0 0), (.slice none 0 0), ae, (.string (bs Z)), X, aa, (.slice none 0 0), (.bool false), (.slice none 0 0)]) ∧ (PickR w' base p lv bl n2 (fun k => k = p)) ∧ (Own w' ao.heap.size 94 3 ae I2.length (I2.flatMap cellsI))) _ c P ⟨_, _, (.slice none 0 0), [], rfl, (zL c rfl q), (zL c rfl H), (zL c rfl t), (zL c rfl y), (zL c rfl z), (zU c rfl).trans (congrArg (Value.int .i64) (show _ = (((ap + 1 : Nat) : Int) - 1) by omega)), (by simp; omega), zx, hb, (Nat.le_refl _), B, F, R, g, l, a, V, o, aq, (Own.nil _ _ _ _)⟩ ?_))))
   rintro _ aq ap A aj ⟨i, n2, ae, I2, rfl, M, ag, S, T, af, ai, hil, az, hb, ar, B, F, R, g, l, a, V, hxl, hpk, J⟩
   have := hb.size
   refine zF fun _ J1 => zF fun _ J2 => zH (zG (zC A rfl ai) (op_geq (zA A rfl) rfl (fun aq => ?_) (fun aq => ?_)))
   ·
    refine zB (J2 _ _ (wp_cond_true (zA A rfl) (wp_skip (J1 _ _ (zF fun _ J1 => wp_block (zF fun _ J2 => zH (zG (zC A rfl M) (zG (zC A rfl T) (zG (zC A rfl af) (zG (zC A rfl M) ?_))))))))))
    have hbl' := hbl.keepG hb c_hbl
    refine zj ok15 (Num_ret (m := 2) hpk zx hbl' zx zx) ⟨(zA A rfl), ⟨rfl, trivial⟩⟩ ?_
    rintro _ az ⟨aq, au, rfl, aB, ay, ar, ax, aw⟩
    have hpk_old := hpk
    have := aq.size
    have g := g.keepG aq sP
    have l := l.keepG aq sP
    have J := J.keepG aq (hpk_old.notOwn J zz)
    have hb := hb.stepF aq (fun _ _ h => h)
    refine op_add rfl (zA A rfl) (add64 zx) ?_
    have hbl' := hbl.keepG hb c_hbl
    refine zj ok43 (pcol_ret (k := (1 + ((au : Nat) : Int))) ar zx hbl' (C := C9) (K := K9) g l zx zx (by first | omega | (simp only [List.length_append]; omega))) ⟨(zA A rfl), ⟨(zA A rfl), ⟨(zA A rfl), ⟨(zA A rfl), trivial⟩⟩⟩⟩ ?_
    rintro _ aG ⟨ax, au, aD, rfl, ay, aF, az, aw, aB⟩
    have aB := ar
    have := ax.size
    have J := J.keepG ax (aB.notOwn J zz)
    have hb := hb.stepF ax (fun _ _ h => h)
    refine zG (zA A rfl) (zW (zA A rfl) rfl (zW (zA A rfl) rfl (op_alloc (cs := [(.int .i64 0), (.int .i64 0), (.int .i64 0), (.string (bs [])), (.string (bs [])), (.string (bs [])), (.slice none 0 0)]) zero89 rfl ?_)))
    intro aH aD aG aF aB ar
    have aF : ¬ (fun k => k = p) aD := fun hf => by have := (aw.lt _ hf).2; omega
    obtain ⟨hb, _⟩ := yG hb ar
    have B := ((B.keepG aq O).keepG ax O).keep0 ar
    have F := ((F.keepG aq Q).keepG ax Q).keep0 ar
    have R := ((R.keepG aq U).keepG ax U).keep0 ar
    have hxl := ((hxl.keepG aq Y).keepG ax Y).keep0 ar
    have ay := ay.keep0 ar
    have O := aB
    refine zZ size89 (zA A rfl) (zA A rfl) rfl (by simp only [yA, yB, yC, yD, ay.list.1.one]; try rfl) aB rfl ?_
    intro ay aB Q
    have := Q.size
    have B := B.keep Q (sN B O)
    have F := F.keep Q (sN F O)
    have R := R.keep Q (sN R O)
    have hxl := hxl.keep Q (sN hxl O)
    have aw := (aw.kz ar).keepG (Gr.of Q) (Dj.one aF)
    have hb := hb.step1 Q zx
    refine zD (zA A rfl) (zB (J2 _ _ (zH ?_)))
    skip
    refine zM fld37_6 (zC A rfl S) (zN one34 (zA A rfl) (hxl.cell rfl) (zM fld89_2 (zA A rfl) (zN one9 (zA A rfl) (aB.cell rfl) (zM fld89_3 (zA A rfl) (zN one9 (zA A rfl) (aB.cell rfl) (zf (pv := [(1, (.string (bs au.tb))), (2, (.string (bs au.nm)))]) (v := (Value.agg #[(.int .i64 0), (.string (bs au.tb)), (.string (bs au.nm))])) ⟨rfl, (zA A rfl), ⟨rfl, (zA A rfl), trivial⟩⟩ zy (op_bslice (e := 94) (pv := [(0, (.agg #[(.int .i64 0), (.string (bs au.tb)), (.string (bs au.nm))]))]) (cs := [(.int .i64 0), (.string (bs au.tb)), (.string (bs au.nm))]) ⟨rfl, (zA A rfl), trivial⟩ zy ?_)))))))
    intro aF aD aG aH aB ay
    have aF : ¬ (fun k => k = p) aD := fun hf => by have := (aw.lt _ hf).2; omega
    obtain ⟨hb, _⟩ := yG hb ay
    have J := ((J.keep0 ar).keepX O Q zz).keep0 ay
    have aw := aw.kz ay
    have O := J
    refine op_append slt34 (zA A rfl) O (zA A rfl) (Src.ofRd Tryz.underlying34 zz (RdC.ofBx (sz := 3) (n := 1) aB rfl zz) (by simp [Value.oneCell', u8v])) (by unfold maxLen; omega) zx (by first | exact Nat.le_trans (by assumption) hb.size | (have := hb.size; omega)) ?_
    intro aF aG aD aB aH
    have := aB.size
    have B := (B.keep0 ay).keepO O aB zz
    have F := (F.keep0 ay).keepO O aB zz
    have a := (((((a.keepG aq sP).keepG ax sP).keep0 ar).keep Q sO).keep0 ay).keepO O aB zx
    have V := (((((V.keepG aq sP).keepG ax sP).keep0 ar).keep Q sO).keep0 ay).keepO O aB zx
    have hxl := (hxl.keep0 ay).keepO O aB zz
    have aw := aw.keepG (Gr.of aB) (aw.notOwn O zz).symm
    have hb := hb.stepO O aB zx
    have aD : Own aG ao.heap.size 94 3 aF (I2.length + 1) (((I2 ++ [(PItm.mk 0 au.tb au.nm)])).flatMap cellsI) := by simpa [u8v, u16v, sv, cellsI] using aD
    refine zM fld37_6 (zC A rfl S) ?_
    have hxl_old := hxl
    refine za (vs := [aF]) (cs' := [(.int .i64 6), (.string (bs (D.getD r default).t.nm)), (.string (bs [])), (.slice none 0 0), (.slice none 0 0), (.slice none 0 0), aF, (.string (bs Z)), X, aa, (.slice none 0 0), (.bool false), (.slice none 0 0)]) size34 (zA A rfl) (zA A rfl) aD.cl rfl (by simp only [yA, yB, yC, yD, aD.one]; try rfl) hxl (zI rfl) rfl ?_
    intro aq hxl ao
    have := ao.size
    have B := B.keep ao (sN B hxl_old)
    have F := F.keep ao (sN F hxl_old)
    have R := ((R.keep0 ay).keepO O aB zz).keep ao sB
    have g := (((((g.keepG ax sP).keep0 ar).keep Q sO).keep0 ay).keepO O aB zx).keep ao sO
    have l := (((((l.keepG ax sP).keep0 ar).keep Q sO).keep0 ay).keepO O aB zx).keep ao sO
    have a := a.keep ao sO
    have V := V.keep ao sO
    have aw := aw.keepG (Gr.of ao) (Dj.one Y)
    have aD := aD.keepX hxl_old ao zz
    have hb := hb.step1 ao zx
    refine zB (J1 _ _ (zH (zG (zC A rfl ai) (op_sub (zA A rfl) rfl (sub64 zx) (zD (zA A rfl) (zB ?_))))))
    -- round 93F 125T 129T
    exact zg _ A aj ⟨(i - 1), az, aF, (I2 ++ [(PItm.mk 0 au.tb au.nm)]), rfl, (zL A rfl M), (zL A rfl ag), (zL A rfl S), (zL A rfl T), (zL A rfl af), (zU A rfl).trans (congrArg (Value.int .i64) zx), (by simp; omega), zx, hb, zx, B, F, R, g, l, a, V, hxl, aw, (aD.cast (by simp) rfl)⟩ zx
   refine zB (J2 _ _ (wp_cond_false (zA A rfl) (wp_exit (then_exit (then_exit (blk_hit (I _ _ ?_)))))))
   exact ah _ _ _ A aj ⟨ae, I2, ap.heap.size, n2, (zL A rfl M), (zL A rfl ag), (zL A rfl S), (zL A rfl T), (zL A rfl af), (by first | omega | (simp; done) | (simp; omega)), (Nat.le_refl _), zx, zx, hb, zx, B, F, R, g, l, a, V, (J.rdw.mono zx zx), hxl, hpk⟩
  refine zD (zA c rfl) (zB (J1 _ _ (wp_cond_false (zA c rfl) (wp_skip (I _ _ ?_)))))
  exact ah _ _ _ c P ⟨(.slice none 0 0), [], am.heap.size, al, (zL c rfl q), (zL c rfl H), (zL c rfl t), (zL c rfl y), (zL c rfl z), (by first | omega | (simp; done) | (simp; omega)), (Nat.le_refl _), zx, zx, hb, zx, B, F, R, g, l, a, V, (rdN _ _ _ _), o, ak⟩
 rintro T M q z ⟨ad, I9, B7, n7, A, y, t, J, H, ae, Q, P, O, hb, S, B, F, R, g, l, a, V, o, c, hpk⟩
 have := hb.size
 refine zF fun _ I => zF fun _ J1 => zH (zG (zC q rfl A) ?_)
 have hbl' := hbl.keepG hb c_hbl
 refine zj ok15 (Num_ret (m := 3) hpk zx hbl' zx zx) ⟨(zA q rfl), ⟨rfl, trivial⟩⟩ ?_
 rintro _ S ⟨B, P, rfl, O, M, F, T, Q⟩
 have := B.size
 have R := R.keepG B U
 have g := g.keepG B sP
 have l := l.keepG B sP
 have a := a.keepG B sP
 have V := V.keepG B sP
 have o := o.keepG B sP
 have c := c.keepG B Y
 have hb := hb.stepF B (fun _ _ h => h)
 refine op_eql (zA q rfl) rfl (fun B => ?_) (fun B => ?_)
 ·
  refine zB (J1 _ _ (wp_cond_true (zA q rfl) (zF fun _ J1 => zH (zG (zC q rfl A) (zG (zC q rfl J) (zG (zC q rfl H) (zG (zC q rfl A) ?_)))))))
  have hbl' := hbl.keepG hb c_hbl
  refine zj ok15 (Num_ret (m := 2) F zx hbl' zx zx) ⟨(zA q rfl), ⟨rfl, trivial⟩⟩ ?_
  rintro _ Q ⟨B, H, rfl, P, S, J, T, O⟩
  have := B.size
  have g := g.keepG B sP
  have l := l.keepG B sP
  have hb := hb.stepF B (fun _ _ h => h)
  refine op_add rfl (zA q rfl) (add64 zx) ?_
  have hbl' := hbl.keepG hb c_hbl
  refine zj ok43 (pcol_ret (k := (1 + ((H : Nat) : Int))) J zx hbl' (C := C9) (K := K9) g l zx zx (by first | omega | (simp only [List.length_append]; omega))) ⟨(zA q rfl), ⟨(zA q rfl), ⟨(zA q rfl), ⟨(zA q rfl), trivial⟩⟩⟩⟩ ?_
  rintro _ Q ⟨J, g, S, rfl, l, T, P, H, O⟩
  have := J.size
  have hb := hb.stepF J (fun _ _ h => h)
  refine zG (zA q rfl) (zW (zA q rfl) rfl (zW (zA q rfl) rfl (op_alloc (cs := [(.int .i64 0), (.int .i64 0), (.int .i64 0), (.string (bs [])), (.string (bs [])), (.string (bs [])), (.slice none 0 0)]) zero89 rfl ?_)))
  intro T Q S ae O P
  have S : ¬ (fun k => k = p) Q := fun hf => by have := (H.lt _ hf).2; omega
  obtain ⟨hb, _⟩ := yG hb P
  have R := ((R.keepG B U).keepG J U).keep0 P
  have c := ((c.keepG B Y).keepG J Y).keep0 P
  have l := l.keep0 P
  have T := O
  refine zZ size89 (zA q rfl) (zA q rfl) rfl (by simp only [yA, yB, yC, yD, l.list.1.one]; try rfl) O rfl ?_
  intro af O ae
  have := ae.size
  have R := R.keep ae (sN R T)
  have a := (((a.keepG B sP).keepG J sP).keep0 P).keep ae sO
  have V := (((V.keepG B sP).keepG J sP).keep0 P).keep ae sO
  have o := (((o.keepG B sP).keepG J sP).keep0 P).keep ae sO
  have c := c.keep ae (sN c T)
  have H := (H.kz P).keepG (Gr.of ae) (Dj.one S)
  have l := l.keep ae sO
  have hb := hb.step1 ae zx
  refine zD (zA q rfl) (zB (J1 _ _ (reg_split (hd := [_, _, _, _, _, _, _]) (tl := _) 7 mixed zy rfl rfl (any_tree (φ := phiV [(fun uz => uz = (.agg #[(.int .i64 g.op), (.int .i64 g.vk), (.int .i64 g.vi), (.string (bs g.vt)), (.string (bs g.tb)), (.string (bs g.nm)), g.av])), (fun _ => True), (fun uz => uz = (ptr p 0)), (fun _ => True), (fun _ => True), (fun uz => uz = (ptr W 10)), (fun _ => True)]) (G := fun w' => Bx w' Q 89 [(.int .i64 g.op), (.int .i64 g.vk), (.int .i64 g.vi), (.string (bs g.vt)), (.string (bs g.tb)), (.string (bs g.nm)), g.av]) [1, 3, 4, 6] zy zy zy zy zy q (fun L w2 E h => h.keep0 E) O (ObRs9.cons ?_ (ObRs9.pass rfl (ObRs9.cons ?_ (ObRs9.pass rfl (ObRs9.pass rfl (ObRs9.cons ?_ (ObRs9.pass rfl (ObRs9.nil)))))))) (by simp only [putsL_defers]) ?_))))
  ·
   intro eA aA wA hNA hGA hbsA hdpA
   have B := (hbsA 24 rfl).trans (zU q rfl)
   refine zY agg89 rfl (zC hNA rfl B) hGA ?_
   exact obT_end rfl rfl
  ·
   intro eA aA wA hNA hGA hbsA hdpA
   have aE := (hbsA 0 rfl).trans (zL q rfl A)
   refine zG (zC hNA rfl aE) ?_
   exact obT_end rfl rfl
  ·
   intro eA aA wA hNA hGA hbsA hdpA
   have aC := (hbsA 7 rfl).trans (zL q rfl t)
   refine zM fld37_10 (zC hNA rfl aC) ?_
   exact obT_end rfl rfl
  refine kt_step (rs := [1, 3]) zy (more_mem ?_ ?_)
  ·
   intro P A _ J L Q B o_ ho_; obtain rfl := zE ho_
   obtain ⟨hb, _⟩ := yG hb A
   have H := H.kz A
   have P : Sl J 165 (.agg #[(.int .i64 g.op), (.int .i64 g.vk), (.int .i64 g.vi), (.string (bs g.vt)), (.string (bs g.tb)), (.string (bs g.nm)), g.av]) := (B 0 _ 165 zy rfl rfl).2 rfl
   refine op_bslice (e := 89) (pv := [(0, (.agg #[(.int .i64 g.op), (.int .i64 g.vk), (.int .i64 g.vi), (.string (bs g.vt)), (.string (bs g.tb)), (.string (bs g.nm)), g.av]))]) (cs := [(.int .i64 g.op), (.int .i64 g.vk), (.int .i64 g.vi), (.string (bs g.vt)), (.string (bs g.tb)), (.string (bs g.nm)), g.av]) ⟨rfl, (zC L rfl P), trivial⟩ zy ?_
   intro Q J P T B L
   have P : ¬ (fun k => k = p) J := fun hf => by have := (H.lt _ hf).2; omega
   obtain ⟨hb, _⟩ := yG hb L
   have H := H.kz L
   have O := (O.keep0 A).keep0 L
   refine kt_end rfl O (kt_step (rs := [3]) zy (one_mem ?_))
   intro ah Q _ T af ag ae o_ ho_; obtain rfl := zE ho_
   obtain ⟨hb, _⟩ := yG hb Q
   have H := H.kz Q
   have ag : Sl T 167 (ptr p 0) := (ae 2 _ 167 zy rfl rfl).2 rfl
   have hbl' := hbl.keepG hb c_hbl
   refine zj ok15 (Num_ret (m := 2) H zx hbl' zx zx) ⟨(zC af rfl ag), ⟨rfl, trivial⟩⟩ ?_
   rintro _ ah ⟨af, ae, rfl, ak, ag, T, aj, ai⟩
   have := af.size
   have R := (((R.keep0 A).keep0 L).keep0 Q).keepG af U
   have a := (((a.keep0 A).keep0 L).keep0 Q).keepG af sP
   have V := (((V.keep0 A).keep0 L).keep0 Q).keepG af sP
   have o := (((o.keep0 A).keep0 L).keep0 Q).keepG af sP
   have c := (((c.keep0 A).keep0 L).keep0 Q).keepG af Y
   have l := (((l.keep0 A).keep0 L).keep0 Q).keepG af sP
   have O := (O.keep0 Q).keepG af S
   have B := (B.keep0 Q).keepG af P
   have hb := hb.stepF af (fun _ _ h => h)
   refine kt_end rfl O (kt_step (rs := [4, 6]) zy (more_mem ?_ ?_))
   ·
    intro ah A _ P Q af L o_ ho_; obtain rfl := zE ho_
    obtain ⟨hb, _⟩ := yG hb A
    have O := O.keep0 A
    have T := T.kz A
    have af : Sl P 168 (.int .i64 ((ae : Nat) : Int)) := (zE ((L 3 _ 168 zy rfl rfl).1 rfl)).symm
    refine op_cmp (b := (decide (((ae : Nat) : Int) = 0))) (zC Q rfl af) rfl (b_eql rfl) (kt_end rfl O (kt_step (rs := [6]) zy (one_mem ?_)))
    intro ah L _ Q af ai P o_ ho_; obtain rfl := zE ho_
    obtain ⟨hb, _⟩ := yG hb L
    have c := (c.keep0 A).keep0 L
    have O := O.keep0 L
    have B := (B.keep0 A).keep0 L
    have ah : Sl Q 170 (ptr W 10) := (P 5 _ 170 zy rfl rfl).2 rfl
    have ai : Sl Q 166 (.slice (some ⟨J, 0, none⟩) 1 1) := (zE ((P 1 _ 166 zy rfl rfl).1 rfl)).symm
    have P := c
    refine za (vs := [(.slice (some ⟨J, 0, none⟩) 1 1)]) (cs' := [(.int .i64 6), (.string (bs (D.getD r default).t.nm)), (.string (bs [])), (.slice none 0 0), (.slice none 0 0), (.slice none 0 0), ad, (.string (bs Z)), X, aa, (.slice (some ⟨J, 0, none⟩) 1 1), (.bool false), (.slice none 0 0)]) size33 (zC af rfl ah) (zC af rfl ai) rfl rfl rfl c (zI rfl) rfl ?_
    intro af c Q
    have := Q.size
    have O := O.keep Q (sN O P)
    have B := B.keep Q (sN B P)
    have T := (T.kz L).keepG (Gr.of Q) (Dj.one Y)
    have hb := hb.step1 Q zx
    refine kt_end0 rfl O ?_
    intro am af al ah ai aj ak
    have ai := ai.trans ((by simp only [putsL_defers] : _ = _).trans z)
    obtain ⟨hb, _⟩ := yG hb af
    have B := B.keep0 af
    have c := c.keep0 af
    have am := (aj 6 rfl).trans (zL q rfl y)
    have ao := (aj 7 rfl).trans (zL q rfl t)
    have aj : Sl al 169 (.bool (decide (((ae : Nat) : Int) = 0))) := (zE ((ak 4 _ 169 rfl rfl).1 rfl)).symm
    refine split_end (from_seq (tl := [_, _]) zz zy rfl (zM fld37_11 (zC ah rfl ao) ?_))
    have P := c
    refine za (vs := [(.bool (decide (((ae : Nat) : Int) = 0)))]) (cs' := [(.int .i64 6), (.string (bs (D.getD r default).t.nm)), (.string (bs [])), (.slice none 0 0), (.slice none 0 0), (.slice none 0 0), ad, (.string (bs Z)), X, aa, (.slice (some ⟨J, 0, none⟩) 1 1), (.bool (decide (((ae : Nat) : Int) = 0))), (.slice none 0 0)]) size4 (zA ah rfl) (zC ah rfl aj) rfl rfl rfl c (zI rfl) rfl ?_
    intro ak c aj
    have := aj.size
    have R := ((((R.keep0 A).keep0 L).keep Q sB).keep0 af).keep aj sB
    have a := ((((a.keep0 A).keep0 L).keep Q sO).keep0 af).keep aj sO
    have V := ((((V.keep0 A).keep0 L).keep Q sO).keep0 af).keep aj sO
    have o := ((((o.keep0 A).keep0 L).keep Q sO).keep0 af).keep aj sO
    have B := B.keep aj (sN B P)
    have hb := hb.step1 aj zx
    refine zB (I _ _ (zF fun _ I => zH (zY agg37 rfl (zC ah rfl ao) c ?_)))
    have an := R
    refine zZ size37 (zC ah rfl am) (zA ah rfl) rfl (by simp only [yA, yB, yC, yD, o.one, a.1.one, V.1.one]; try rfl) R rfl ?_
    intro al R ak
    have := ak.size
    have a := a.keep ak sO
    have V := V.keep ak sO
    have o := o.keep ak sO
    have l := (((((l.keep0 A).keep0 L).keep Q sO).keep0 af).keep aj sO).keep ak sO
    have B := B.keep ak (sN B an)
    have T := ((T.kz af).keepG (Gr.of aj) (Dj.one Y)).keepG (Gr.of ak) (Dj.one U)
    have hb := hb.step1 ak zx
    refine zB (I _ _ (wp_ret (retC rfl ai (zC ah rfl am) agg37 rfl R ⟨_, rfl, ?_⟩)))
    exact ⟨hb, XS.mk (StF.mk 6 ((D.getD r default).t.nm) [] (.slice none 0 0) [] (.slice none 0 0) [] (.slice none 0 0) [] ad I9 Z X ac aa ab (.slice (some ⟨J, 0, none⟩) 1 1) ([g]) (decide (((ae : Nat) : Int) = 0))) (.slice none 0 0) [], rfl, SFr.flat ⟨(rdN _ _ _ _), (rdN _ _ _ _), (XsFr.nil _ _ _), (o.mono zx zx), (a.mono zx zx), (V.mono zx zx), (XsFr.lit1 (x := g) B zx B.lt (l.mono zx zx))⟩ (by refine ⟨?_, ?_, ?_⟩ <;> (try simp [XS.f]) <;> omega) rfl rfl, ag, T, by omega⟩
   refine one_mem ?_
   intro ai A _ af L ah Q o_ ho_; obtain rfl := zE ho_
   obtain ⟨hb, _⟩ := yG hb A
   have c := c.keep0 A
   obtain ⟨O, B⟩ := kb2 A O B
   have ah : Sl af 170 (ptr W 10) := (Q 5 _ 170 zy rfl rfl).2 rfl
   have ai : Sl af 166 (.slice (some ⟨J, 0, none⟩) 1 1) := (zE ((Q 1 _ 166 zy rfl rfl).1 rfl)).symm
   have P := c
   refine za (vs := [(.slice (some ⟨J, 0, none⟩) 1 1)]) (cs' := [(.int .i64 6), (.string (bs (D.getD r default).t.nm)), (.string (bs [])), (.slice none 0 0), (.slice none 0 0), (.slice none 0 0), ad, (.string (bs Z)), X, aa, (.slice (some ⟨J, 0, none⟩) 1 1), (.bool false), (.slice none 0 0)]) size33 (zC L rfl ah) (zC L rfl ai) rfl rfl rfl c (zI rfl) rfl ?_
   intro Q c L
   have := L.size
   have O := O.keep L (sN O P)
   have B := B.keep L (sN B P)
   have T := (T.kz A).keepG (Gr.of L) (Dj.one Y)
   have hb := hb.step1 L zx
   refine kt_end0 rfl O (kt_step (rs := [4]) zy (one_mem ?_))
   intro ak Q _ ai ah aj af o_ ho_; obtain rfl := zE ho_
   obtain ⟨hb, _⟩ := yG hb Q
   have O := O.keep0 Q
   have T := T.kz Q
   have aj : Sl ai 168 (.int .i64 ((ae : Nat) : Int)) := (zE ((af 3 _ 168 zy rfl rfl).1 rfl)).symm
   refine op_cmp (b := (decide (((ae : Nat) : Int) = 0))) (zC ah rfl aj) rfl (b_eql rfl) (kt_end rfl O ?_)
   intro am af ak ah ai aj al
   have ai := ai.trans ((by simp only [putsL_defers] : _ = _).trans z)
   obtain ⟨hb, _⟩ := yG hb af
   have B := (B.keep0 Q).keep0 af
   have c := (c.keep0 Q).keep0 af
   have am := (aj 6 rfl).trans (zL q rfl y)
   have ao := (aj 7 rfl).trans (zL q rfl t)
   have aj : Sl ak 169 (.bool (decide (((ae : Nat) : Int) = 0))) := (zE ((al 4 _ 169 rfl rfl).1 rfl)).symm
   refine split_end (from_seq (tl := [_, _]) zz zy rfl (zM fld37_11 (zC ah rfl ao) ?_))
   have P := c
   refine za (vs := [(.bool (decide (((ae : Nat) : Int) = 0)))]) (cs' := [(.int .i64 6), (.string (bs (D.getD r default).t.nm)), (.string (bs [])), (.slice none 0 0), (.slice none 0 0), (.slice none 0 0), ad, (.string (bs Z)), X, aa, (.slice (some ⟨J, 0, none⟩) 1 1), (.bool (decide (((ae : Nat) : Int) = 0))), (.slice none 0 0)]) size4 (zA ah rfl) (zC ah rfl aj) rfl rfl rfl c (zI rfl) rfl ?_
   intro ak c aj
   have := aj.size
   have R := ((((R.keep0 A).keep L sB).keep0 Q).keep0 af).keep aj sB
   have a := ((((a.keep0 A).keep L sO).keep0 Q).keep0 af).keep aj sO
   have V := ((((V.keep0 A).keep L sO).keep0 Q).keep0 af).keep aj sO
   have o := ((((o.keep0 A).keep L sO).keep0 Q).keep0 af).keep aj sO
   have B := B.keep aj (sN B P)
   have hb := hb.step1 aj zx
   refine zB (I _ _ (zF fun _ I => zH (zY agg37 rfl (zC ah rfl ao) c ?_)))
   have an := R
   refine zZ size37 (zC ah rfl am) (zA ah rfl) rfl (by simp only [yA, yB, yC, yD, o.one, a.1.one, V.1.one]; try rfl) R rfl ?_
   intro al R ak
   have := ak.size
   have a := a.keep ak sO
   have V := V.keep ak sO
   have o := o.keep ak sO
   have l := (((((l.keep0 A).keep L sO).keep0 Q).keep0 af).keep aj sO).keep ak sO
   have B := B.keep ak (sN B an)
   have T := ((T.kz af).keepG (Gr.of aj) (Dj.one Y)).keepG (Gr.of ak) (Dj.one U)
   have hb := hb.step1 ak zx
   refine zB (I _ _ (wp_ret (retC rfl ai (zC ah rfl am) agg37 rfl R ⟨_, rfl, ?_⟩)))
   exact ⟨hb, XS.mk (StF.mk 6 ((D.getD r default).t.nm) [] (.slice none 0 0) [] (.slice none 0 0) [] (.slice none 0 0) [] ad I9 Z X ac aa ab (.slice (some ⟨J, 0, none⟩) 1 1) ([g]) (decide (((ae : Nat) : Int) = 0))) (.slice none 0 0) [], rfl, SFr.flat ⟨(rdN _ _ _ _), (rdN _ _ _ _), (XsFr.nil _ _ _), (o.mono zx zx), (a.mono zx zx), (V.mono zx zx), (XsFr.lit1 (x := g) B zx B.lt (l.mono zx zx))⟩ (by refine ⟨?_, ?_, ?_⟩ <;> (try simp [XS.f]) <;> omega) rfl rfl, ag, T, by omega⟩
  refine one_mem ?_
  intro Q A _ B L T J o_ ho_; obtain rfl := zE ho_
  obtain ⟨hb, _⟩ := yG hb A
  have H := H.kz A
  have Q : Sl B 167 (ptr p 0) := (J 2 _ 167 zy rfl rfl).2 rfl
  have hbl' := hbl.keepG hb c_hbl
  refine zj ok15 (Num_ret (m := 2) H zx hbl' zx zx) ⟨(zC L rfl Q), ⟨rfl, trivial⟩⟩ ?_
  rintro _ ae ⟨J, H, rfl, T, L, B, af, Q⟩
  have := J.size
  have R := (R.keep0 A).keepG J U
  have a := (a.keep0 A).keepG J sP
  have V := (V.keep0 A).keepG J sP
  have o := (o.keep0 A).keepG J sP
  have c := (c.keep0 A).keepG J Y
  have l := (l.keep0 A).keepG J sP
  have O := (O.keep0 A).keepG J S
  have hb := hb.stepF J (fun _ _ h => h)
  refine kt_end rfl O (kt_step (rs := [1, 4]) zy (more_mem ?_ ?_))
  ·
   intro T A _ S Q ae J o_ ho_; obtain rfl := zE ho_
   obtain ⟨hb, _⟩ := yG hb A
   have B := B.kz A
   have T : Sl S 165 (.agg #[(.int .i64 g.op), (.int .i64 g.vk), (.int .i64 g.vi), (.string (bs g.vt)), (.string (bs g.tb)), (.string (bs g.nm)), g.av]) := (J 0 _ 165 zy rfl rfl).2 rfl
   refine op_bslice (e := 89) (pv := [(0, (.agg #[(.int .i64 g.op), (.int .i64 g.vk), (.int .i64 g.vi), (.string (bs g.vt)), (.string (bs g.tb)), (.string (bs g.nm)), g.av]))]) (cs := [(.int .i64 g.op), (.int .i64 g.vk), (.int .i64 g.vi), (.string (bs g.vt)), (.string (bs g.tb)), (.string (bs g.nm)), g.av]) ⟨rfl, (zC Q rfl T), trivial⟩ zy ?_
   intro ae Q T af J S
   have T : ¬ (fun k => k = p) Q := fun hf => by have := (B.lt _ hf).2; omega
   obtain ⟨hb, _⟩ := yG hb S
   have R := (R.keep0 A).keep0 S
   have a := (a.keep0 A).keep0 S
   have V := (V.keep0 A).keep0 S
   have o := (o.keep0 A).keep0 S
   have c := (c.keep0 A).keep0 S
   have l := (l.keep0 A).keep0 S
   have O := (O.keep0 A).keep0 S
   have B := B.kz S
   refine kt_end rfl O (kt_step (rs := [4, 6]) zy (more_mem ?_ ?_))
   ·
    intro af A _ S T ag ae o_ ho_; obtain rfl := zE ho_
    obtain ⟨hb, _⟩ := yG hb A
    have O := O.keep0 A
    have B := B.kz A
    have af : Sl S 168 (.int .i64 ((H : Nat) : Int)) := (zE ((ae 3 _ 168 zy rfl rfl).1 rfl)).symm
    refine op_cmp (b := (decide (((H : Nat) : Int) = 0))) (zC T rfl af) rfl (b_eql rfl) (kt_end rfl O (kt_step (rs := [6]) zy (one_mem ?_)))
    intro ag S _ af T ah ae o_ ho_; obtain rfl := zE ho_
    obtain ⟨hb, _⟩ := yG hb S
    have c := (c.keep0 A).keep0 S
    have O := O.keep0 S
    have J := (J.keep0 A).keep0 S
    have ag : Sl af 170 (ptr W 10) := (ae 5 _ 170 zy rfl rfl).2 rfl
    have ah : Sl af 166 (.slice (some ⟨Q, 0, none⟩) 1 1) := (zE ((ae 1 _ 166 zy rfl rfl).1 rfl)).symm
    have P := c
    refine za (vs := [(.slice (some ⟨Q, 0, none⟩) 1 1)]) (cs' := [(.int .i64 6), (.string (bs (D.getD r default).t.nm)), (.string (bs [])), (.slice none 0 0), (.slice none 0 0), (.slice none 0 0), ad, (.string (bs Z)), X, aa, (.slice (some ⟨Q, 0, none⟩) 1 1), (.bool false), (.slice none 0 0)]) size33 (zC T rfl ag) (zC T rfl ah) rfl rfl rfl c (zI rfl) rfl ?_
    intro ae c T
    have := T.size
    have O := O.keep T (sN O P)
    have B := (B.kz S).keepG (Gr.of T) (Dj.one Y)
    have J := J.keep T (sN J P)
    have hb := hb.step1 T zx
    refine kt_end0 rfl O ?_
    intro ak ae ai af ag ah aj
    have ag := ag.trans ((by simp only [putsL_defers] : _ = _).trans z)
    obtain ⟨hb, _⟩ := yG hb ae
    have J := J.keep0 ae
    have c := c.keep0 ae
    have ak := (ah 6 rfl).trans (zL q rfl y)
    have al := (ah 7 rfl).trans (zL q rfl t)
    have ah : Sl ai 169 (.bool (decide (((H : Nat) : Int) = 0))) := (zE ((aj 4 _ 169 rfl rfl).1 rfl)).symm
    refine split_end (from_seq (tl := [_, _]) zz zy rfl (zM fld37_11 (zC af rfl al) ?_))
    have P := c
    refine za (vs := [(.bool (decide (((H : Nat) : Int) = 0)))]) (cs' := [(.int .i64 6), (.string (bs (D.getD r default).t.nm)), (.string (bs [])), (.slice none 0 0), (.slice none 0 0), (.slice none 0 0), ad, (.string (bs Z)), X, aa, (.slice (some ⟨Q, 0, none⟩) 1 1), (.bool (decide (((H : Nat) : Int) = 0))), (.slice none 0 0)]) size4 (zA af rfl) (zC af rfl ah) rfl rfl rfl c (zI rfl) rfl ?_
    intro ai c ah
    have := ah.size
    have R := ((((R.keep0 A).keep0 S).keep T sB).keep0 ae).keep ah sB
    have a := ((((a.keep0 A).keep0 S).keep T sO).keep0 ae).keep ah sO
    have V := ((((V.keep0 A).keep0 S).keep T sO).keep0 ae).keep ah sO
    have o := ((((o.keep0 A).keep0 S).keep T sO).keep0 ae).keep ah sO
    have J := J.keep ah (sN J P)
    have hb := hb.step1 ah zx
    refine zB (I _ _ (zF fun _ I => zH (zY agg37 rfl (zC af rfl al) c ?_)))
    have an := R
    refine zZ size37 (zC af rfl ak) (zA af rfl) rfl (by simp only [yA, yB, yC, yD, o.one, a.1.one, V.1.one]; try rfl) R rfl ?_
    intro aj R ai
    have := ai.size
    have a := a.keep ai sO
    have V := V.keep ai sO
    have o := o.keep ai sO
    have l := (((((l.keep0 A).keep0 S).keep T sO).keep0 ae).keep ah sO).keep ai sO
    have B := ((B.kz ae).keepG (Gr.of ah) (Dj.one Y)).keepG (Gr.of ai) (Dj.one U)
    have J := J.keep ai (sN J an)
    have hb := hb.step1 ai zx
    refine zB (I _ _ (wp_ret (retC rfl ag (zC af rfl ak) agg37 rfl R ⟨_, rfl, ?_⟩)))
    exact ⟨hb, XS.mk (StF.mk 6 ((D.getD r default).t.nm) [] (.slice none 0 0) [] (.slice none 0 0) [] (.slice none 0 0) [] ad I9 Z X ac aa ab (.slice (some ⟨Q, 0, none⟩) 1 1) ([g]) (decide (((H : Nat) : Int) = 0))) (.slice none 0 0) [], rfl, SFr.flat ⟨(rdN _ _ _ _), (rdN _ _ _ _), (XsFr.nil _ _ _), (o.mono zx zx), (a.mono zx zx), (V.mono zx zx), (XsFr.lit1 (x := g) J zx J.lt (l.mono zx zx))⟩ (by refine ⟨?_, ?_, ?_⟩ <;> (try simp [XS.f]) <;> omega) rfl rfl, L, B, by omega⟩
   refine one_mem ?_
   intro af A _ ae T ag S o_ ho_; obtain rfl := zE ho_
   obtain ⟨hb, _⟩ := yG hb A
   have c := c.keep0 A
   obtain ⟨O, J⟩ := kb2 A O J
   have af : Sl ae 170 (ptr W 10) := (S 5 _ 170 zy rfl rfl).2 rfl
   have ag : Sl ae 166 (.slice (some ⟨Q, 0, none⟩) 1 1) := (zE ((S 1 _ 166 zy rfl rfl).1 rfl)).symm
   have P := c
   refine za (vs := [(.slice (some ⟨Q, 0, none⟩) 1 1)]) (cs' := [(.int .i64 6), (.string (bs (D.getD r default).t.nm)), (.string (bs [])), (.slice none 0 0), (.slice none 0 0), (.slice none 0 0), ad, (.string (bs Z)), X, aa, (.slice (some ⟨Q, 0, none⟩) 1 1), (.bool false), (.slice none 0 0)]) size33 (zC T rfl af) (zC T rfl ag) rfl rfl rfl c (zI rfl) rfl ?_
   intro T c S
   have := S.size
   have O := O.keep S (sN O P)
   have B := (B.kz A).keepG (Gr.of S) (Dj.one Y)
   have J := J.keep S (sN J P)
   have hb := hb.step1 S zx
   refine kt_end0 rfl O (kt_step (rs := [4]) zy (one_mem ?_))
   intro ah T _ af ag ai ae o_ ho_; obtain rfl := zE ho_
   obtain ⟨hb, _⟩ := yG hb T
   have O := O.keep0 T
   have B := B.kz T
   have ah : Sl af 168 (.int .i64 ((H : Nat) : Int)) := (zE ((ae 3 _ 168 zy rfl rfl).1 rfl)).symm
   refine op_cmp (b := (decide (((H : Nat) : Int) = 0))) (zC ag rfl ah) rfl (b_eql rfl) (kt_end rfl O ?_)
   intro ak ae aj af ag ah ai
   have ag := ag.trans ((by simp only [putsL_defers] : _ = _).trans z)
   obtain ⟨hb, _⟩ := yG hb ae
   have J := (J.keep0 T).keep0 ae
   have c := (c.keep0 T).keep0 ae
   have ak := (ah 6 rfl).trans (zL q rfl y)
   have al := (ah 7 rfl).trans (zL q rfl t)
   have ah : Sl aj 169 (.bool (decide (((H : Nat) : Int) = 0))) := (zE ((ai 4 _ 169 rfl rfl).1 rfl)).symm
   refine split_end (from_seq (tl := [_, _]) zz zy rfl (zM fld37_11 (zC af rfl al) ?_))
   have P := c
   refine za (vs := [(.bool (decide (((H : Nat) : Int) = 0)))]) (cs' := [(.int .i64 6), (.string (bs (D.getD r default).t.nm)), (.string (bs [])), (.slice none 0 0), (.slice none 0 0), (.slice none 0 0), ad, (.string (bs Z)), X, aa, (.slice (some ⟨Q, 0, none⟩) 1 1), (.bool (decide (((H : Nat) : Int) = 0))), (.slice none 0 0)]) size4 (zA af rfl) (zC af rfl ah) rfl rfl rfl c (zI rfl) rfl ?_
   intro ai c ah
   have := ah.size
   have R := ((((R.keep0 A).keep S sB).keep0 T).keep0 ae).keep ah sB
   have a := ((((a.keep0 A).keep S sO).keep0 T).keep0 ae).keep ah sO
   have V := ((((V.keep0 A).keep S sO).keep0 T).keep0 ae).keep ah sO
   have o := ((((o.keep0 A).keep S sO).keep0 T).keep0 ae).keep ah sO
   have J := J.keep ah (sN J P)
   have hb := hb.step1 ah zx
   refine zB (I _ _ (zF fun _ I => zH (zY agg37 rfl (zC af rfl al) c ?_)))
   have an := R
   refine zZ size37 (zC af rfl ak) (zA af rfl) rfl (by simp only [yA, yB, yC, yD, o.one, a.1.one, V.1.one]; try rfl) R rfl ?_
   intro aj R ai
   have := ai.size
   have a := a.keep ai sO
   have V := V.keep ai sO
   have o := o.keep ai sO
   have l := (((((l.keep0 A).keep S sO).keep0 T).keep0 ae).keep ah sO).keep ai sO
   have B := ((B.kz ae).keepG (Gr.of ah) (Dj.one Y)).keepG (Gr.of ai) (Dj.one U)
   have J := J.keep ai (sN J an)
   have hb := hb.step1 ai zx
   refine zB (I _ _ (wp_ret (retC rfl ag (zC af rfl ak) agg37 rfl R ⟨_, rfl, ?_⟩)))
   exact ⟨hb, XS.mk (StF.mk 6 ((D.getD r default).t.nm) [] (.slice none 0 0) [] (.slice none 0 0) [] (.slice none 0 0) [] ad I9 Z X ac aa ab (.slice (some ⟨Q, 0, none⟩) 1 1) ([g]) (decide (((H : Nat) : Int) = 0))) (.slice none 0 0) [], rfl, SFr.flat ⟨(rdN _ _ _ _), (rdN _ _ _ _), (XsFr.nil _ _ _), (o.mono zx zx), (a.mono zx zx), (V.mono zx zx), (XsFr.lit1 (x := g) J zx J.lt (l.mono zx zx))⟩ (by refine ⟨?_, ?_, ?_⟩ <;> (try simp [XS.f]) <;> omega) rfl rfl, L, B, by omega⟩
  refine one_mem ?_
  intro ae A _ Q S T J o_ ho_; obtain rfl := zE ho_
  obtain ⟨hb, _⟩ := yG hb A
  have O := O.keep0 A
  have B := B.kz A
  have T : Sl Q 168 (.int .i64 ((H : Nat) : Int)) := (zE ((J 3 _ 168 zy rfl rfl).1 rfl)).symm
  refine op_cmp (b := (decide (((H : Nat) : Int) = 0))) (zC S rfl T) rfl (b_eql rfl) (kt_end rfl O (kt_step (rs := [1]) zy (one_mem ?_)))
  intro af J _ S Q ae T o_ ho_; obtain rfl := zE ho_
  obtain ⟨hb, _⟩ := yG hb J
  have B := B.kz J
  have ae : Sl S 165 (.agg #[(.int .i64 g.op), (.int .i64 g.vk), (.int .i64 g.vi), (.string (bs g.vt)), (.string (bs g.tb)), (.string (bs g.nm)), g.av]) := (T 0 _ 165 zy rfl rfl).2 rfl
  refine op_bslice (e := 89) (pv := [(0, (.agg #[(.int .i64 g.op), (.int .i64 g.vk), (.int .i64 g.vi), (.string (bs g.vt)), (.string (bs g.tb)), (.string (bs g.nm)), g.av]))]) (cs := [(.int .i64 g.op), (.int .i64 g.vk), (.int .i64 g.vi), (.string (bs g.vt)), (.string (bs g.tb)), (.string (bs g.nm)), g.av]) ⟨rfl, (zC Q rfl ae), trivial⟩ zy ?_
  intro ae T ag af Q S
  have ae : ¬ (fun k => k = p) T := fun hf => by have := (B.lt _ hf).2; omega
  obtain ⟨hb, _⟩ := yG hb S
  have O := (O.keep0 J).keep0 S
  have B := B.kz S
  refine kt_end rfl O (kt_step (rs := [6]) zy (one_mem ?_))
  intro aj ae _ ag ah ai af o_ ho_; obtain rfl := zE ho_
  obtain ⟨hb, _⟩ := yG hb ae
  have c := (((c.keep0 A).keep0 J).keep0 S).keep0 ae
  obtain ⟨O, Q⟩ := kb2 ae O Q
  have ai : Sl ag 170 (ptr W 10) := (af 5 _ 170 zy rfl rfl).2 rfl
  have W : Sl ag 166 (.slice (some ⟨T, 0, none⟩) 1 1) := (zE ((af 1 _ 166 zy rfl rfl).1 rfl)).symm
  have P := c
  refine za (vs := [(.slice (some ⟨T, 0, none⟩) 1 1)]) (cs' := [(.int .i64 6), (.string (bs (D.getD r default).t.nm)), (.string (bs [])), (.slice none 0 0), (.slice none 0 0), (.slice none 0 0), ad, (.string (bs Z)), X, aa, (.slice (some ⟨T, 0, none⟩) 1 1), (.bool false), (.slice none 0 0)]) size33 (zC ah rfl ai) (zC ah rfl W) rfl rfl rfl c (zI rfl) rfl ?_
  intro af c W
  have := W.size
  have O := O.keep W (sN O P)
  have B := (B.kz ae).keepG (Gr.of W) (Dj.one Y)
  have Q := Q.keep W (sN Q P)
  have hb := hb.step1 W zx
  refine kt_end0 rfl O ?_
  intro ak O aj af ag ah ai
  have ag := ag.trans ((by simp only [putsL_defers] : _ = _).trans z)
  obtain ⟨hb, _⟩ := yG hb O
  have Q := Q.keep0 O
  have c := c.keep0 O
  have ak := (ah 6 rfl).trans (zL q rfl y)
  have al := (ah 7 rfl).trans (zL q rfl t)
  have ah : Sl aj 169 (.bool (decide (((H : Nat) : Int) = 0))) := (zE ((ai 4 _ 169 rfl rfl).1 rfl)).symm
  refine split_end (from_seq (tl := [_, _]) zz zy rfl (zM fld37_11 (zC af rfl al) ?_))
  have P := c
  refine za (vs := [(.bool (decide (((H : Nat) : Int) = 0)))]) (cs' := [(.int .i64 6), (.string (bs (D.getD r default).t.nm)), (.string (bs [])), (.slice none 0 0), (.slice none 0 0), (.slice none 0 0), ad, (.string (bs Z)), X, aa, (.slice (some ⟨T, 0, none⟩) 1 1), (.bool (decide (((H : Nat) : Int) = 0))), (.slice none 0 0)]) size4 (zA af rfl) (zC af rfl ah) rfl rfl rfl c (zI rfl) rfl ?_
  intro ai c ah
  have := ah.size
  have R := ((((((R.keep0 A).keep0 J).keep0 S).keep0 ae).keep W sB).keep0 O).keep ah sB
  have a := ((((((a.keep0 A).keep0 J).keep0 S).keep0 ae).keep W sO).keep0 O).keep ah sO
  have V := ((((((V.keep0 A).keep0 J).keep0 S).keep0 ae).keep W sO).keep0 O).keep ah sO
  have o := ((((((o.keep0 A).keep0 J).keep0 S).keep0 ae).keep W sO).keep0 O).keep ah sO
  have Q := Q.keep ah (sN Q P)
  have hb := hb.step1 ah zx
  refine zB (I _ _ (zF fun _ I => zH (zY agg37 rfl (zC af rfl al) c ?_)))
  have an := R
  refine zZ size37 (zC af rfl ak) (zA af rfl) rfl (by simp only [yA, yB, yC, yD, o.one, a.1.one, V.1.one]; try rfl) R rfl ?_
  intro ai R P
  have := P.size
  have a := a.keep P sO
  have V := V.keep P sO
  have o := o.keep P sO
  have l := (((((((l.keep0 A).keep0 J).keep0 S).keep0 ae).keep W sO).keep0 O).keep ah sO).keep P sO
  have B := ((B.kz O).keepG (Gr.of ah) (Dj.one Y)).keepG (Gr.of P) (Dj.one U)
  have Q := Q.keep P (sN Q an)
  have hb := hb.step1 P zx
  refine zB (I _ _ (wp_ret (retC rfl ag (zC af rfl ak) agg37 rfl R ⟨_, rfl, ?_⟩)))
  exact ⟨hb, XS.mk (StF.mk 6 ((D.getD r default).t.nm) [] (.slice none 0 0) [] (.slice none 0 0) [] (.slice none 0 0) [] ad I9 Z X ac aa ab (.slice (some ⟨T, 0, none⟩) 1 1) ([g]) (decide (((H : Nat) : Int) = 0))) (.slice none 0 0) [], rfl, SFr.flat ⟨(rdN _ _ _ _), (rdN _ _ _ _), (XsFr.nil _ _ _), (o.mono zx zx), (a.mono zx zx), (V.mono zx zx), (XsFr.lit1 (x := g) Q zx Q.lt (l.mono zx zx))⟩ (by refine ⟨?_, ?_, ?_⟩ <;> (try simp [XS.f]) <;> omega) rfl rfl, L, B, by omega⟩
 refine zB (J1 _ _ (wp_cond_false (zA q rfl) (wp_skip (I _ _ (zF fun _ I => zH (zY agg37 rfl (zC q rfl t) c (zZ size37 (zC q rfl y) (zA q rfl) rfl (by simp only [yA, yB, yC, yD, o.one, a.1.one, V.1.one]; try rfl) R rfl ?_)))))))
 intro g R c
 have := c.size
 have a := a.keep c sO
 have V := V.keep c sO
 have o := o.keep c sO
 have F := F.keepG (Gr.of c) (Dj.one U)
 have hb := hb.step1 c zx
 refine zB (I _ _ (wp_ret (retC rfl z (zC q rfl y) agg37 rfl R ⟨_, rfl, ?_⟩)))
 exact ⟨hb, XS.mk (StF.mk 6 ((D.getD r default).t.nm) [] (.slice none 0 0) [] (.slice none 0 0) [] (.slice none 0 0) [] ad I9 Z X ac aa ab (.slice none 0 0) [] false) (.slice none 0 0) [], rfl, SFr.flat ⟨(rdN _ _ _ _), (rdN _ _ _ _), (XsFr.nil _ _ _), (o.mono zx zx), (a.mono zx zx), (V.mono zx zx), (XsFr.nil _ _ _)⟩ (by refine ⟨?_, ?_, ?_⟩ <;> (try simp [XS.f]) <;> omega) rfl rfl, M, F, by omega⟩

set_option maxHeartbeats 8000000 in
theorem Data_ret {base p n Bp : Nat} {lv : Value} {bl : List UInt8} {w : World} (hpk : PickR w base p lv bl n (fun k => k = p)) (hBp : Bp ≤ p) (hbl : RdC w 0 Bp 1 lv bl.length (bl.map u8v)) : Ret Tryz.prog 20 #[(ptr p 0)] w (fun v' w' => Gr w w' (fun k => k = p) ∧ ∃ s : XS, v' = (.agg #[(.int .i64 s.f.kind), (.string (bs s.f.tb)), (.string (bs s.f.nm)), s.f.cv, s.f.gv, s.f.vv, s.f.iv, (.string (bs s.f.join)), s.f.ov, s.f.wv, s.f.rv, (.bool s.f.desc), s.nv]) ∧ SFr w' w.heap.size w'.heap.size s ∧ ∃ n' : Nat, PickR w' base p lv bl n' (fun k => k = p) ∧ n ≤ n' ∧ (n < bl.length → n < n')) := by
 have hi_p : p < w.heap.size := (hpk.lt p rfl).2
 have c := Expr_all
 have hb := Gr.refl w (fun k => k = p)
 refine enter (N := 97) Tryz.func20 rfl rfl (by simp) fun g hN hd hA => ?_
 have l : g.tmps.getD 0 undef = (ptr p 0) := hA 0 (by simp)
 clear hA
 have c_hbl : ∀ k, (fun k => k = p) k → k < 0 ∨ Bp ≤ k := fun k hk => .inr (by have := hpk.lt k hk; omega)
 refine zF fun _ g => zH (op_alloc (cs := [(.int .i64 0), (.string (bs [])), (.string (bs [])), (.slice none 0 0), (.slice none 0 0), (.slice none 0 0), (.slice none 0 0), (.string (bs [])), (.slice none 0 0), (.slice none 0 0), (.slice none 0 0), (.bool false), (.slice none 0 0)]) zero37 rfl ?_)
 intro q t z A o y
 have z : ¬ (fun k => k = p) t := fun hf => by have := (hpk.lt _ hf).2; omega
 obtain ⟨hb, _⟩ := yG hb y
 have hpk := hpk.kz y
 refine zB (g _ _ (zF fun _ g => zH (zj ok16 (SchemaL_ret _) trivial ?_)))
 rintro _ D ⟨F, B, y, rfl, H, A⟩
 have F := zQ F
 obtain ⟨hb, _⟩ := yG hb F
 have hpk := hpk.kz F
 have I := A.1
 obtain ⟨L, J⟩ := sch_3 H
 refine op_alloc (cs := [(.slice none 0 0), (.slice none 0 0)]) zero30 rfl ?_
 intro P M R Q L O
 have P : ¬ (fun k => k = p) M := fun hf => by have := (hpk.lt _ hf).2; omega
 obtain ⟨hb, _⟩ := yG hb O
 have o := (o.keep0 F).keep0 O
 have I := I.keep0 O
 have F := L
 refine zZ size30 (zA hN rfl) (zA hN rfl) rfl (by simp only [yA, yB, yC, yD, I.one]; try rfl) L rfl ?_
 intro R L Q
 have := Q.size
 have hpk := (hpk.kz O).keepG (Gr.of Q) (Dj.one P)
 have o := o.keep Q (sN o F)
 have I := I.keep Q sO
 have A := (A.keep0 O).keep Q sO
 have hb := hb.step1 Q zx
 refine zB (g _ _ (seq_join1 (N := 97) (fun az_ w' => ∃ (O F Q : Nat), (Sl az_ 0 (ptr p 0)) ∧ (Sl az_ 2 (ptr t 0)) ∧ (Sl az_ 3 (ptr M 0)) ∧ (Sl az_ 4 (ptr O 0)) ∧ (F < y.length) ∧ (n ≤ Q ∧ (n < bl.length → n < Q)) ∧ (O < w'.heap.size) ∧ (w.heap.size ≤ O) ∧ (Gr w w' (fun k => k = p)) ∧ (R.heap.size ≤ w'.heap.size) ∧ (Bx w' t 37 [(.int .i64 0), (.string (bs [])), (.string (bs [])), (.slice none 0 0), (.slice none 0 0), (.slice none 0 0), (.slice none 0 0), (.string (bs [])), (.slice none 0 0), (.slice none 0 0), (.slice none 0 0), (.bool false), (.slice none 0 0)]) ∧ (RdC w' q.heap.size D.heap.size 3 B y.length (y.flatMap cellsT)) ∧ (TsFr w' q.heap.size D.heap.size B y) ∧ (Bx w' M 30 [B, (.slice none 0 0)]) ∧ (Bx w' O 51 [(.string (bs (y.getD F default).t.nm)), (y.getD F default).cv, (y.getD F default).iv]) ∧ (PickR w' base p lv bl Q (fun k => k = p))) (fun S => ?_) ?_))
 ·
  refine zF fun _ g => reg_split (hd := [_, _, _, _, _, _, _]) (tl := _) 7 mixed zy rfl rfl (any_tree (φ := phiV [(fun uz => uz = (ptr M 0)), (fun uz => uz = B), (fun uz => uz = (ptr p 0)), (fun _ => True), (fun _ => True), (fun _ => True), (fun _ => True)]) (G := fun w' => Bx w' M 30 [B, (.slice none 0 0)]) [3, 4, 5, 6] zy zy zy zy zy hN (fun q R E h => h.keep0 E) L (ObRs9.cons ?_ (ObRs9.cons ?_ (ObRs9.cons ?_ (ObRs9.pass rfl (ObRs9.pass rfl (ObRs9.pass rfl (ObRs9.pass rfl (ObRs9.nil)))))))) (by simp only [putsL_defers]) ?_)
  ·
   intro eA aA wA hNA hGA hbsA hdpA
   have T := (hbsA 3 rfl).trans (zU hN rfl)
   refine zM fld30_0 (zC hNA rfl T) ?_
   exact obT_end rfl rfl
  ·
   intro eA aA wA hNA hGA hbsA hdpA
   have T : Sl aA 11 (ptr M 0) := (hdpA 0 _ 11 zy rfl rfl).2 rfl
   refine zN one27 (zC hNA rfl T) (hGA.cell rfl) ?_
   exact obT_end rfl rfl
  ·
   intro eA aA wA hNA hGA hbsA hdpA
   have T := (hbsA 0 rfl).trans (zL hN rfl l)
   refine zG (zC hNA rfl T) ?_
   exact obT_end rfl rfl
  refine kt_step (rs := [3, 6]) zy (more_mem ?_ ?_)
  ·
   intro Z U _ X W aa Y o_ ho_; obtain rfl := zE ho_
   obtain ⟨hb, _⟩ := yG hb U
   have hpk := hpk.kz U
   have Z : Sl X 13 (ptr p 0) := (Y 2 _ 13 zy rfl rfl).2 rfl
   have hbl' := hbl.keepG hb c_hbl
   refine zj ok15 (Num_ret (m := 2) hpk zx hbl' zx zx) ⟨(zC W rfl Z), ⟨rfl, trivial⟩⟩ ?_
   rintro _ ab ⟨Y, W, rfl, ac, Z, X, ad, aa⟩
   have := Y.size
   have o := (o.keep0 U).keepG Y z
   have I := (I.keep0 U).keepG Y sP
   have A := (A.keep0 U).keepG Y sP
   have L := (L.keep0 U).keepG Y P
   have hb := hb.stepF Y (fun _ _ h => h)
   refine kt_end rfl L (kt_step (rs := [4, 6]) zy (more_mem ?_ ?_))
   ·
    intro ac U _ aa Y ad ab o_ ho_; obtain rfl := zE ho_
    obtain ⟨hb, _⟩ := yG hb U
    have I := I.keep0 U
    have A := A.keep0 U
    obtain ⟨o, L⟩ := kb2 U o L
    have X := X.kz U
    have U : Sl aa 12 B := (ab 1 _ 12 zy rfl rfl).2 rfl
    have ad : Sl aa 14 (.int .i64 ((W : Nat) : Int)) := (zE ((ab 3 _ 14 zy rfl rfl).1 rfl)).symm
    refine zh slt27 (zC Y rfl U) I (zC Y rfl ad) zx zx ?_
    intro U Y ad ab aa
    have ab : PtC ac q.heap.size D.heap.size U Y [(.string (bs (y.getD W default).t.nm)), (y.getD W default).cv, (y.getD W default).iv] := ⟨by omega, by omega, fun j u hu => aa j u (by have := (List.getElem?_eq_some_iff.1 hu).1; simpa using this) ((el_dt (i := W) zx zx) j u hu)⟩
    refine kt_end rfl L (kt_step (rs := [5, 6]) zy (more_mem ?_ ?_))
    ·
     intro ag aa _ ad ae af ac o_ ho_; obtain rfl := zE ho_
     obtain ⟨hb, _⟩ := yG hb aa
     have L := L.keep0 aa
     have X := X.kz aa
     have ab := ab.keep0 aa
     have af : Sl ad 15 (ptr U Y) := (zE ((ac 4 _ 15 zy rfl rfl).1 rfl)).symm
     refine zX (cs := [(.string (bs (y.getD W default).t.nm)), (y.getD W default).cv, (y.getD W default).iv]) agg51 rfl (zC ae rfl af) (fun j u hu => ab.2.2 j u hu) (kt_end rfl L (kt_step (rs := [6]) zy (one_mem ?_)))
     intro ae ac _ ag ad ah af o_ ho_; obtain rfl := zE ho_
     obtain ⟨hb, _⟩ := yG hb ac
     have X := X.kz ac
     refine op_alloc (cs := [(.string (bs [])), (.slice none 0 0), (.slice none 0 0)]) zero51 rfl ?_
     intro ai af ag ah ad ae
     have ag : ¬ (fun k => k = p) af := fun hf => by have := (X.lt _ hf).2; omega
     obtain ⟨hb, _⟩ := yG hb ae
     have L := (L.keep0 ac).keep0 ae
     have X := X.kz ae
     refine kt_end rfl L ?_
     intro an ai al ah aj ak am
     have aj := aj.trans ((by simp only [putsL_defers] : _ = _).trans hd)
     obtain ⟨hb, _⟩ := yG hb ai
     have o := (((o.keep0 aa).keep0 ac).keep0 ae).keep0 ai
     have A := (((A.keep0 aa).keep0 ac).keep0 ae).keep0 ai
     obtain ⟨L, ad⟩ := kb2 ai L ad
     have an := (ak 0 rfl).trans (zL hN rfl l)
     have ao := (ak 2 rfl).trans (zU hN rfl)
     have ap := (ak 3 rfl).trans (zU hN rfl)
     have ak : Sl al 4 (ptr af 0) := (zE ((am 6 _ 4 rfl rfl).1 rfl)).symm
     have aq : Sl al 16 (.agg #[(.string (bs (y.getD W default).t.nm)), (y.getD W default).cv, (y.getD W default).iv]) := (zE ((am 5 _ 16 rfl rfl).1 rfl)).symm
     refine split_end (from_seq (tl := [_]) zz zy rfl ?_)
     have al := ad
     refine zZ size51 (zC ah rfl ak) (zC ah rfl aq) rfl (by simp only [yA, yB, yC, yD, (A.2 (y.getD W default) (getD_mem zx)).1.one, (A.2 (y.getD W default) (getD_mem zx)).2.one]; try rfl) ad rfl ?_
     intro aq ad am
     have := am.size
     have o := o.keep am (sN o al)
     have I := ((((I.keep0 aa).keep0 ac).keep0 ae).keep0 ai).keep am sO
     have A := A.keep am sO
     have L := L.keep am (sN L al)
     have X := (X.kz ai).keepG (Gr.of am) (Dj.one ag)
     have hb := hb.step1 am zx
     refine zB (g _ _ ?_)
     exact S _ _ _ ah aj ⟨af, W, Z, (zL ah rfl an), (zL ah rfl ao), (zL ah rfl ap), (zL ah rfl ak), zx, zx, ad.lt, zx, hb, zx, o, I, A, L, ad, X⟩
    refine one_mem ?_
    intro ac aa _ af ad ag ae o_ ho_; obtain rfl := zE ho_
    obtain ⟨hb, _⟩ := yG hb aa
    have X := X.kz aa
    refine op_alloc (cs := [(.string (bs [])), (.slice none 0 0), (.slice none 0 0)]) zero51 rfl ?_
    intro ah ae af ag ad ac
    have af : ¬ (fun k => k = p) ae := fun hf => by have := (X.lt _ hf).2; omega
    obtain ⟨hb, _⟩ := yG hb ac
    have L := (L.keep0 aa).keep0 ac
    have X := X.kz ac
    refine kt_end rfl L (kt_step (rs := [5]) zy (one_mem ?_))
    intro al ag _ aj ai ak ah o_ ho_; obtain rfl := zE ho_
    obtain ⟨hb, _⟩ := yG hb ag
    have L := L.keep0 ag
    have X := X.kz ag
    have ab := ((ab.keep0 aa).keep0 ac).keep0 ag
    have ak : Sl aj 15 (ptr U Y) := (zE ((ah 4 _ 15 zy rfl rfl).1 rfl)).symm
    refine zX (cs := [(.string (bs (y.getD W default).t.nm)), (y.getD W default).cv, (y.getD W default).iv]) agg51 rfl (zC ai rfl ak) (fun j u hu => ab.2.2 j u hu) (kt_end rfl L ?_)
    intro ak Y ai U ab ah aj
    have ab := ab.trans ((by simp only [putsL_defers] : _ = _).trans hd)
    obtain ⟨hb, _⟩ := yG hb Y
    have o := (((o.keep0 aa).keep0 ac).keep0 ag).keep0 Y
    have A := (((A.keep0 aa).keep0 ac).keep0 ag).keep0 Y
    have L := L.keep0 Y
    have ad := (ad.keep0 ag).keep0 Y
    have ak := (ah 0 rfl).trans (zL hN rfl l)
    have al := (ah 2 rfl).trans (zU hN rfl)
    have am := (ah 3 rfl).trans (zU hN rfl)
    have ah : Sl ai 4 (ptr ae 0) := (zE ((aj 6 _ 4 rfl rfl).1 rfl)).symm
    have an : Sl ai 16 (.agg #[(.string (bs (y.getD W default).t.nm)), (y.getD W default).cv, (y.getD W default).iv]) := (zE ((aj 5 _ 16 rfl rfl).1 rfl)).symm
    refine split_end (from_seq (tl := [_]) zz zy rfl ?_)
    have ai := ad
    refine zZ size51 (zC U rfl ah) (zC U rfl an) rfl (by simp only [yA, yB, yC, yD, (A.2 (y.getD W default) (getD_mem zx)).1.one, (A.2 (y.getD W default) (getD_mem zx)).2.one]; try rfl) ad rfl ?_
    intro an ad aj
    have := aj.size
    have o := o.keep aj (sN o ai)
    have I := ((((I.keep0 aa).keep0 ac).keep0 ag).keep0 Y).keep aj sO
    have A := A.keep aj sO
    have L := L.keep aj (sN L ai)
    have X := (X.kz Y).keepG (Gr.of aj) (Dj.one af)
    have hb := hb.step1 aj zx
    refine zB (g _ _ ?_)
    exact S _ _ _ U ab ⟨ae, W, Z, (zL U rfl ak), (zL U rfl al), (zL U rfl am), (zL U rfl ah), zx, zx, ad.lt, zx, hb, zx, o, I, A, L, ad, X⟩
   refine one_mem ?_
   intro aa U _ ad ac ab Y o_ ho_; obtain rfl := zE ho_
   obtain ⟨hb, _⟩ := yG hb U
   have X := X.kz U
   refine op_alloc (cs := [(.string (bs [])), (.slice none 0 0), (.slice none 0 0)]) zero51 rfl ?_
   intro ae ab ad ac Y aa
   have ac : ¬ (fun k => k = p) ab := fun hf => by have := (X.lt _ hf).2; omega
   obtain ⟨hb, _⟩ := yG hb aa
   have L := (L.keep0 U).keep0 aa
   have X := X.kz aa
   refine kt_end rfl L (kt_step (rs := [4]) zy (one_mem ?_))
   intro ah ad _ ag ae ai af o_ ho_; obtain rfl := zE ho_
   obtain ⟨hb, _⟩ := yG hb ad
   have I := ((I.keep0 U).keep0 aa).keep0 ad
   have L := L.keep0 ad
   have X := X.kz ad
   have ai : Sl ag 12 B := (af 1 _ 12 zy rfl rfl).2 rfl
   have aj : Sl ag 14 (.int .i64 ((W : Nat) : Int)) := (zE ((af 3 _ 14 zy rfl rfl).1 rfl)).symm
   refine zh slt27 (zC ae rfl ai) I (zC ae rfl aj) zx zx ?_
   intro ae af ai aj ag
   have ai : PtC ah q.heap.size D.heap.size ae af [(.string (bs (y.getD W default).t.nm)), (y.getD W default).cv, (y.getD W default).iv] := ⟨by omega, by omega, fun j u hu => ag j u (by have := (List.getElem?_eq_some_iff.1 hu).1; simpa using this) ((el_dt (i := W) zx zx) j u hu)⟩
   refine kt_end rfl L (kt_step (rs := [5]) zy (one_mem ?_))
   intro al ag _ ak ah am aj o_ ho_; obtain rfl := zE ho_
   obtain ⟨hb, _⟩ := yG hb ag
   have L := L.keep0 ag
   have X := X.kz ag
   have ai := ai.keep0 ag
   have al : Sl ak 15 (ptr ae af) := (zE ((aj 4 _ 15 zy rfl rfl).1 rfl)).symm
   refine zX (cs := [(.string (bs (y.getD W default).t.nm)), (y.getD W default).cv, (y.getD W default).iv]) agg51 rfl (zC ah rfl al) (fun j u hu => ai.2.2 j u hu) (kt_end rfl L ?_)
   intro al ae aj af ah ai ak
   have ah := ah.trans ((by simp only [putsL_defers] : _ = _).trans hd)
   obtain ⟨hb, _⟩ := yG hb ae
   have o := ((((o.keep0 U).keep0 aa).keep0 ad).keep0 ag).keep0 ae
   have A := ((((A.keep0 U).keep0 aa).keep0 ad).keep0 ag).keep0 ae
   have L := L.keep0 ae
   have Y := ((Y.keep0 ad).keep0 ag).keep0 ae
   have U := (ai 0 rfl).trans (zL hN rfl l)
   have aa := (ai 2 rfl).trans (zU hN rfl)
   have ad := (ai 3 rfl).trans (zU hN rfl)
   have ai : Sl aj 4 (ptr ab 0) := (zE ((ak 6 _ 4 rfl rfl).1 rfl)).symm
   have al : Sl aj 16 (.agg #[(.string (bs (y.getD W default).t.nm)), (y.getD W default).cv, (y.getD W default).iv]) := (zE ((ak 5 _ 16 rfl rfl).1 rfl)).symm
   refine split_end (from_seq (tl := [_]) zz zy rfl ?_)
   have aj := Y
   refine zZ size51 (zC af rfl ai) (zC af rfl al) rfl (by simp only [yA, yB, yC, yD, (A.2 (y.getD W default) (getD_mem zx)).1.one, (A.2 (y.getD W default) (getD_mem zx)).2.one]; try rfl) Y rfl ?_
   intro al Y ak
   have := ak.size
   have o := o.keep ak (sN o aj)
   have I := ((I.keep0 ag).keep0 ae).keep ak sO
   have A := A.keep ak sO
   have L := L.keep ak (sN L aj)
   have X := (X.kz ae).keepG (Gr.of ak) (Dj.one ac)
   have hb := hb.step1 ak zx
   refine zB (g _ _ ?_)
   exact S _ _ _ af ah ⟨ab, W, Z, (zL af rfl U), (zL af rfl aa), (zL af rfl ad), (zL af rfl ai), zx, zx, Y.lt, zx, hb, zx, o, I, A, L, Y, X⟩
  refine one_mem ?_
  intro Z U _ W X aa Y o_ ho_; obtain rfl := zE ho_
  obtain ⟨hb, _⟩ := yG hb U
  have hpk := hpk.kz U
  refine op_alloc (cs := [(.string (bs [])), (.slice none 0 0), (.slice none 0 0)]) zero51 rfl ?_
  intro ab Y Z aa W X
  have Z : ¬ (fun k => k = p) Y := fun hf => by have := (hpk.lt _ hf).2; omega
  obtain ⟨hb, _⟩ := yG hb X
  have hpk := hpk.kz X
  have L := (L.keep0 U).keep0 X
  refine kt_end rfl L (kt_step (rs := [3]) zy (one_mem ?_))
  intro ae aa _ ad ac af ab o_ ho_; obtain rfl := zE ho_
  obtain ⟨hb, _⟩ := yG hb aa
  have hpk := hpk.kz aa
  have ae : Sl ad 13 (ptr p 0) := (ab 2 _ 13 zy rfl rfl).2 rfl
  have hbl' := hbl.keepG hb c_hbl
  refine zj ok15 (Num_ret (m := 2) hpk zx hbl' zx zx) ⟨(zC ac rfl ae), ⟨rfl, trivial⟩⟩ ?_
  rintro _ ai ⟨ad, ab, rfl, ag, ae, ac, ah, af⟩
  have := ad.size
  have L := (L.keep0 aa).keepG ad P
  have hb := hb.stepF ad (fun _ _ h => h)
  refine kt_end rfl L (kt_step (rs := [4]) zy (one_mem ?_))
  intro aj af _ ai ag ak ah o_ ho_; obtain rfl := zE ho_
  obtain ⟨hb, _⟩ := yG hb af
  have I := ((((I.keep0 U).keep0 X).keep0 aa).keepG ad sP).keep0 af
  have L := L.keep0 af
  have ac := ac.kz af
  have ak : Sl ai 12 B := (ah 1 _ 12 zy rfl rfl).2 rfl
  have al : Sl ai 14 (.int .i64 ((ab : Nat) : Int)) := (zE ((ah 3 _ 14 zy rfl rfl).1 rfl)).symm
  refine zh slt27 (zC ag rfl ak) I (zC ag rfl al) zx zx ?_
  intro ah ag al ak ai
  have ak : PtC aj q.heap.size D.heap.size ah ag [(.string (bs (y.getD ab default).t.nm)), (y.getD ab default).cv, (y.getD ab default).iv] := ⟨by omega, by omega, fun j u hu => ai j u (by have := (List.getElem?_eq_some_iff.1 hu).1; simpa using this) ((el_dt (i := ab) zx zx) j u hu)⟩
  refine kt_end rfl L (kt_step (rs := [5]) zy (one_mem ?_))
  intro ao ai _ am aj an al o_ ho_; obtain rfl := zE ho_
  obtain ⟨hb, _⟩ := yG hb ai
  have L := L.keep0 ai
  have ac := ac.kz ai
  have ak := ak.keep0 ai
  have an : Sl am 15 (ptr ah ag) := (zE ((al 4 _ 15 zy rfl rfl).1 rfl)).symm
  refine zX (cs := [(.string (bs (y.getD ab default).t.nm)), (y.getD ab default).cv, (y.getD ab default).iv]) agg51 rfl (zC aj rfl an) (fun j u hu => ak.2.2 j u hu) (kt_end rfl L ?_)
  intro an ag am ah ak aj al
  have ak := ak.trans ((by simp only [putsL_defers] : _ = _).trans hd)
  obtain ⟨hb, _⟩ := yG hb ag
  have o := ((((((o.keep0 U).keep0 X).keep0 aa).keepG ad z).keep0 af).keep0 ai).keep0 ag
  have A := ((((((A.keep0 U).keep0 X).keep0 aa).keepG ad sP).keep0 af).keep0 ai).keep0 ag
  have L := L.keep0 ag
  have W := ((((W.keep0 aa).keepG ad Z).keep0 af).keep0 ai).keep0 ag
  have U := (aj 0 rfl).trans (zL hN rfl l)
  have l := (aj 2 rfl).trans (zU hN rfl)
  have X := (aj 3 rfl).trans (zU hN rfl)
  have aa : Sl am 4 (ptr Y 0) := (zE ((al 6 _ 4 rfl rfl).1 rfl)).symm
  have ad : Sl am 16 (.agg #[(.string (bs (y.getD ab default).t.nm)), (y.getD ab default).cv, (y.getD ab default).iv]) := (zE ((al 5 _ 16 rfl rfl).1 rfl)).symm
  refine split_end (from_seq (tl := [_]) zz zy rfl ?_)
  have af := W
  refine zZ size51 (zC ah rfl aa) (zC ah rfl ad) rfl (by simp only [yA, yB, yC, yD, (A.2 (y.getD ab default) (getD_mem zx)).1.one, (A.2 (y.getD ab default) (getD_mem zx)).2.one]; try rfl) W rfl ?_
  intro aj W ad
  have := ad.size
  have o := o.keep ad (sN o af)
  have I := ((I.keep0 ai).keep0 ag).keep ad sO
  have A := A.keep ad sO
  have L := L.keep ad (sN L af)
  have ac := (ac.kz ag).keepG (Gr.of ad) (Dj.one Z)
  have hb := hb.step1 ad zx
  refine zB (g _ _ ?_)
  exact S _ _ _ ah ak ⟨Y, ab, ae, (zL ah rfl U), (zL ah rfl l), (zL ah rfl X), (zL ah rfl aa), zx, zx, W.lt, zx, hb, zx, o, I, A, L, W, ac⟩
 rintro ad U S aa ⟨O, F, Q, W, Z, Y, X, ag, ab, ac, ae, hb, af, o, I, A, L, l, hpk⟩
 have := hb.size
 refine zF fun _ g => zH ?_
 have ac := (A.2 (y.getD F default) (getD_mem zx)).1
 have ad : (y.getD F default).t.cols.length = 3 := J _ (getD_mem zx)
 have J : (colsOf (y.getD F default).t.nm (y.getD F default).t.cols).length = 3 := by rw [cols_len, ad]
 refine zY agg51 rfl (zC S rfl X) l (zj ok42 (Cols_ret (nm := ((y.getD F default).t.nm)) zx (ac.mono (Nat.zero_le _) zx)) ⟨(zA S rfl), trivial⟩ ?_)
 rintro _ ah ⟨ag, ae, af, rfl, J, ad⟩
 have ag := zQ ag
 obtain ⟨hb, _⟩ := yG hb ag
 have l := l.keep0 ag
 have hpk := hpk.kz ag
 refine zG (zA S rfl) (zW (zA S rfl) rfl (zW (zA S rfl) rfl (zD (zA S rfl) (zD (zA S rfl) (zB (g _ _ (zF fun _ g => zF fun _ J1 => zH (zG (zC S rfl W) ?_))))))))
 have hbl' := hbl.keepG hb c_hbl
 refine zj ok15 (Num_ret (m := 7) hpk zx hbl' zx zx) ⟨(zA S rfl), ⟨rfl, trivial⟩⟩ ?_
 rintro _ al ⟨aj, am, rfl, an, ak, ai, ao, ap⟩
 have hpk_old := hpk
 have := aj.size
 have o := (o.keep0 ag).keepG aj z
 have I := (I.keep0 ag).keepG aj sP
 have A := (A.keep0 ag).keepG aj sP
 have L := (L.keep0 ag).keepG aj P
 have l := l.keepG aj (hpk_old.notBx l zz)
 have ac := (ac.keep0 ag).keepG aj sP
 have J := J.keepG aj sP
 have ad := ad.keepG aj sP
 have hb := hb.stepF aj (fun _ _ h => h)
 refine zB (J1 _ _ (wp_block (seq_join1 (N := 97) (fun az_ w' => ∃ (aj : Bool), (Sl az_ 0 (ptr p 0)) ∧ (Sl az_ 2 (ptr t 0)) ∧ (Sl az_ 3 (ptr M 0)) ∧ (Sl az_ 4 (ptr O 0)) ∧ (Sl az_ 5 ae) ∧ (Sl az_ 6 af) ∧ (Sl az_ 23 (.int .i64 ((am : Nat) : Int))) ∧ (Sl az_ 24 (.bool aj)) ∧ (Gr w w' (fun k => k = p)) ∧ (al.heap.size ≤ w'.heap.size) ∧ (Bx w' t 37 [(.int .i64 0), (.string (bs [])), (.string (bs [])), (.slice none 0 0), (.slice none 0 0), (.slice none 0 0), (.slice none 0 0), (.string (bs [])), (.slice none 0 0), (.slice none 0 0), (.slice none 0 0), (.bool false), (.slice none 0 0)]) ∧ (RdC w' q.heap.size D.heap.size 3 B y.length (y.flatMap cellsT)) ∧ (TsFr w' q.heap.size D.heap.size B y) ∧ (Bx w' M 30 [B, (.slice none 0 0)]) ∧ (Bx w' O 51 [(.string (bs (y.getD F default).t.nm)), (y.getD F default).cv, (y.getD F default).iv]) ∧ (RdC w' q.heap.size D.heap.size 3 (y.getD F default).cv ((y.getD F default).t.cols).length (((y.getD F default).t.cols).flatMap cellsC)) ∧ (RdC w' U.heap.size ah.heap.size 3 ae (colsOf ((y.getD F default).t.nm) ((y.getD F default).t.cols)).length ((colsOf ((y.getD F default).t.nm) ((y.getD F default).t.cols)).flatMap cellsI)) ∧ (RdC w' U.heap.size ah.heap.size 1 af (kindsOf ((y.getD F default).t.cols)).length ((kindsOf ((y.getD F default).t.cols)).map (Value.int .i64))) ∧ (PickR w' base p lv bl ak (fun k => k = p))) (fun ag => ?_) ?_)))
 ·
  refine zF fun _ J1 => zF fun _ J2 => zH (op_eql (zA S rfl) rfl (fun ak => ?_) (fun ak => ?_))
  ·
   refine zD (zA S rfl) (zB (J2 _ _ (wp_cond_true (zA S rfl) (wp_skip (J1 _ _ ?_)))))
   exact ag _ _ _ S aa ⟨true, (zL S rfl W), (zL S rfl Z), (zL S rfl Y), (zL S rfl X), (zU S rfl), (zU S rfl), (zU S rfl), (zU S rfl), hb, zx, o, I, A, L, l, ac, J, ad, ai⟩
  refine zD (zA S rfl) (zB (J2 _ _ (wp_cond_false (zA S rfl) (zF fun _ J2 => zH (op_eql (zA S rfl) rfl (fun ak => ?_) (fun ak => ?_))))))
  ·
   refine zD (zA S rfl) (zB (J2 _ _ (wp_cond_true (zA S rfl) (wp_skip (J1 _ _ ?_)))))
   exact ag _ _ _ S aa ⟨true, (zL S rfl W), (zL S rfl Z), (zL S rfl Y), (zL S rfl X), (zU S rfl), (zU S rfl), (zU S rfl), (zU S rfl), hb, zx, o, I, A, L, l, ac, J, ad, ai⟩
  refine zD (zA S rfl) (zB (J2 _ _ (wp_cond_false (zA S rfl) (zH (op_eql (zA S rfl) rfl (fun ak => ?_) (fun ak => ?_))))))
  ·
   refine zD (zA S rfl) (zB (J1 _ _ ?_))
   exact ag _ _ _ S aa ⟨true, (zL S rfl W), (zL S rfl Z), (zL S rfl Y), (zL S rfl X), (zU S rfl), (zU S rfl), (zU S rfl), (zU S rfl), hb, zx, o, I, A, L, l, ac, J, ad, ai⟩
  refine zD (zA S rfl) (zB (J1 _ _ ?_))
  exact ag _ _ _ S aa ⟨false, (zL S rfl W), (zL S rfl Z), (zL S rfl Y), (zL S rfl X), (zU S rfl), (zU S rfl), (zU S rfl), (zU S rfl), hb, zx, o, I, A, L, l, ac, J, ad, ai⟩
 rintro ao al S Z ⟨aj, Y, X, ag, W, aa, ak, am, an, hb, ap, o, I, A, L, l, ac, J, ad, ai⟩
 have := hb.size
 refine wp_cond_split (zC S rfl an) (fun aj => ?_) (fun aj => ?_)
 ·
  refine zF fun _ J1 => zH (zM fld51_0 (zC S rfl W) (zN one9 (zA S rfl) (l.cell rfl) (zf (pv := [(0, (.int .i64 5)), (1, (.string (bs (y.getD F default).t.nm)))]) (v := (Value.agg #[(.int .i64 5), (.string (bs (y.getD F default).t.nm)), (.string (bs [])), (.slice none 0 0), (.slice none 0 0), (.slice none 0 0), (.slice none 0 0), (.string (bs [])), (.slice none 0 0), (.slice none 0 0), (.slice none 0 0), (.bool false), (.slice none 0 0)])) ⟨rfl, rfl, ⟨rfl, (zA S rfl), trivial⟩⟩ zy (op_alloc (cs := [(.int .i64 0), (.string (bs [])), (.string (bs [])), (.slice none 0 0), (.slice none 0 0), (.slice none 0 0), (.slice none 0 0), (.string (bs [])), (.slice none 0 0), (.slice none 0 0), (.slice none 0 0), (.bool false), (.slice none 0 0)]) zero37 rfl ?_))))
  intro ar an aq ap ao aj
  have ap : ¬ (fun k => k = p) an := fun hf => by have := (ai.lt _ hf).2; omega
  obtain ⟨hb, _⟩ := yG hb aj
  have L := L.keep0 aj
  have l := l.keep0 aj
  have aq := ao
  refine zZ size37 (zA S rfl) (zA S rfl) rfl rfl ao rfl ?_
  intro au ao ar
  have := ar.size
  have o := (o.keep0 aj).keep ar sB
  have I := (I.keep0 aj).keep ar sO
  have A := (A.keep0 aj).keep ar sO
  have L := L.keep ar (sN L aq)
  have l := l.keep ar (sN l aq)
  have ac := (ac.keep0 aj).keep ar sO
  have J := (J.keep0 aj).keep ar sO
  have ad := (ad.keep0 aj).keep ar sO
  have ai := (ai.kz aj).keepG (Gr.of ar) (Dj.one ap)
  have hb := hb.step1 ar zx
  refine zB (J1 _ _ (zF fun _ J1 => zF fun _ J2 => zH (zD rfl (zB (J2 _ _ (wp_block ?_))))))
  refine loop_m (fun mz_ az_ w' => ∃ (i n2 : Nat) (aj : Value) (V : List XE), mz_ = (y.getD F default).t.cols.length - i ∧ (Sl az_ 0 (ptr p 0)) ∧ (Sl az_ 2 (ptr t 0)) ∧ (Sl az_ 3 (ptr M 0)) ∧ (Sl az_ 4 (ptr O 0)) ∧ (Sl az_ 7 (ptr an 0)) ∧ (Sl az_ 8 (.int .i64 ((i : Nat) : Int))) ∧ (i ≤ (y.getD F default).t.cols.length) ∧ (V.length = i) ∧ (∀ a ∈ V, a.av = .slice none 0 0 ∧ a.args = []) ∧ (n ≤ n2 ∧ (n < bl.length → n < n2)) ∧ (Gr w w' (fun k => k = p)) ∧ (au.heap.size ≤ w'.heap.size) ∧ (Bx w' t 37 [(.int .i64 0), (.string (bs [])), (.string (bs [])), (.slice none 0 0), (.slice none 0 0), (.slice none 0 0), (.slice none 0 0), (.string (bs [])), (.slice none 0 0), (.slice none 0 0), (.slice none 0 0), (.bool false), (.slice none 0 0)]) ∧ (RdC w' q.heap.size D.heap.size 3 B y.length (y.flatMap cellsT)) ∧ (TsFr w' q.heap.size D.heap.size B y) ∧ (Bx w' M 30 [B, (.slice none 0 0)]) ∧ (Bx w' O 51 [(.string (bs (y.getD F default).t.nm)), (y.getD F default).cv, (y.getD F default).iv]) ∧ (RdC w' q.heap.size D.heap.size 3 (y.getD F default).cv ((y.getD F default).t.cols).length (((y.getD F default).t.cols).flatMap cellsC)) ∧ (RdC w' U.heap.size ah.heap.size 3 ae (colsOf ((y.getD F default).t.nm) ((y.getD F default).t.cols)).length ((colsOf ((y.getD F default).t.nm) ((y.getD F default).t.cols)).flatMap cellsI)) ∧ (RdC w' U.heap.size ah.heap.size 1 af (kindsOf ((y.getD F default).t.cols)).length ((kindsOf ((y.getD F default).t.cols)).map (Value.int .i64))) ∧ (Bx w' an 37 [(.int .i64 5), (.string (bs (y.getD F default).t.nm)), (.string (bs [])), (.slice none 0 0), (.slice none 0 0), aj, (.slice none 0 0), (.string (bs [])), (.slice none 0 0), (.slice none 0 0), (.slice none 0 0), (.bool false), (.slice none 0 0)]) ∧ (PickR w' base p lv bl n2 (fun k => k = p)) ∧ (Own w' au.heap.size 89 7 aj V.length (V.flatMap cellsX))) _ S Z ⟨0, _, (.slice none 0 0), [], rfl, (zL S rfl Y), (zL S rfl X), (zL S rfl ag), (zL S rfl W), (zU S rfl), (zU S rfl), (Nat.zero_le _), rfl, (fun _ h => (by cases h)), zx, hb, (Nat.le_refl _), o, I, A, L, l, ac, J, ad, ao, ai, (Own.nil _ _ _ _)⟩ ?_
  rintro _ aD aF ao aB ⟨i, n2, aj, V, rfl, az, ax, aC, aw, ay, ar, hi, hvl, hV, aE, hb, aG, o, I, A, L, l, ac, J, ad, hxl, hpk, aq⟩
  have := hb.size
  refine zF fun _ J2 => zF fun _ J3 => zH (zG (zC ao rfl ar) (zM fld51_1 (zC ao rfl aw) (zN one32 (zA ao rfl) (l.cell rfl) (op_len_rd Tryz.underlying32 (zA ao rfl) ac (op_lss (zA ao rfl) (zA ao rfl) (fun aD => ?_) (fun aD => ?_))))))
  ·
   refine zB (J3 _ _ (wp_cond_true (zA ao rfl) (wp_skip (J2 _ _ (zF fun _ J2 => wp_block ?_)))))
   obtain ⟨aD, aE, aF⟩ := ac.atV (i := i) zz zx
   refine reg_split (hd := [_, _, _, _, _, _, _, _, _, _, _, _, _]) (tl := _) 13 mixed zy rfl rfl (any_tree (φ := phiV [(fun uz => uz = (ptr an 5)), (fun uz => uz = aj), (fun uz => uz = (ptr p 0)), (fun uz => uz = (ptr O 1)), (fun uz => uz = (y.getD F default).cv), (fun uz => uz = (.int .i64 ((i : Nat) : Int))), (fun uz => uz = (ptr aD aE)), (fun uz => uz = (ptr aD (aE + 1))), (fun uz => uz = (.int .i64 ((y.getD F default).t.cols.getD i default).kind)), (fun _ => True), (fun _ => True), (fun _ => True), (fun _ => True)]) (G := fun w' => RdC w' q.heap.size D.heap.size 3 (y.getD F default).cv ((y.getD F default).t.cols).length (((y.getD F default).t.cols).flatMap cellsC) ∧ Bx w' an 37 [(.int .i64 5), (.string (bs (y.getD F default).t.nm)), (.string (bs [])), (.slice none 0 0), (.slice none 0 0), aj, (.slice none 0 0), (.string (bs [])), (.slice none 0 0), (.slice none 0 0), (.slice none 0 0), (.bool false), (.slice none 0 0)] ∧ Bx w' O 51 [(.string (bs (y.getD F default).t.nm)), (y.getD F default).cv, (y.getD F default).iv]) [9, 10, 11, 12] zy zy zy zy zy ao (fun q R E h => by obtain ⟨h0, h1, h2⟩ := h; exact ⟨h0.keep0 E, h1.keep0 E, h2.keep0 E⟩) ⟨ac, hxl, l⟩ (ObRs9.cons ?_ (ObRs9.cons ?_ (ObRs9.cons ?_ (ObRs9.cons ?_ (ObRs9.cons ?_ (ObRs9.cons ?_ (ObRs9.cons ?_ (ObRs9.cons ?_ (ObRs9.cons ?_ (ObRs9.pass rfl (ObRs9.pass rfl (ObRs9.pass rfl (ObRs9.pass rfl (ObRs9.nil)))))))))))))) (by simp only [putsL_defers]) ?_)
   ·
    intro eA aA wA hNA hGA hbsA hdpA
    have aG := (hbsA 7 rfl).trans (zL ao rfl ay)
    refine zM fld37_5 (zC hNA rfl aG) ?_
    exact obT_end rfl rfl
   ·
    intro eA aA wA hNA hGA hbsA hdpA
    have aG : Sl aA 38 (ptr an 5) := (hdpA 0 _ 38 zy rfl rfl).2 rfl
    obtain ⟨ac, hxl, l⟩ := hGA
    refine zN one33 (zC hNA rfl aG) (hxl.cell rfl) ?_
    exact obT_end rfl rfl
   ·
    intro eA aA wA hNA hGA hbsA hdpA
    have T := (hbsA 0 rfl).trans (zL ao rfl az)
    refine zG (zC hNA rfl T) ?_
    exact obT_end rfl rfl
   ·
    intro eA aA wA hNA hGA hbsA hdpA
    have an := (hbsA 4 rfl).trans (zL ao rfl aw)
    refine zM fld51_1 (zC hNA rfl an) ?_
    exact obT_end rfl rfl
   ·
    intro eA aA wA hNA hGA hbsA hdpA
    have aG : Sl aA 41 (ptr O 1) := (hdpA 3 _ 41 zy rfl rfl).2 rfl
    obtain ⟨ac, hxl, l⟩ := hGA
    refine zN one32 (zC hNA rfl aG) (l.cell rfl) ?_
    exact obT_end rfl rfl
   ·
    intro eA aA wA hNA hGA hbsA hdpA
    have aG := (hbsA 8 rfl).trans (zL ao rfl ar)
    refine zG (zC hNA rfl aG) ?_
    exact obT_end rfl rfl
   ·
    intro eA aA wA hNA hGA hbsA hdpA
    have aG : Sl aA 42 (y.getD F default).cv := (hdpA 4 _ 42 zy rfl rfl).2 rfl
    have aH : Sl aA 43 (.int .i64 ((i : Nat) : Int)) := (hdpA 5 _ 43 zy rfl rfl).2 rfl
    obtain ⟨ac, hxl, l⟩ := hGA
    refine op_index_atR (i := i) slt32 (zC hNA rfl aG) ac zz (zC hNA rfl aH) zx zx aF ?_
    exact obT_end rfl rfl
   ·
    intro eA aA wA hNA hGA hbsA hdpA
    have aG : Sl aA 44 (ptr aD aE) := (hdpA 6 _ 44 zy rfl rfl).2 rfl
    refine zM fld48_1 (zC hNA rfl aG) ?_
    exact obT_end rfl rfl
   ·
    intro eA aA wA hNA hGA hbsA hdpA
    have aG : Sl aA 45 (ptr aD (aE + 1)) := (hdpA 7 _ 45 zy rfl rfl).2 rfl
    obtain ⟨ac, hxl, l⟩ := hGA
    refine zN (v := (Value.int .i64 ((y.getD F default).t.cols.getD i default).kind)) one3 (zC hNA rfl aG) (ac.cellAt aF 1 _ ((el_pc (i := i) rfl zx) 1 _ rfl)) ?_
    exact obT_end rfl rfl
   refine kt_step (rs := [9]) zy (one_mem ?_)
   intro aH aD _ aE aF aI aG o_ ho_; obtain rfl := zE ho_
   obtain ⟨hb, _⟩ := yG hb aD
   have l := l.keep0 aD
   have hpk := hpk.kz aD
   have aq := aq.keep0 aD
   have aH : Sl aE 40 (ptr p 0) := (aG 2 _ 40 zy rfl rfl).2 rfl
   have aI : Sl aE 46 (.int .i64 ((y.getD F default).t.cols.getD i default).kind) := (aG 8 _ 46 zy rfl rfl).2 rfl
   have hbl' := hbl.keepG hb c_hbl
   refine zj ok46 (Value_ret (kd := ((y.getD F default).t.cols.getD i default).kind) hpk zx hbl') ⟨(zC aF rfl aH), ⟨(zC aF rfl aI), trivial⟩⟩ ?_
   rintro _ aJ ⟨aF, aH, aG, rfl, aI, aE, aK⟩
   have hpk_old := hpk
   have := aF.size
   have l := l.keepG aF (hpk_old.notBx l zz)
   have ac := (ac.keep0 aD).keepG aF sP
   have hxl := (hxl.keep0 aD).keepG aF ap
   have aq := aq.keepG aF (hpk_old.notOwn aq zz)
   have hb := hb.stepF aF (fun _ _ h => h)
   refine kt_end rfl ⟨ac, hxl, l⟩ (kt_step (rs := [10]) zy (one_mem ?_))
   intro aO aJ _ aM aL aN aK o_ ho_; obtain rfl := zE ho_
   obtain ⟨hb, _⟩ := yG hb aJ
   have aE := aE.kz aJ
   have aN : Sl aM 47 (.agg #[(.int .i64 (if ((y.getD F default).t.cols.getD i default).kind = 2 then (2 : Int) else 1)), (.int .i64 aH), (.string (bs aG))]) := (zE ((aK 9 _ 47 zy rfl rfl).1 rfl)).symm
   refine zj ok45 (lit_ret (if ((y.getD F default).t.cols.getD i default).kind = 2 then (2 : Int) else 1) aH aG _) ⟨(zC aL rfl aN), trivial⟩ ?_
   rintro _ aL ⟨aK, rfl⟩
   have aK := zQ aK
   obtain ⟨hb, _⟩ := yG hb aK
   have l := (l.keep0 aJ).keep0 aK
   have ac := (ac.keep0 aJ).keep0 aK
   have hxl := (hxl.keep0 aJ).keep0 aK
   have aE := aE.kz aK
   refine kt_end rfl ⟨ac, hxl, l⟩ (kt_step (rs := [11]) zy (one_mem ?_))
   intro aQ aL _ aM aN aP aO o_ ho_; obtain rfl := zE ho_
   obtain ⟨hb, _⟩ := yG hb aL
   have aE := aE.kz aL
   have aP : Sl aM 48 (.agg #[(.int .i64 1), (.int .i64 (if ((y.getD F default).t.cols.getD i default).kind = 2 then (2 : Int) else 1)), (.int .i64 aH), (.string (bs aG)), (.string (bs [])), (.string (bs [])), (.slice none 0 0)]) := (zE ((aO 10 _ 48 zy rfl rfl).1 rfl)).symm
   refine op_bslice (e := 89) (pv := [(0, (.agg #[(.int .i64 1), (.int .i64 (if ((y.getD F default).t.cols.getD i default).kind = 2 then (2 : Int) else 1)), (.int .i64 aH), (.string (bs aG)), (.string (bs [])), (.string (bs [])), (.slice none 0 0)]))]) (cs := [(.int .i64 1), (.int .i64 (if ((y.getD F default).t.cols.getD i default).kind = 2 then (2 : Int) else 1)), (.int .i64 aH), (.string (bs aG)), (.string (bs [])), (.string (bs [])), (.slice none 0 0)]) ⟨rfl, (zC aN rfl aP), trivial⟩ zy ?_
   intro aQ aO aP aR aN aM
   have aP : ¬ (fun k => k = p) aO := fun hf => by have := (aE.lt _ hf).2; omega
   obtain ⟨hb, _⟩ := yG hb aM
   have l := (l.keep0 aL).keep0 aM
   have ac := (ac.keep0 aL).keep0 aM
   have hxl := (hxl.keep0 aL).keep0 aM
   have aE := aE.kz aM
   refine kt_end rfl ⟨ac, hxl, l⟩ (kt_step (rs := [12]) zy (one_mem ?_))
   intro aT aP _ aQ aR aU aS o_ ho_; obtain rfl := zE ho_
   obtain ⟨hb, _⟩ := yG hb aP
   have aq := ((((aq.keep0 aJ).keep0 aK).keep0 aL).keep0 aM).keep0 aP
   have aE := aE.kz aP
   have aN := aN.keep0 aP
   have aT : Sl aQ 39 aj := (aS 1 _ 39 zy rfl rfl).2 rfl
   have aU : Sl aQ 49 (.slice (some ⟨aO, 0, none⟩) 1 1) := (zE ((aS 11 _ 49 zy rfl rfl).1 rfl)).symm
   have aO := aq
   refine op_append slt33 (zC aR rfl aT) aO (zC aR rfl aU) (Src.ofRd Tryz.underlying33 zz (RdC.ofBx (sz := 7) (n := 1) aN rfl zz) (by simp [Value.oneCell', u8v])) (by unfold maxLen; omega) zx (by first | exact Nat.le_trans (by assumption) hb.size | (have := hb.size; omega)) ?_
   intro aR aS aQ aN aT
   have := aN.size
   have l := (l.keep0 aP).keepO aO aN zz
   have ac := (ac.keep0 aP).keepO aO aN zx
   have hxl := (hxl.keep0 aP).keepO aO aN zz
   have aE := aE.keepG (Gr.of aN) (aE.notOwn aO zz).symm
   have hb := hb.stepO aO aN zx
   have aQ : Own aS au.heap.size 89 7 aR (V.length + 1) (((V ++ [(XE.mk 1 (if ((y.getD F default).t.cols.getD i default).kind = 2 then (2 : Int) else 1) aH aG [] [] (.slice none 0 0) [])])).flatMap cellsX) := by simpa [u8v, u16v, sv, cellsI, cellsX, XE.op, XE.vk, XE.vi, XE.vt, XE.tb, XE.nm, XE.av] using aQ
   refine kt_end rfl ⟨ac, hxl, l⟩ ?_
   intro aX aS aV au aU aT aW
   have aU := aU.trans ((by simp only [putsL_defers] : _ = _).trans aB)
   obtain ⟨hb, _⟩ := yG hb aS
   have L := ((((((((L.keep0 aD).keepG aF P).keep0 aJ).keep0 aK).keep0 aL).keep0 aM).keep0 aP).keepO aO aN zz).keep0 aS
   have l := l.keep0 aS
   have hxl := hxl.keep0 aS
   have aQ := aQ.keep0 aS
   have aX := (aT 0 rfl).trans (zL ao rfl az)
   have az := (aT 2 rfl).trans (zL ao rfl ax)
   have aY := (aT 3 rfl).trans (zL ao rfl aC)
   have aC := (aT 4 rfl).trans (zL ao rfl aw)
   have aw := (aT 7 rfl).trans (zL ao rfl ay)
   have aZ := (aT 8 rfl).trans (zL ao rfl ar)
   have ar : Sl aV 50 aR := (zE ((aW 12 _ 50 rfl rfl).1 rfl)).symm
   refine split_end (from_seq (tl := [_, _]) zz zy rfl (zM fld37_5 (zC au rfl aw) ?_))
   have hxl_old := hxl
   refine za (vs := [aR]) (cs' := [(.int .i64 5), (.string (bs (y.getD F default).t.nm)), (.string (bs [])), (.slice none 0 0), (.slice none 0 0), aR, (.slice none 0 0), (.string (bs [])), (.slice none 0 0), (.slice none 0 0), (.slice none 0 0), (.bool false), (.slice none 0 0)]) size33 (zA au rfl) (zC au rfl ar) aQ.cl rfl (by simp only [yA, yB, yC, yD, aQ.one]; try rfl) hxl (zI rfl) rfl ?_
   intro aT hxl ar
   have := ar.size
   have o := (((((((((o.keep0 aD).keepG aF z).keep0 aJ).keep0 aK).keep0 aL).keep0 aM).keep0 aP).keepO aO aN zz).keep0 aS).keep ar sB
   have I := (((((((((I.keep0 aD).keepG aF sP).keep0 aJ).keep0 aK).keep0 aL).keep0 aM).keep0 aP).keepO aO aN zx).keep0 aS).keep ar sO
   have A := (((((((((A.keep0 aD).keepG aF sP).keep0 aJ).keep0 aK).keep0 aL).keep0 aM).keep0 aP).keepO aO aN zx).keep0 aS).keep ar sO
   have L := L.keep ar (sN L hxl_old)
   have l := l.keep ar (sN l hxl_old)
   have ac := (ac.keep0 aS).keep ar sO
   have J := (((((((((J.keep0 aD).keepG aF sP).keep0 aJ).keep0 aK).keep0 aL).keep0 aM).keep0 aP).keepO aO aN zx).keep0 aS).keep ar sO
   have ad := (((((((((ad.keep0 aD).keepG aF sP).keep0 aJ).keep0 aK).keep0 aL).keep0 aM).keep0 aP).keepO aO aN zx).keep0 aS).keep ar sO
   have aE := (aE.kz aS).keepG (Gr.of ar) (Dj.one ap)
   have aQ := aQ.keepX hxl_old ar zz
   have hb := hb.step1 ar zx
   refine zB (J2 _ _ (zH (zG (zC au rfl aZ) (op_add (zA au rfl) rfl (add64 zx) (zD (zA au rfl) (zB ?_))))))
   -- round 24T 35T
   exact zg _ au aU ⟨(i + 1), aI, aR, (V ++ [(XE.mk 1 (if ((y.getD F default).t.cols.getD i default).kind = 2 then (2 : Int) else 1) aH aG [] [] (.slice none 0 0) [])]), rfl, (zL au rfl aX), (zL au rfl az), (zL au rfl aY), (zL au rfl aC), (zL au rfl aw), (zU au rfl).trans (congrArg (Value.int .i64) zx), zx, (by simp; omega), (fun a ha => (List.mem_append.1 ha).elim (hV a) fun h => by rw [List.mem_singleton] at h; subst h; exact ⟨rfl, rfl⟩), zx, hb, zx, o, I, A, L, l, ac, J, ad, hxl, aE, (aQ.cast (by simp) rfl)⟩ zx
  refine zB (J3 _ _ (wp_cond_false (zA ao rfl) (wp_exit (then_exit (then_exit (blk_hit (J1 _ _ (zF fun _ J1 => zH (zY agg37 rfl (zC ao rfl ay) hxl ?_)))))))))
  have ap := o
  refine zZ size37 (zC ao rfl ax) (zA ao rfl) rfl (by simp only [yA, yB, yC, yD, aq.one]; try rfl) o rfl ?_
  intro au o ar
  have := ar.size
  have J := J.keep ar sO
  have hpk := hpk.keepG (Gr.of ar) (Dj.one z)
  have aq := aq.keepX ap ar zz
  have hb := hb.step1 ar zx
  refine zB (J1 _ _ (wp_ret (zb (zO ( (retC rfl aB (zC ao rfl ax) agg37 rfl o ⟨_, rfl, ?_⟩))))))
  exact ⟨hb, XS.mk (StF.mk 5 ((y.getD F default).t.nm) [] (.slice none 0 0) [] (.slice none 0 0) [] aj V (.slice none 0 0) [] [] (.slice none 0 0) [] (.slice none 0 0) [] (.slice none 0 0) [] false) (.slice none 0 0) [], rfl, SFr.flat ⟨(rdN _ _ _ _), (rdN _ _ _ _), ⟨aq.rdw.mono zx zx, fun a ha => .leaf (hV a ha).1 (hV a ha).2, by show V.length ≤ 1000; first | omega | (simp only [List.length_append, List.length_cons, List.length_nil]; omega)⟩, (rdN _ _ _ _), (XsFr.nil _ _ _), (XsFr.nil _ _ _), (XsFr.nil _ _ _)⟩ (by refine ⟨?_, ?_, ?_⟩ <;> (try simp [XS.f]) <;> omega) rfl rfl, n2, hpk, by omega, fun h9 => by omega⟩
 refine zF fun _ J1 => zH (op_eql (zC S rfl am) rfl (fun aj => ?_) (fun aj => ?_))
 ·
  refine zD (zA S rfl) (zB (J1 _ _ (wp_cond_true (zA S rfl) ?_)))
  refine seq_join1 (N := 97) (fun az_ w' => ∃ (b9 : Nat) (aj : Nat) (e9 : XE) (L9 B9 Q : Nat), (Sl az_ 0 (ptr p 0)) ∧ (Sl az_ 2 (ptr t 0)) ∧ (Sl az_ 3 (ptr M 0)) ∧ (Sl az_ 4 (ptr O 0)) ∧ (Sl az_ 5 ae) ∧ (Sl az_ 6 af) ∧ (Sl az_ 9 (ptr b9 0)) ∧ (n ≤ Q ∧ (n < bl.length → n < Q)) ∧ (t < L9 ∧ p < L9 ∧ w.heap.size ≤ L9 ∧ B9 ≤ w'.heap.size ∧ (b9 < L9 ∨ B9 ≤ b9)) ∧ (al.heap.size ≤ aj) ∧ (aj < w'.heap.size) ∧ (al.heap.size ≤ b9) ∧ (b9 < w'.heap.size) ∧ (Gr w w' (fun k => k = p)) ∧ (al.heap.size ≤ w'.heap.size) ∧ (Bx w' t 37 [(.int .i64 0), (.string (bs [])), (.string (bs [])), (.slice none 0 0), (.slice none 0 0), (.slice none 0 0), (.slice none 0 0), (.string (bs [])), (.slice none 0 0), (.slice none 0 0), (.slice none 0 0), (.bool false), (.slice none 0 0)]) ∧ (RdC w' q.heap.size D.heap.size 3 B y.length (y.flatMap cellsT)) ∧ (TsFr w' q.heap.size D.heap.size B y) ∧ (Bx w' M 30 [B, (.slice none 0 0)]) ∧ (Bx w' O 51 [(.string (bs (y.getD F default).t.nm)), (y.getD F default).cv, (y.getD F default).iv]) ∧ (RdC w' q.heap.size D.heap.size 3 (y.getD F default).cv ((y.getD F default).t.cols).length (((y.getD F default).t.cols).flatMap cellsC)) ∧ (RdC w' U.heap.size ah.heap.size 3 ae (colsOf ((y.getD F default).t.nm) ((y.getD F default).t.cols)).length ((colsOf ((y.getD F default).t.nm) ((y.getD F default).t.cols)).flatMap cellsI)) ∧ (RdC w' U.heap.size ah.heap.size 1 af (kindsOf ((y.getD F default).t.cols)).length ((kindsOf ((y.getD F default).t.cols)).map (Value.int .i64))) ∧ (Bx w' b9 37 [(.int .i64 7), (.string (bs (y.getD F default).t.nm)), (.string (bs [110])), (.slice none 0 0), (.slice none 0 0), (.slice (some ⟨aj, 0, none⟩) 1 1), (.slice none 0 0), (.string (bs [])), (.slice none 0 0), (.slice none 0 0), (.slice none 0 0), (.bool false), (.slice none 0 0)]) ∧ (Bx w' aj 89 [(.int .i64 e9.op), (.int .i64 e9.vk), (.int .i64 e9.vi), (.string (bs e9.vt)), (.string (bs e9.tb)), (.string (bs e9.nm)), e9.av]) ∧ (XFr w' L9 B9 e9) ∧ (PickR w' base p lv bl Q (fun k => k = p))) (fun ao => ?_) ?_
  ·
   refine zF fun _ J1 => reg_split (hd := [_, _, _, _, _, _, _, _, _]) (tl := _) 9 mixed zy rfl rfl (any_tree (φ := phiV [(fun uz => uz = (ptr O 0)), (fun uz => uz = (.string (bs (y.getD F default).t.nm))), (fun uz => uz = (ptr p 0)), (fun uz => uz = ae), (fun uz => uz = af), (fun _ => True), (fun _ => True), (fun _ => True), (fun _ => True)]) (G := fun w' => Bx w' O 51 [(.string (bs (y.getD F default).t.nm)), (y.getD F default).cv, (y.getD F default).iv]) [5, 6, 7, 8] zy zy zy zy zy S (fun q R E h => h.keep0 E) l (ObRs9.cons ?_ (ObRs9.cons ?_ (ObRs9.cons ?_ (ObRs9.cons ?_ (ObRs9.cons ?_ (ObRs9.pass rfl (ObRs9.pass rfl (ObRs9.pass rfl (ObRs9.pass rfl (ObRs9.nil)))))))))) (by simp only [putsL_defers]) ?_)
   ·
    intro eA aA wA hNA hGA hbsA hdpA
    have an := (hbsA 4 rfl).trans (zL S rfl W)
    refine zM fld51_0 (zC hNA rfl an) ?_
    exact obT_end rfl rfl
   ·
    intro eA aA wA hNA hGA hbsA hdpA
    have aq : Sl aA 55 (ptr O 0) := (hdpA 0 _ 55 zy rfl rfl).2 rfl
    refine zN one9 (zC hNA rfl aq) (hGA.cell rfl) ?_
    exact obT_end rfl rfl
   ·
    intro eA aA wA hNA hGA hbsA hdpA
    have T := (hbsA 0 rfl).trans (zL S rfl Y)
    refine zG (zC hNA rfl T) ?_
    exact obT_end rfl rfl
   ·
    intro eA aA wA hNA hGA hbsA hdpA
    have aq := (hbsA 5 rfl).trans (zL S rfl aa)
    refine zG (zC hNA rfl aq) ?_
    exact obT_end rfl rfl
   ·
    intro eA aA wA hNA hGA hbsA hdpA
    have ar := (hbsA 6 rfl).trans (zL S rfl ak)
    refine zG (zC hNA rfl ar) ?_
    exact obT_end rfl rfl
   refine kt_step (rs := [5, 8]) zy (more_mem ?_ ?_)
   ·
    intro ay au _ aw az aB ax o_ ho_; obtain rfl := zE ho_
    obtain ⟨hb, _⟩ := yG hb au
    have l := l.keep0 au
    have J := J.keep0 au
    have ad := ad.keep0 au
    have ai := ai.kz au
    have aB : Sl aw 57 (ptr p 0) := (ax 2 _ 57 zy rfl rfl).2 rfl
    have aC : Sl aw 58 ae := (ax 3 _ 58 zy rfl rfl).2 rfl
    have aD : Sl aw 59 af := (ax 4 _ 59 zy rfl rfl).2 rfl
    have hbl' := hbl.keepG hb c_hbl
    refine ze (vs := [(ptr p 0), ae, af, (.int .i64 1), (.int .i64 1)]) ok47 ⟨(zC az rfl aB), ⟨(zC az rfl aC), ⟨(zC az rfl aD), ⟨rfl, ⟨rfl, trivial⟩⟩⟩⟩⟩ (c _ (kd := 1) (deep := 1) rfl ai zx hbl' (C := (colsOf ((y.getD F default).t.nm) ((y.getD F default).t.cols))) (K := (kindsOf ((y.getD F default).t.cols))) J ad zx zx zx zx zx zx zx) ?_
    rintro _ aD ⟨aB, aw, rfl, az, aE, aC, ax, aF⟩
    have aE := ai
    have := aB.size
    have o := (o.keep0 au).keepG aB z
    have I := (I.keep0 au).keepG aB sP
    have A := (A.keep0 au).keepG aB sP
    have L := (L.keep0 au).keepG aB P
    have l := l.keepG aB (aE.notBx l zz)
    have ac := (ac.keep0 au).keepG aB sP
    have J := J.keepG aB sP
    have ad := ad.keepG aB sP
    have hb := hb.stepF aB (fun _ _ h => h)
    refine kt_end rfl l (kt_step (rs := [6, 8]) zy (more_mem ?_ ?_))
    ·
     intro aI au _ aF aG aH aB o_ ho_; obtain rfl := zE ho_
     obtain ⟨hb, _⟩ := yG hb au
     have ax := ax.kz au
     have aH : Sl aF 60 (.agg #[(.int .i64 aw.op), (.int .i64 aw.vk), (.int .i64 aw.vi), (.string (bs aw.vt)), (.string (bs aw.tb)), (.string (bs aw.nm)), aw.av]) := (zE ((aB 5 _ 60 zy rfl rfl).1 rfl)).symm
     refine op_bslice (e := 89) (pv := [(0, (.agg #[(.int .i64 aw.op), (.int .i64 aw.vk), (.int .i64 aw.vi), (.string (bs aw.vt)), (.string (bs aw.tb)), (.string (bs aw.nm)), aw.av]))]) (cs := [(.int .i64 aw.op), (.int .i64 aw.vk), (.int .i64 aw.vi), (.string (bs aw.vt)), (.string (bs aw.tb)), (.string (bs aw.nm)), aw.av]) ⟨rfl, (zC aG rfl aH), trivial⟩ zy ?_
     intro aH aF aI aJ aB aG
     have aH : ¬ (fun k => k = p) aF := fun hf => by have := (ax.lt _ hf).2; omega
     obtain ⟨hb, _⟩ := yG hb aG
     have o := (o.keep0 au).keep0 aG
     have I := (I.keep0 au).keep0 aG
     have A := (A.keep0 au).keep0 aG
     have L := (L.keep0 au).keep0 aG
     have l := (l.keep0 au).keep0 aG
     have ac := (ac.keep0 au).keep0 aG
     have J := (J.keep0 au).keep0 aG
     have ad := (ad.keep0 au).keep0 aG
     have ax := ax.kz aG
     have az := (az.keep0 au).keep0 aG
     refine kt_end rfl l (kt_step (rs := [7, 8]) zy (more_mem ?_ ?_))
     ·
      intro aJ au _ aH aI aK aG o_ ho_; obtain rfl := zE ho_
      obtain ⟨hb, _⟩ := yG hb au
      have l := l.keep0 au
      have ax := ax.kz au
      have aJ : Sl aH 56 (.string (bs (y.getD F default).t.nm)) := (aG 1 _ 56 zy rfl rfl).2 rfl
      have aK : Sl aH 61 (.slice (some ⟨aF, 0, none⟩) 1 1) := (zE ((aG 6 _ 61 zy rfl rfl).1 rfl)).symm
      refine zf (pv := [(0, (.int .i64 7)), (1, (.string (bs (y.getD F default).t.nm))), (2, (.string (bs [110]))), (5, (.slice (some ⟨aF, 0, none⟩) 1 1))]) (v := (Value.agg #[(.int .i64 7), (.string (bs (y.getD F default).t.nm)), (.string (bs [110])), (.slice none 0 0), (.slice none 0 0), (.slice (some ⟨aF, 0, none⟩) 1 1), (.slice none 0 0), (.string (bs [])), (.slice none 0 0), (.slice none 0 0), (.slice none 0 0), (.bool false), (.slice none 0 0)])) ⟨rfl, rfl, ⟨rfl, (zC aI rfl aJ), ⟨rfl, rfl, ⟨rfl, (zC aI rfl aK), trivial⟩⟩⟩⟩ zy (kt_end rfl l (kt_step (rs := [8]) zy (one_mem ?_)))
      intro aL aG _ aI aJ aK aH o_ ho_; obtain rfl := zE ho_
      obtain ⟨hb, _⟩ := yG hb aG
      have ax := ax.kz aG
      refine op_alloc (cs := [(.int .i64 0), (.string (bs [])), (.string (bs [])), (.slice none 0 0), (.slice none 0 0), (.slice none 0 0), (.slice none 0 0), (.string (bs [])), (.slice none 0 0), (.slice none 0 0), (.slice none 0 0), (.bool false), (.slice none 0 0)]) zero37 rfl ?_
      intro aK aJ aM aL aI aH
      have aK : ¬ (fun k => k = p) aJ := fun hf => by have := (ax.lt _ hf).2; omega
      obtain ⟨hb, _⟩ := yG hb aH
      have l := (l.keep0 aG).keep0 aH
      have ax := ax.kz aH
      refine kt_end rfl l ?_
      intro aR aL aQ aM aO aN aP
      have aO := aO.trans ((by simp only [putsL_defers] : _ = _).trans Z)
      obtain ⟨hb, _⟩ := yG hb aL
      have L := (((L.keep0 au).keep0 aG).keep0 aH).keep0 aL
      have l := l.keep0 aL
      have aB := (((aB.keep0 au).keep0 aG).keep0 aH).keep0 aL
      have aI := aI.keep0 aL
      have aR := (aN 0 rfl).trans (zL S rfl Y)
      have aS := (aN 2 rfl).trans (zL S rfl X)
      have aT := (aN 3 rfl).trans (zL S rfl ag)
      have aU := (aN 4 rfl).trans (zL S rfl W)
      have aV := (aN 5 rfl).trans (zL S rfl aa)
      have aW := (aN 6 rfl).trans (zL S rfl ak)
      have aN : Sl aQ 9 (ptr aJ 0) := (zE ((aP 8 _ 9 rfl rfl).1 rfl)).symm
      have aX : Sl aQ 62 (.agg #[(.int .i64 7), (.string (bs (y.getD F default).t.nm)), (.string (bs [110])), (.slice none 0 0), (.slice none 0 0), (.slice (some ⟨aF, 0, none⟩) 1 1), (.slice none 0 0), (.string (bs [])), (.slice none 0 0), (.slice none 0 0), (.slice none 0 0), (.bool false), (.slice none 0 0)]) := (zE ((aP 7 _ 62 rfl rfl).1 rfl)).symm
      refine split_end (from_seq (tl := [_]) zz zy rfl ?_)
      have aP := aI
      refine zZ size37 (zC aM rfl aN) (zC aM rfl aX) rfl rfl aI rfl ?_
      intro aX aI aQ
      have := aQ.size
      have o := ((((o.keep0 au).keep0 aG).keep0 aH).keep0 aL).keep aQ sB
      have I := ((((I.keep0 au).keep0 aG).keep0 aH).keep0 aL).keep aQ sO
      have A := ((((A.keep0 au).keep0 aG).keep0 aH).keep0 aL).keep aQ sO
      have L := L.keep aQ (sN L aP)
      have l := l.keep aQ (sN l aP)
      have ac := ((((ac.keep0 au).keep0 aG).keep0 aH).keep0 aL).keep aQ sO
      have J := ((((J.keep0 au).keep0 aG).keep0 aH).keep0 aL).keep aQ sO
      have ad := ((((ad.keep0 au).keep0 aG).keep0 aH).keep0 aL).keep aQ sO
      have ax := (ax.kz aL).keepG (Gr.of aQ) (Dj.one aK)
      have az := ((((az.keep0 au).keep0 aG).keep0 aH).keep0 aL).keep aQ sO
      have aB := aB.keep aQ (sN aB aP)
      have hb := hb.step1 aQ zx
      refine zB (J1 _ _ ?_)
      exact ao _ _ _ aM aO ⟨aJ, aF, aw, ay.heap.size, aD.heap.size, aC, (zL aM rfl aR), (zL aM rfl aS), (zL aM rfl aT), (zL aM rfl aU), (zL aM rfl aV), (zL aM rfl aW), (zL aM rfl aN), zx, (by have h9 := aI.lt; omega), zx, aB.lt, zx, aI.lt, hb, zx, o, I, A, L, l, ac, J, ad, aI, aB, az, ax⟩
     refine one_mem ?_
     intro aI au _ aJ aG aH aK o_ ho_; obtain rfl := zE ho_
     obtain ⟨hb, _⟩ := yG hb au
     have ax := ax.kz au
     refine op_alloc (cs := [(.int .i64 0), (.string (bs [])), (.string (bs [])), (.slice none 0 0), (.slice none 0 0), (.slice none 0 0), (.slice none 0 0), (.string (bs [])), (.slice none 0 0), (.slice none 0 0), (.slice none 0 0), (.bool false), (.slice none 0 0)]) zero37 rfl ?_
     intro aL aI aK aJ aH aG
     have aJ : ¬ (fun k => k = p) aI := fun hf => by have := (ax.lt _ hf).2; omega
     obtain ⟨hb, _⟩ := yG hb aG
     have l := (l.keep0 au).keep0 aG
     have ax := ax.kz aG
     refine kt_end rfl l (kt_step (rs := [7]) zy (one_mem ?_))
     intro aO aK _ aL aN aP aM o_ ho_; obtain rfl := zE ho_
     obtain ⟨hb, _⟩ := yG hb aK
     have l := l.keep0 aK
     have ax := ax.kz aK
     have aO : Sl aL 56 (.string (bs (y.getD F default).t.nm)) := (aM 1 _ 56 zy rfl rfl).2 rfl
     have aP : Sl aL 61 (.slice (some ⟨aF, 0, none⟩) 1 1) := (zE ((aM 6 _ 61 zy rfl rfl).1 rfl)).symm
     refine zf (pv := [(0, (.int .i64 7)), (1, (.string (bs (y.getD F default).t.nm))), (2, (.string (bs [110]))), (5, (.slice (some ⟨aF, 0, none⟩) 1 1))]) (v := (Value.agg #[(.int .i64 7), (.string (bs (y.getD F default).t.nm)), (.string (bs [110])), (.slice none 0 0), (.slice none 0 0), (.slice (some ⟨aF, 0, none⟩) 1 1), (.slice none 0 0), (.string (bs [])), (.slice none 0 0), (.slice none 0 0), (.slice none 0 0), (.bool false), (.slice none 0 0)])) ⟨rfl, rfl, ⟨rfl, (zC aN rfl aO), ⟨rfl, rfl, ⟨rfl, (zC aN rfl aP), trivial⟩⟩⟩⟩ zy (kt_end rfl l ?_)
     intro aR aL aQ aM aO aN aP
     have aO := aO.trans ((by simp only [putsL_defers] : _ = _).trans Z)
     obtain ⟨hb, _⟩ := yG hb aL
     have L := (((L.keep0 au).keep0 aG).keep0 aK).keep0 aL
     have l := l.keep0 aL
     have aB := (((aB.keep0 au).keep0 aG).keep0 aK).keep0 aL
     have aH := (aH.keep0 aK).keep0 aL
     have aR := (aN 0 rfl).trans (zL S rfl Y)
     have aS := (aN 2 rfl).trans (zL S rfl X)
     have aT := (aN 3 rfl).trans (zL S rfl ag)
     have aU := (aN 4 rfl).trans (zL S rfl W)
     have aV := (aN 5 rfl).trans (zL S rfl aa)
     have aW := (aN 6 rfl).trans (zL S rfl ak)
     have aN : Sl aQ 9 (ptr aI 0) := (zE ((aP 8 _ 9 rfl rfl).1 rfl)).symm
     have aX : Sl aQ 62 (.agg #[(.int .i64 7), (.string (bs (y.getD F default).t.nm)), (.string (bs [110])), (.slice none 0 0), (.slice none 0 0), (.slice (some ⟨aF, 0, none⟩) 1 1), (.slice none 0 0), (.string (bs [])), (.slice none 0 0), (.slice none 0 0), (.slice none 0 0), (.bool false), (.slice none 0 0)]) := (zE ((aP 7 _ 62 rfl rfl).1 rfl)).symm
     refine split_end (from_seq (tl := [_]) zz zy rfl ?_)
     have aP := aH
     refine zZ size37 (zC aM rfl aN) (zC aM rfl aX) rfl rfl aH rfl ?_
     intro aX aH aQ
     have := aQ.size
     have o := ((((o.keep0 au).keep0 aG).keep0 aK).keep0 aL).keep aQ sB
     have I := ((((I.keep0 au).keep0 aG).keep0 aK).keep0 aL).keep aQ sO
     have A := ((((A.keep0 au).keep0 aG).keep0 aK).keep0 aL).keep aQ sO
     have L := L.keep aQ (sN L aP)
     have l := l.keep aQ (sN l aP)
     have ac := ((((ac.keep0 au).keep0 aG).keep0 aK).keep0 aL).keep aQ sO
     have J := ((((J.keep0 au).keep0 aG).keep0 aK).keep0 aL).keep aQ sO
     have ad := ((((ad.keep0 au).keep0 aG).keep0 aK).keep0 aL).keep aQ sO
     have ax := (ax.kz aL).keepG (Gr.of aQ) (Dj.one aJ)
     have az := ((((az.keep0 au).keep0 aG).keep0 aK).keep0 aL).keep aQ sO
     have aB := aB.keep aQ (sN aB aP)
     have hb := hb.step1 aQ zx
     refine zB (J1 _ _ ?_)
     exact ao _ _ _ aM aO ⟨aI, aF, aw, ay.heap.size, aD.heap.size, aC, (zL aM rfl aR), (zL aM rfl aS), (zL aM rfl aT), (zL aM rfl aU), (zL aM rfl aV), (zL aM rfl aW), (zL aM rfl aN), zx, (by have h9 := aH.lt; omega), zx, aB.lt, zx, aH.lt, hb, zx, o, I, A, L, l, ac, J, ad, aH, aB, az, ax⟩
    refine one_mem ?_
    intro aI au _ aF aH aG aB o_ ho_; obtain rfl := zE ho_
    obtain ⟨hb, _⟩ := yG hb au
    have ax := ax.kz au
    refine op_alloc (cs := [(.int .i64 0), (.string (bs [])), (.string (bs [])), (.slice none 0 0), (.slice none 0 0), (.slice none 0 0), (.slice none 0 0), (.string (bs [])), (.slice none 0 0), (.slice none 0 0), (.slice none 0 0), (.bool false), (.slice none 0 0)]) zero37 rfl ?_
    intro aI aG aH aJ aF aB
    have aH : ¬ (fun k => k = p) aG := fun hf => by have := (ax.lt _ hf).2; omega
    obtain ⟨hb, _⟩ := yG hb aB
    have l := (l.keep0 au).keep0 aB
    have ax := ax.kz aB
    refine kt_end rfl l (kt_step (rs := [6]) zy (one_mem ?_))
    intro aN aI _ aK aL aM aJ o_ ho_; obtain rfl := zE ho_
    obtain ⟨hb, _⟩ := yG hb aI
    have ax := ax.kz aI
    have aM : Sl aK 60 (.agg #[(.int .i64 aw.op), (.int .i64 aw.vk), (.int .i64 aw.vi), (.string (bs aw.vt)), (.string (bs aw.tb)), (.string (bs aw.nm)), aw.av]) := (zE ((aJ 5 _ 60 zy rfl rfl).1 rfl)).symm
    refine op_bslice (e := 89) (pv := [(0, (.agg #[(.int .i64 aw.op), (.int .i64 aw.vk), (.int .i64 aw.vi), (.string (bs aw.vt)), (.string (bs aw.tb)), (.string (bs aw.nm)), aw.av]))]) (cs := [(.int .i64 aw.op), (.int .i64 aw.vk), (.int .i64 aw.vi), (.string (bs aw.vt)), (.string (bs aw.tb)), (.string (bs aw.nm)), aw.av]) ⟨rfl, (zC aL rfl aM), trivial⟩ zy ?_
    intro aO aL aM aN aK aJ
    have aM : ¬ (fun k => k = p) aL := fun hf => by have := (ax.lt _ hf).2; omega
    obtain ⟨hb, _⟩ := yG hb aJ
    have l := (l.keep0 aI).keep0 aJ
    have ax := ax.kz aJ
    refine kt_end rfl l (kt_step (rs := [7]) zy (one_mem ?_))
    intro aR aM _ aP aO aQ aN o_ ho_; obtain rfl := zE ho_
    obtain ⟨hb, _⟩ := yG hb aM
    have l := l.keep0 aM
    have ax := ax.kz aM
    have aQ : Sl aP 56 (.string (bs (y.getD F default).t.nm)) := (aN 1 _ 56 zy rfl rfl).2 rfl
    have aR : Sl aP 61 (.slice (some ⟨aL, 0, none⟩) 1 1) := (zE ((aN 6 _ 61 zy rfl rfl).1 rfl)).symm
    refine zf (pv := [(0, (.int .i64 7)), (1, (.string (bs (y.getD F default).t.nm))), (2, (.string (bs [110]))), (5, (.slice (some ⟨aL, 0, none⟩) 1 1))]) (v := (Value.agg #[(.int .i64 7), (.string (bs (y.getD F default).t.nm)), (.string (bs [110])), (.slice none 0 0), (.slice none 0 0), (.slice (some ⟨aL, 0, none⟩) 1 1), (.slice none 0 0), (.string (bs [])), (.slice none 0 0), (.slice none 0 0), (.slice none 0 0), (.bool false), (.slice none 0 0)])) ⟨rfl, rfl, ⟨rfl, (zC aO rfl aQ), ⟨rfl, rfl, ⟨rfl, (zC aO rfl aR), trivial⟩⟩⟩⟩ zy (kt_end rfl l ?_)
    intro aT aN aR aO aQ aP aS
    have aQ := aQ.trans ((by simp only [putsL_defers] : _ = _).trans Z)
    obtain ⟨hb, _⟩ := yG hb aN
    have L := (((((L.keep0 au).keep0 aB).keep0 aI).keep0 aJ).keep0 aM).keep0 aN
    have l := l.keep0 aN
    have aF := (((aF.keep0 aI).keep0 aJ).keep0 aM).keep0 aN
    have aK := (aK.keep0 aM).keep0 aN
    have aT := (aP 0 rfl).trans (zL S rfl Y)
    have aU := (aP 2 rfl).trans (zL S rfl X)
    have aV := (aP 3 rfl).trans (zL S rfl ag)
    have aW := (aP 4 rfl).trans (zL S rfl W)
    have aX := (aP 5 rfl).trans (zL S rfl aa)
    have aY := (aP 6 rfl).trans (zL S rfl ak)
    have aP : Sl aR 9 (ptr aG 0) := (zE ((aS 8 _ 9 rfl rfl).1 rfl)).symm
    have aZ : Sl aR 62 (.agg #[(.int .i64 7), (.string (bs (y.getD F default).t.nm)), (.string (bs [110])), (.slice none 0 0), (.slice none 0 0), (.slice (some ⟨aL, 0, none⟩) 1 1), (.slice none 0 0), (.string (bs [])), (.slice none 0 0), (.slice none 0 0), (.slice none 0 0), (.bool false), (.slice none 0 0)]) := (zE ((aS 7 _ 62 rfl rfl).1 rfl)).symm
    refine split_end (from_seq (tl := [_]) zz zy rfl ?_)
    have aR := aF
    refine zZ size37 (zC aO rfl aP) (zC aO rfl aZ) rfl rfl aF rfl ?_
    intro aZ aF aS
    have := aS.size
    have o := ((((((o.keep0 au).keep0 aB).keep0 aI).keep0 aJ).keep0 aM).keep0 aN).keep aS sB
    have I := ((((((I.keep0 au).keep0 aB).keep0 aI).keep0 aJ).keep0 aM).keep0 aN).keep aS sO
    have A := ((((((A.keep0 au).keep0 aB).keep0 aI).keep0 aJ).keep0 aM).keep0 aN).keep aS sO
    have L := L.keep aS (sN L aR)
    have l := l.keep aS (sN l aR)
    have ac := ((((((ac.keep0 au).keep0 aB).keep0 aI).keep0 aJ).keep0 aM).keep0 aN).keep aS sO
    have J := ((((((J.keep0 au).keep0 aB).keep0 aI).keep0 aJ).keep0 aM).keep0 aN).keep aS sO
    have ad := ((((((ad.keep0 au).keep0 aB).keep0 aI).keep0 aJ).keep0 aM).keep0 aN).keep aS sO
    have ax := (ax.kz aN).keepG (Gr.of aS) (Dj.one aH)
    have az := ((((((az.keep0 au).keep0 aB).keep0 aI).keep0 aJ).keep0 aM).keep0 aN).keep aS sO
    have aK := aK.keep aS (sN aK aR)
    have hb := hb.step1 aS zx
    refine zB (J1 _ _ ?_)
    exact ao _ _ _ aO aQ ⟨aG, aL, aw, ay.heap.size, aD.heap.size, aC, (zL aO rfl aT), (zL aO rfl aU), (zL aO rfl aV), (zL aO rfl aW), (zL aO rfl aX), (zL aO rfl aY), (zL aO rfl aP), zx, (by have h9 := aF.lt; omega), zx, aK.lt, zx, aF.lt, hb, zx, o, I, A, L, l, ac, J, ad, aF, aK, az, ax⟩
   refine one_mem ?_
   intro aw au _ ay az ax aB o_ ho_; obtain rfl := zE ho_
   obtain ⟨hb, _⟩ := yG hb au
   have ai := ai.kz au
   refine op_alloc (cs := [(.int .i64 0), (.string (bs [])), (.string (bs [])), (.slice none 0 0), (.slice none 0 0), (.slice none 0 0), (.slice none 0 0), (.string (bs [])), (.slice none 0 0), (.slice none 0 0), (.slice none 0 0), (.bool false), (.slice none 0 0)]) zero37 rfl ?_
   intro aB ay aC az ax aw
   have az : ¬ (fun k => k = p) ay := fun hf => by have := (ai.lt _ hf).2; omega
   obtain ⟨hb, _⟩ := yG hb aw
   have l := (l.keep0 au).keep0 aw
   have ai := ai.kz aw
   refine kt_end rfl l (kt_step (rs := [5]) zy (one_mem ?_))
   intro aG aB _ aC aD aH aF o_ ho_; obtain rfl := zE ho_
   obtain ⟨hb, _⟩ := yG hb aB
   have l := l.keep0 aB
   have J := ((J.keep0 au).keep0 aw).keep0 aB
   have ad := ((ad.keep0 au).keep0 aw).keep0 aB
   have ai := ai.kz aB
   have aH : Sl aC 57 (ptr p 0) := (aF 2 _ 57 zy rfl rfl).2 rfl
   have aI : Sl aC 58 ae := (aF 3 _ 58 zy rfl rfl).2 rfl
   have aJ : Sl aC 59 af := (aF 4 _ 59 zy rfl rfl).2 rfl
   have hbl' := hbl.keepG hb c_hbl
   refine ze (vs := [(ptr p 0), ae, af, (.int .i64 1), (.int .i64 1)]) ok47 ⟨(zC aD rfl aH), ⟨(zC aD rfl aI), ⟨(zC aD rfl aJ), ⟨rfl, ⟨rfl, trivial⟩⟩⟩⟩⟩ (c _ (kd := 1) (deep := 1) rfl ai zx hbl' (C := (colsOf ((y.getD F default).t.nm) ((y.getD F default).t.cols))) (K := (kindsOf ((y.getD F default).t.cols))) J ad zx zx zx zx zx zx zx) ?_
   rintro _ aJ ⟨aD, aC, rfl, aH, aK, aI, aF, aL⟩
   have aE := ai
   have := aD.size
   have l := l.keepG aD (aE.notBx l zz)
   have hb := hb.stepF aD (fun _ _ h => h)
   refine kt_end rfl l (kt_step (rs := [6]) zy (one_mem ?_))
   intro aO aK _ aM aN aP aL o_ ho_; obtain rfl := zE ho_
   obtain ⟨hb, _⟩ := yG hb aK
   have aF := aF.kz aK
   have aO : Sl aM 60 (.agg #[(.int .i64 aC.op), (.int .i64 aC.vk), (.int .i64 aC.vi), (.string (bs aC.vt)), (.string (bs aC.tb)), (.string (bs aC.nm)), aC.av]) := (zE ((aL 5 _ 60 zy rfl rfl).1 rfl)).symm
   refine op_bslice (e := 89) (pv := [(0, (.agg #[(.int .i64 aC.op), (.int .i64 aC.vk), (.int .i64 aC.vi), (.string (bs aC.vt)), (.string (bs aC.tb)), (.string (bs aC.nm)), aC.av]))]) (cs := [(.int .i64 aC.op), (.int .i64 aC.vk), (.int .i64 aC.vi), (.string (bs aC.vt)), (.string (bs aC.tb)), (.string (bs aC.nm)), aC.av]) ⟨rfl, (zC aN rfl aO), trivial⟩ zy ?_
   intro aP aN aQ aO aM aL
   have aO : ¬ (fun k => k = p) aN := fun hf => by have := (aF.lt _ hf).2; omega
   obtain ⟨hb, _⟩ := yG hb aL
   have l := (l.keep0 aK).keep0 aL
   have aF := aF.kz aL
   refine kt_end rfl l (kt_step (rs := [7]) zy (one_mem ?_))
   intro aS aO _ aP aR aT aQ o_ ho_; obtain rfl := zE ho_
   obtain ⟨hb, _⟩ := yG hb aO
   have l := l.keep0 aO
   have aF := aF.kz aO
   have aS : Sl aP 56 (.string (bs (y.getD F default).t.nm)) := (aQ 1 _ 56 zy rfl rfl).2 rfl
   have aT : Sl aP 61 (.slice (some ⟨aN, 0, none⟩) 1 1) := (zE ((aQ 6 _ 61 zy rfl rfl).1 rfl)).symm
   refine zf (pv := [(0, (.int .i64 7)), (1, (.string (bs (y.getD F default).t.nm))), (2, (.string (bs [110]))), (5, (.slice (some ⟨aN, 0, none⟩) 1 1))]) (v := (Value.agg #[(.int .i64 7), (.string (bs (y.getD F default).t.nm)), (.string (bs [110])), (.slice none 0 0), (.slice none 0 0), (.slice (some ⟨aN, 0, none⟩) 1 1), (.slice none 0 0), (.string (bs [])), (.slice none 0 0), (.slice none 0 0), (.slice none 0 0), (.bool false), (.slice none 0 0)])) ⟨rfl, rfl, ⟨rfl, (zC aR rfl aS), ⟨rfl, rfl, ⟨rfl, (zC aR rfl aT), trivial⟩⟩⟩⟩ zy (kt_end rfl l ?_)
   intro aV aP aU aQ aS aR aT
   have aS := aS.trans ((by simp only [putsL_defers] : _ = _).trans Z)
   obtain ⟨hb, _⟩ := yG hb aP
   have L := (((((((L.keep0 au).keep0 aw).keep0 aB).keepG aD P).keep0 aK).keep0 aL).keep0 aO).keep0 aP
   have l := l.keep0 aP
   have ax := (((((ax.keep0 aB).keepG aD az).keep0 aK).keep0 aL).keep0 aO).keep0 aP
   have aM := (aM.keep0 aO).keep0 aP
   have aV := (aR 0 rfl).trans (zL S rfl Y)
   have aW := (aR 2 rfl).trans (zL S rfl X)
   have aX := (aR 3 rfl).trans (zL S rfl ag)
   have aY := (aR 4 rfl).trans (zL S rfl W)
   have aZ := (aR 5 rfl).trans (zL S rfl aa)
   have a0 := (aR 6 rfl).trans (zL S rfl ak)
   have aR : Sl aU 9 (ptr ay 0) := (zE ((aT 8 _ 9 rfl rfl).1 rfl)).symm
   have a1 : Sl aU 62 (.agg #[(.int .i64 7), (.string (bs (y.getD F default).t.nm)), (.string (bs [110])), (.slice none 0 0), (.slice none 0 0), (.slice (some ⟨aN, 0, none⟩) 1 1), (.slice none 0 0), (.string (bs [])), (.slice none 0 0), (.slice none 0 0), (.slice none 0 0), (.bool false), (.slice none 0 0)]) := (zE ((aT 7 _ 62 rfl rfl).1 rfl)).symm
   refine split_end (from_seq (tl := [_]) zz zy rfl ?_)
   have aT := ax
   refine zZ size37 (zC aQ rfl aR) (zC aQ rfl a1) rfl rfl ax rfl ?_
   intro a1 ax aU
   have := aU.size
   have o := ((((((((o.keep0 au).keep0 aw).keep0 aB).keepG aD z).keep0 aK).keep0 aL).keep0 aO).keep0 aP).keep aU sB
   have I := ((((((((I.keep0 au).keep0 aw).keep0 aB).keepG aD sP).keep0 aK).keep0 aL).keep0 aO).keep0 aP).keep aU sO
   have A := ((((((((A.keep0 au).keep0 aw).keep0 aB).keepG aD sP).keep0 aK).keep0 aL).keep0 aO).keep0 aP).keep aU sO
   have L := L.keep aU (sN L aT)
   have l := l.keep aU (sN l aT)
   have ac := ((((((((ac.keep0 au).keep0 aw).keep0 aB).keepG aD sP).keep0 aK).keep0 aL).keep0 aO).keep0 aP).keep aU sO
   have J := (((((J.keepG aD sP).keep0 aK).keep0 aL).keep0 aO).keep0 aP).keep aU sO
   have ad := (((((ad.keepG aD sP).keep0 aK).keep0 aL).keep0 aO).keep0 aP).keep aU sO
   have aF := (aF.kz aP).keepG (Gr.of aU) (Dj.one az)
   have aH := ((((aH.keep0 aK).keep0 aL).keep0 aO).keep0 aP).keep aU sO
   have aM := aM.keep aU (sN aM aT)
   have hb := hb.step1 aU zx
   refine zB (J1 _ _ ?_)
   exact ao _ _ _ aQ aS ⟨ay, aN, aC, aG.heap.size, aJ.heap.size, aI, (zL aQ rfl aV), (zL aQ rfl aW), (zL aQ rfl aX), (zL aQ rfl aY), (zL aQ rfl aZ), (zL aQ rfl a0), (zL aQ rfl aR), zx, (by have h9 := ax.lt; omega), zx, aM.lt, zx, ax.lt, hb, zx, o, I, A, L, l, ac, J, ad, ax, aM, aH, aF⟩
  rintro aO aI ao aH ⟨b9, aj, e9, L9, B9, Q, ax, aG, aF, az, aB, aC, ay, ab, aJ, aK, aM, aN, aP, hb, aL, o, I, A, L, l, ac, J, ad, au, aw, aD, hpk⟩
  have := hb.size
  refine seq_join1 (N := 97) (fun az_ w' => ∃ (aJ : List UInt8) (ab : Nat) (e8 : XE) (L8 B8 n8 : Nat), (Sl az_ 0 (ptr p 0)) ∧ (Sl az_ 2 (ptr t 0)) ∧ (Sl az_ 3 (ptr M 0)) ∧ (Sl az_ 4 (ptr O 0)) ∧ (Sl az_ 5 ae) ∧ (Sl az_ 6 af) ∧ (Sl az_ 9 (ptr b9 0)) ∧ (n ≤ n8 ∧ (n < bl.length → n < n8)) ∧ (t < L8 ∧ p < L8 ∧ w.heap.size ≤ L8 ∧ B8 ≤ w'.heap.size ∧ (b9 < L8 ∨ B8 ≤ b9)) ∧ (al.heap.size ≤ ab) ∧ (ab < w'.heap.size) ∧ (b9 < w'.heap.size) ∧ (Gr w w' (fun k => k = p)) ∧ (aI.heap.size ≤ w'.heap.size) ∧ (Bx w' t 37 [(.int .i64 0), (.string (bs [])), (.string (bs [])), (.slice none 0 0), (.slice none 0 0), (.slice none 0 0), (.slice none 0 0), (.string (bs [])), (.slice none 0 0), (.slice none 0 0), (.slice none 0 0), (.bool false), (.slice none 0 0)]) ∧ (RdC w' q.heap.size D.heap.size 3 B y.length (y.flatMap cellsT)) ∧ (TsFr w' q.heap.size D.heap.size B y) ∧ (Bx w' M 30 [B, (.slice none 0 0)]) ∧ (Bx w' O 51 [(.string (bs (y.getD F default).t.nm)), (y.getD F default).cv, (y.getD F default).iv]) ∧ (RdC w' q.heap.size D.heap.size 3 (y.getD F default).cv ((y.getD F default).t.cols).length (((y.getD F default).t.cols).flatMap cellsC)) ∧ (RdC w' U.heap.size ah.heap.size 3 ae (colsOf ((y.getD F default).t.nm) ((y.getD F default).t.cols)).length ((colsOf ((y.getD F default).t.nm) ((y.getD F default).t.cols)).flatMap cellsI)) ∧ (RdC w' U.heap.size ah.heap.size 1 af (kindsOf ((y.getD F default).t.cols)).length ((kindsOf ((y.getD F default).t.cols)).map (Value.int .i64))) ∧ (Bx w' b9 37 [(.int .i64 7), (.string (bs (y.getD F default).t.nm)), (.string (bs aJ)), (.slice none 0 0), (.slice none 0 0), (.slice (some ⟨ab, 0, none⟩) 1 1), (.slice none 0 0), (.string (bs [])), (.slice none 0 0), (.slice none 0 0), (.slice none 0 0), (.bool false), (.slice none 0 0)]) ∧ (Bx w' ab 89 [(.int .i64 e8.op), (.int .i64 e8.vk), (.int .i64 e8.vi), (.string (bs e8.vt)), (.string (bs e8.tb)), (.string (bs e8.nm)), e8.av]) ∧ (XFr w' L8 B8 e8) ∧ (PickR w' base p lv bl n8 (fun k => k = p))) (fun aK => ?_) ?_
  ·
   refine zF fun _ J1 => zF fun _ J2 => zH (zM fld51_0 (zC ao rfl az) (zN one9 (zA ao rfl) (l.cell rfl) (op_seql (zA ao rfl) rfl (fun t => ?_) (fun t => ?_))))
   ·
    refine zG (zA ao rfl) (zS (j := 3) (dj := 66) (b := true) rfl rfl rfl (zA ao rfl) (zG (zC ao rfl ax) (zS (j := 3) (dj := 66) (b := true) rfl rfl rfl (zA ao rfl) ?_)))
    have hbl' := hbl.keepG hb c_hbl
    refine zj ok15 (Num_ret (m := 3) hpk zx hbl' zx zx) ⟨(zA ao rfl), ⟨rfl, trivial⟩⟩ ?_
    rintro _ D ⟨t, U, rfl, al, M, B, aI, ah⟩
    have hpk_old := hpk
    have := t.size
    have o := o.keepG t z
    have I := I.keepG t sP
    have A := A.keepG t sP
    have L := L.keepG t P
    have l := l.keepG t (hpk_old.notBx l zz)
    have ac := ac.keepG t sP
    have J := J.keepG t sP
    have ad := ad.keepG t sP
    have au := au.keepG t (hpk_old.notBx au zz)
    have aw := aw.keepG t (hpk_old.notBx aw zz)
    have aD := aD.keepG t sP
    have hb := hb.stepF t (fun _ _ h => h)
    refine zS (j := 3) (dj := 66) (b := true) rfl rfl rfl (zA ao rfl) (op_eql (zA ao rfl) rfl (fun t => ?_) (fun t => ?_))
    ·
     refine zc (zA ao rfl) (zA ao rfl) (zB (J2 _ _ (wp_cond_true (zA ao rfl) (zH (zG (zC ao rfl ax) (zG (zC ao rfl aB) (zG (zC ao rfl aC) ?_)))))))
     have hbl' := hbl.keepG hb c_hbl
     refine ze (vs := [(ptr p 0), ae, af, (.int .i64 2), (.int .i64 1)]) ok47 ⟨(zA ao rfl), ⟨(zA ao rfl), ⟨(zA ao rfl), ⟨rfl, ⟨rfl, trivial⟩⟩⟩⟩⟩ (c _ (kd := 2) (deep := 1) rfl B zx hbl' (C := (colsOf ((y.getD F default).t.nm) ((y.getD F default).t.cols))) (K := (kindsOf ((y.getD F default).t.cols))) J ad zx zx zx zx zx zx zx) ?_
     rintro _ aI ⟨t, c, rfl, ah, aL, al, U, aM⟩
     have aL := B
     have := t.size
     have l := l.keepG t (aL.notBx l zz)
     have au := au.keepG t (aL.notBx au zz)
     have hb := hb.stepF t (fun _ _ h => h)
     refine op_bslice (e := 89) (pv := [(0, (.agg #[(.int .i64 c.op), (.int .i64 c.vk), (.int .i64 c.vi), (.string (bs c.vt)), (.string (bs c.tb)), (.string (bs c.nm)), c.av]))]) (cs := [(.int .i64 c.op), (.int .i64 c.vk), (.int .i64 c.vi), (.string (bs c.vt)), (.string (bs c.tb)), (.string (bs c.nm)), c.av]) ⟨rfl, (zA ao rfl), trivial⟩ zy ?_
     intro aQ aN aO aP aM aL
     have aO : ¬ (fun k => k = p) aN := fun hf => by have := (U.lt _ hf).2; omega
     obtain ⟨hb, _⟩ := yG hb aL
     have L := (L.keepG t P).keep0 aL
     have l := l.keep0 aL
     have au := au.keep0 aL
     have U := U.kz aL
     refine zM fld37_2 (zC ao rfl ay) ?_
     have P := au
     refine za (vs := [(.string (bs [118]))]) (cs' := [(.int .i64 7), (.string (bs (y.getD F default).t.nm)), (.string (bs [118])), (.slice none 0 0), (.slice none 0 0), (.slice (some ⟨aj, 0, none⟩) 1 1), (.slice none 0 0), (.string (bs [])), (.slice none 0 0), (.slice none 0 0), (.slice none 0 0), (.bool false), (.slice none 0 0)]) size9 (zA ao rfl) rfl rfl rfl rfl au (zI rfl) rfl ?_
     intro aP au aO
     have := aO.size
     have L := L.keep aO (sN L P)
     have l := l.keep aO (sN l P)
     have U := U.keepG (Gr.of aO) (Dj.one (U.notBx P zz))
     have aM := aM.keep aO (sN aM P)
     have hb := hb.step1 aO zx
     refine zM fld37_5 (zC ao rfl ay) ?_
     have P := au
     refine za (vs := [(.slice (some ⟨aN, 0, none⟩) 1 1)]) (cs' := [(.int .i64 7), (.string (bs (y.getD F default).t.nm)), (.string (bs [118])), (.slice none 0 0), (.slice none 0 0), (.slice (some ⟨aN, 0, none⟩) 1 1), (.slice none 0 0), (.string (bs [])), (.slice none 0 0), (.slice none 0 0), (.slice none 0 0), (.bool false), (.slice none 0 0)]) size33 (zA ao rfl) (zA ao rfl) rfl rfl rfl au (zI rfl) rfl ?_
     intro aQ au aP
     have := aP.size
     have o := (((o.keepG t z).keep0 aL).keep aO sB).keep aP sB
     have I := (((I.keepG t sP).keep0 aL).keep aO sO).keep aP sO
     have A := (((A.keepG t sP).keep0 aL).keep aO sO).keep aP sO
     have L := L.keep aP (sN L P)
     have l := l.keep aP (sN l P)
     have ac := (((ac.keepG t sP).keep0 aL).keep aO sO).keep aP sO
     have J := (((J.keepG t sP).keep0 aL).keep aO sO).keep aP sO
     have ad := (((ad.keepG t sP).keep0 aL).keep aO sO).keep aP sO
     have U := U.keepG (Gr.of aP) (Dj.one (U.notBx P zz))
     have ah := ((ah.keep0 aL).keep aO sO).keep aP sO
     have aM := aM.keep aP (sN aM P)
     have hb := hb.step1 aP zx
     refine zB (J1 _ _ ?_)
     exact aK _ _ _ ao aH ⟨[118], aN, c, D.heap.size, aI.heap.size, al, (zL ao rfl ax), (zL ao rfl aG), (zL ao rfl aF), (zL ao rfl az), (zL ao rfl aB), (zL ao rfl aC), (zL ao rfl ay), zx, (by have h9 := au.lt; omega), zx, aM.lt, au.lt, hb, zx, o, I, A, L, l, ac, J, ad, au, aM, ah, U⟩
    refine zc (zA ao rfl) (zA ao rfl) (zB (J2 _ _ (wp_cond_false (zA ao rfl) (wp_skip (J1 _ _ ?_)))))
    exact aK _ _ _ ao aH ⟨[110], aj, e9, L9, B9, M, (zL ao rfl ax), (zL ao rfl aG), (zL ao rfl aF), (zL ao rfl az), (zL ao rfl aB), (zL ao rfl aC), (zL ao rfl ay), zx, (by have h9 := au.lt; omega), zx, aw.lt, au.lt, hb, zx, o, I, A, L, l, ac, J, ad, au, aw, aD, B⟩
   refine zG (zA ao rfl) (zR (j := 3) (dj := 66) (b := true) rfl rfl rfl (zA ao rfl) rfl rfl (zR (j := 3) (dj := 66) (b := true) rfl rfl rfl (zA ao rfl) rfl rfl (zR (j := 3) (dj := 66) (b := true) rfl rfl rfl (zA ao rfl) rfl rfl (zd (zA ao rfl) rfl (zB (J2 _ _ (wp_cond_false (zA ao rfl) (wp_skip (J1 _ _ ?_)))))))))
   exact aK _ _ _ ao aH ⟨[110], aj, e9, L9, B9, Q, (zL ao rfl ax), (zL ao rfl aG), (zL ao rfl aF), (zL ao rfl az), (zL ao rfl aB), (zL ao rfl aC), (zL ao rfl ay), zx, (by have h9 := au.lt; omega), zx, aw.lt, au.lt, hb, zx, o, I, A, L, l, ac, J, ad, au, aw, aD, hpk⟩
  rintro ao aw c U ⟨aJ, ab, e8, L8, B8, n8, Q, P, ax, aB, aj, ah, M, al, aC, ay, az, au, hb, aD, o, I, A, L, l, ac, J, ad, B, t, D, hpk⟩
  have := hb.size
  refine zF fun _ J1 => zH (zG (zC c rfl Q) (zG (zC c rfl aj) (zG (zC c rfl ah) ?_)))
  have hbl' := hbl.keepG hb c_hbl
  refine zj ok44 (pwhere_ret hpk zx hbl' (C := (colsOf ((y.getD F default).t.nm) ((y.getD F default).t.cols))) (K := (kindsOf ((y.getD F default).t.cols))) J ad zx zx zx) ⟨(zA c rfl), ⟨(zA c rfl), ⟨(zA c rfl), trivial⟩⟩⟩ ?_
  rintro ah au ⟨Q, aj, I, al, ac, ao⟩
  have hpk_old := hpk
  have := Q.size
  have B := B.keepG Q (hpk_old.notBx B zz)
  have t := t.keepG Q (hpk_old.notBx t zz)
  have hb := hb.stepF Q (fun _ _ h => h)
  refine zM fld37_9 (zC c rfl M) ?_
  have ao := B
  refine za (vs := [ah]) (cs' := [(.int .i64 7), (.string (bs (y.getD F default).t.nm)), (.string (bs aJ)), (.slice none 0 0), (.slice none 0 0), (.slice (some ⟨ab, 0, none⟩) 1 1), (.slice none 0 0), (.string (bs [])), (.slice none 0 0), ah, (.slice none 0 0), (.bool false), (.slice none 0 0)]) size33 (zA c rfl) (zA c rfl) I.1.cl rfl (by simp only [yA, yB, yC, yD, I.1.one]; try rfl) B (zI rfl) rfl ?_
  intro aw B au
  have := au.size
  have o := (o.keepG Q z).keep au sB
  have t := t.keep au (sN t ao)
  have ac := ac.keepG (Gr.of au) (Dj.one (ac.notBx ao zz))
  have I := I.keep au sO
  have hb := hb.step1 au zx
  refine zB (J1 _ _ (zF fun _ J1 => zH (zY agg37 rfl (zC c rfl M) B ?_)))
  have ap := o
  refine zZ size37 (zC c rfl P) (zA c rfl) rfl (by simp only [yA, yB, yC, yD, I.1.one]; try rfl) o rfl ?_
  intro M o B
  have := B.size
  have J := ((J.keepG Q sP).keep au sO).keep B sO
  have t := t.keep B (sN t ap)
  have D := ((D.keepG Q sP).keep au sO).keep B sO
  have ac := ac.keepG (Gr.of B) (Dj.one z)
  have I := I.keep B sO
  have hb := hb.step1 B zx
  refine zB (J1 _ _ (wp_ret (zb (zO ( (retC rfl U (zC c rfl P) agg37 rfl o ⟨_, rfl, ?_⟩))))))
  exact ⟨hb, XS.mk (StF.mk 7 ((y.getD F default).t.nm) aJ (.slice none 0 0) [] (.slice none 0 0) [] (.slice (some ⟨ab, 0, none⟩) 1 1) ([e8]) (.slice none 0 0) [] [] (.slice none 0 0) [] ah aj (.slice none 0 0) [] false) (.slice none 0 0) [], rfl, SFr.flat ⟨(rdN _ _ _ _), (rdN _ _ _ _), (XsFr.lit1 (x := e8) t zx t.lt (D.mono zx zx)), (rdN _ _ _ _), (XsFr.nil _ _ _), (I.mono zx zx), (XsFr.nil _ _ _)⟩ (by refine ⟨?_, ?_, ?_⟩ <;> (try simp [XS.f]) <;> omega) rfl rfl, al, ac, by omega, fun h9 => by omega⟩
 refine zD (zA S rfl) (zB (J1 _ _ (wp_cond_false (zA S rfl) (zF fun _ J1 => zH (op_eql (zC S rfl am) rfl (fun c => ?_) (fun c => ?_))))))
 ·
  refine zD (zA S rfl) (zB (J1 _ _ (wp_cond_true (zA S rfl) (zF fun _ J1 => reg_split (hd := [_, _, _, _, _, _, _]) (tl := _) 7 mixed zy rfl rfl (any_tree (φ := phiV [(fun uz => uz = (ptr O 0)), (fun uz => uz = (.string (bs (y.getD F default).t.nm))), (fun uz => uz = (ptr p 0)), (fun uz => uz = ae), (fun uz => uz = af), (fun _ => True), (fun _ => True)]) (G := fun w' => Bx w' O 51 [(.string (bs (y.getD F default).t.nm)), (y.getD F default).cv, (y.getD F default).iv]) [5, 6] zy zy zy zy zy S (fun q R E h => h.keep0 E) l (ObRs9.cons ?_ (ObRs9.cons ?_ (ObRs9.cons ?_ (ObRs9.cons ?_ (ObRs9.cons ?_ (ObRs9.pass rfl (ObRs9.pass rfl (ObRs9.nil)))))))) (by simp only [putsL_defers]) ?_)))))
  ·
   intro eA aA wA hNA hGA hbsA hdpA
   have an := (hbsA 4 rfl).trans (zL S rfl W)
   refine zM fld51_0 (zC hNA rfl an) ?_
   exact obT_end rfl rfl
  ·
   intro eA aA wA hNA hGA hbsA hdpA
   have c : Sl aA 86 (ptr O 0) := (hdpA 0 _ 86 zy rfl rfl).2 rfl
   refine zN one9 (zC hNA rfl c) (hGA.cell rfl) ?_
   exact obT_end rfl rfl
  ·
   intro eA aA wA hNA hGA hbsA hdpA
   have T := (hbsA 0 rfl).trans (zL S rfl Y)
   refine zG (zC hNA rfl T) ?_
   exact obT_end rfl rfl
  ·
   intro eA aA wA hNA hGA hbsA hdpA
   have aq := (hbsA 5 rfl).trans (zL S rfl aa)
   refine zG (zC hNA rfl aq) ?_
   exact obT_end rfl rfl
  ·
   intro eA aA wA hNA hGA hbsA hdpA
   have ar := (hbsA 6 rfl).trans (zL S rfl ak)
   refine zG (zC hNA rfl ar) ?_
   exact obT_end rfl rfl
  refine kt_step (rs := [5]) zy (one_mem ?_)
  intro D c _ q B I t o_ ho_; obtain rfl := zE ho_
  obtain ⟨hb, _⟩ := yG hb c
  have l := l.keep0 c
  have J := J.keep0 c
  have ad := ad.keep0 c
  have ai := ai.kz c
  have D : Sl q 88 (ptr p 0) := (t 2 _ 88 zy rfl rfl).2 rfl
  have I : Sl q 89 ae := (t 3 _ 89 zy rfl rfl).2 rfl
  have M : Sl q 90 af := (t 4 _ 90 zy rfl rfl).2 rfl
  have hbl' := hbl.keepG hb c_hbl
  refine zj ok44 (pwhere_ret ai zx hbl' (C := (colsOf ((y.getD F default).t.nm) ((y.getD F default).t.cols))) (K := (kindsOf ((y.getD F default).t.cols))) J ad zx zx zx) ⟨(zC B rfl D), ⟨(zC B rfl I), ⟨(zC B rfl M), trivial⟩⟩⟩ ?_
  rintro D O ⟨B, M, q, I, t, P⟩
  have aE := ai
  have := B.size
  have l := l.keepG B (aE.notBx l zz)
  have hb := hb.stepF B (fun _ _ h => h)
  refine kt_end rfl l (kt_step (rs := [6]) zy (one_mem ?_))
  intro T O _ R P U Q o_ ho_; obtain rfl := zE ho_
  obtain ⟨hb, _⟩ := yG hb O
  have l := l.keep0 O
  have t := t.kz O
  have q := q.keep0 O
  have T : Sl R 87 (.string (bs (y.getD F default).t.nm)) := (Q 1 _ 87 zy rfl rfl).2 rfl
  have U : Sl R 91 D := (zE ((Q 5 _ 91 zy rfl rfl).1 rfl)).symm
  refine zf (pv := [(0, (.int .i64 8)), (1, (.string (bs (y.getD F default).t.nm))), (9, D)]) (v := (Value.agg #[(.int .i64 8), (.string (bs (y.getD F default).t.nm)), (.string (bs [])), (.slice none 0 0), (.slice none 0 0), (.slice none 0 0), (.slice none 0 0), (.string (bs [])), (.slice none 0 0), D, (.slice none 0 0), (.bool false), (.slice none 0 0)])) ⟨rfl, rfl, ⟨rfl, (zC P rfl T), ⟨rfl, (zC P rfl U), trivial⟩⟩⟩ (by obtain ⟨_, _, _, rfl⟩ := q.1.sl; kernel_rfl) (kt_end rfl l ?_)
  intro ab P T Q R U aa
  have R := R.trans ((by simp only [putsL_defers] : _ = _).trans Z)
  obtain ⟨hb, _⟩ := yG hb P
  have o := (((o.keep0 c).keepG B z).keep0 O).keep0 P
  have q := q.keep0 P
  have c := (U 2 rfl).trans (zL S rfl X)
  have U : Sl T 92 (.agg #[(.int .i64 8), (.string (bs (y.getD F default).t.nm)), (.string (bs [])), (.slice none 0 0), (.slice none 0 0), (.slice none 0 0), (.slice none 0 0), (.string (bs [])), (.slice none 0 0), D, (.slice none 0 0), (.bool false), (.slice none 0 0)]) := (zE ((aa 6 _ 92 rfl rfl).1 rfl)).symm
  refine split_end (from_seq (tl := [_]) zz zy rfl (zZ size37 (zC Q rfl c) (zC Q rfl U) rfl (by simp only [yA, yB, yC, yD, q.1.one]; try rfl) o rfl ?_))
  intro U o T
  have := T.size
  have J := (((J.keepG B sP).keep0 O).keep0 P).keep T sO
  have t := (t.kz P).keepG (Gr.of T) (Dj.one z)
  have q := q.keep T sO
  have hb := hb.step1 T zx
  refine zB (J1 _ _ (wp_ret (zb (zO ( (retC rfl R (zC Q rfl c) agg37 rfl o ⟨_, rfl, ?_⟩))))))
  exact ⟨hb, XS.mk (StF.mk 8 ((y.getD F default).t.nm) [] (.slice none 0 0) [] (.slice none 0 0) [] (.slice none 0 0) [] (.slice none 0 0) [] [] (.slice none 0 0) [] D M (.slice none 0 0) [] false) (.slice none 0 0) [], rfl, SFr.flat ⟨(rdN _ _ _ _), (rdN _ _ _ _), (XsFr.nil _ _ _), (rdN _ _ _ _), (XsFr.nil _ _ _), (q.mono zx zx), (XsFr.nil _ _ _)⟩ (by refine ⟨?_, ?_, ?_⟩ <;> (try simp [XS.f]) <;> omega) rfl rfl, I, t, by omega, fun h9 => by omega⟩
 refine zD (zA S rfl) (zB (J1 _ _ (wp_cond_false (zA S rfl) (wp_skip (g _ _ (zF fun _ g => zH (zG (zC S rfl Y) (zY agg30 rfl (zC S rfl ag) L (zY agg51 rfl (zC S rfl W) l ?_)))))))))
 have hbl' := hbl.keepG hb c_hbl
 refine zj ok19 (selected_ret (r := F) ai zx hbl' A H zx zx zx) ⟨(zA S rfl), ⟨(zA S rfl), ⟨(zA S rfl), trivial⟩⟩⟩ ?_
 rintro _ A ⟨l, t, rfl, c, y, q, B⟩
 have := l.size
 have o := o.keepG l z
 have hb := hb.stepF l (fun _ _ h => h)
 refine zZ size37 (zC S rfl X) (zA S rfl) rfl (by simp only [yA, yB, yC, yD, c.ff.1.one, c.ff.2.1.one, c.ff.2.2.1.1.one, c.ff.2.2.2.1.one, c.ff.2.2.2.2.1.1.one, c.ff.2.2.2.2.2.1.1.one, c.ff.2.2.2.2.2.2.1.one, c.nvr.one]; try rfl) o rfl ?_
 intro B o A
 have := A.size
 have J := (J.keepG l sP).keep A sO
 have q := q.keepG (Gr.of A) (Dj.one z)
 have c := c.keep A sO
 have hb := hb.step1 A zx
 refine zB (g _ _ (wp_ret (retC rfl Z (zC S rfl X) agg37 rfl o ⟨_, rfl, ?_⟩)))
 exact ⟨hb, t, rfl, c.mono zx zx, y, q, by omega, fun h9 => by omega⟩

end Go.Proofs.YthflnkfghogaoaaGreat
