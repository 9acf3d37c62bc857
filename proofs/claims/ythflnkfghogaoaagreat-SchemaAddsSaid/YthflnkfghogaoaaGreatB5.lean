/- Walks, written by a program: what each function of the translation hands back. -/
import Derived.Test.YthflnkfghogaoaaGreatB4
set_option linter.unusedVariables false
set_option linter.unusedSimpArgs false

namespace Go.Proofs.YthflnkfghogaoaaGreat
open Go.Gx Go.RowKit
attribute [local irreducible] wpList wpStill Code.wp Calls

theorem Copy9_ret {tv vv : Value} {D : List DTab} {V : List DVw} {L B : Nat} {w : World} (hT : TsRd w w.heap.size tv D) (hD : D.length ≤ 1000000) (hsz : ∀ d ∈ D, d.t.cols.length ≤ 1000000 ∧ d.t.idx.length ≤ 1000000) (hV : VsFr w L B vv V) (hB : B ≤ w.heap.size) : Ret Tryz.prog 8 #[(.agg #[tv, vv])] w (fun v' w' => Below w.heap.size w w' ∧ ∃ (tv' vv' : Value) (D' : List DTab) (F' : Nat → Prop), v' = .agg #[tv', vv'] ∧ Own w' w.heap.size 51 3 tv' D'.length (D'.flatMap cellsT) ∧ TabsR w' w.heap.size D' F' ∧ D'.map DTab.t = D.map DTab.t ∧ Own w' w.heap.size 68 15 vv' V.length (V.flatMap cellsW) ∧ PwI D') := by
 have hR := hT.1
 have hVR := hV.1
 have hVz := hV.3
 have hb := Below.refl w.heap.size w
 refine enter (N := 40) Tryz.func8 rfl rfl (by simp) fun a hN hd hA => ?_
 have b : a.tmps.getD 0 undef = (.agg #[tv, vv]) := hA 0 (by simp)
 clear hA
 refine zF fun _ a => zH (op_box (cs := [tv, vv]) (zC hN rfl b) rfl ?_)
 intro g c m o b l
 obtain ⟨hb, _⟩ := yE hb l
 refine op_alloc (cs := [(.slice none 0 0), (.slice none 0 0)]) zero30 rfl ?_
 intro p m r q l o
 obtain ⟨hb, _⟩ := yE hb o
 refine zB (a _ _ (zF fun _ a => zH (op_alloc (cs := [(.slice none 0 0), (.slice none 0 0)]) zero30 rfl ?_)))
 intro r q x t s p
 obtain ⟨hb, _⟩ := yE hb p
 have b := (b.keep0 o).keep0 p
 have l := l.keep0 p
 refine zB (a _ _ (zF fun _ a => zF fun _ o => zH (zD rfl (zB (o _ _ (wp_block (loop_m (fun mz_ az_ w' => ∃ (i : Nat) (lv : Value) (D2 : List DTab) (F0S : Nat → Prop), mz_ = D.length - i ∧ (Sl az_ 1 (ptr c 0)) ∧ (Sl az_ 2 (ptr m 0)) ∧ (Sl az_ 3 (ptr q 0)) ∧ (Sl az_ 4 (.int .i64 ((i : Nat) : Int))) ∧ (i ≤ D.length) ∧ (D2.length = i) ∧ (D2.map DTab.t = (D.take i).map DTab.t) ∧ (PwI D2) ∧ (Below w.heap.size w w') ∧ (r.heap.size ≤ w'.heap.size) ∧ (Bx w' c 30 [tv, vv]) ∧ (Bx w' m 30 [(.slice none 0 0), (.slice none 0 0)]) ∧ (Bx w' q 30 [lv, (.slice none 0 0)]) ∧ (TabsR w' w.heap.size D2 F0S) ∧ (Own w' w.heap.size 51 3 lv D2.length (D2.flatMap cellsT))) _ hN hd ⟨0, (.slice none 0 0), [], NoB, rfl, (zU hN rfl), (zU hN rfl), (zU hN rfl), (zU hN rfl), (Nat.zero_le _), rfl, rfl, pw_nil, hb, (Nat.le_refl _), b, l, s, (TabsR.nil _ _), (Own.nil _ _ _ _)⟩ ?_)))))))
 rintro _ A x c t ⟨i, lv, D2, F0S, rfl, p, s, q, r, hi, z, hM, hPw, hb, y, b, l, hxt, hS, m⟩
 have := hb.size
 refine zF fun _ o => zF fun _ x => zH (zG (zC c rfl r) (zM fld30_0 (zC c rfl p) (zN one27 (zA c rfl) (b.cell rfl) ?_)))
 have hR' := hR.keep0 (zQ hb)
 refine op_len_rd Tryz.underlying27 (zA c rfl) hR' (op_lss (zA c rfl) (zA c rfl) (fun y => ?_) (fun y => ?_))
 ·
  refine zB (x _ _ (wp_cond_true (zA c rfl) (wp_skip (o _ _ (zF fun _ o => wp_block (zF fun _ x => zH (zM fld30_0 (zC c rfl p) (zN one27 (zA c rfl) (b.cell rfl) (zG (zC c rfl r) (zh slt27 (zA c rfl) hR' (zA c rfl) zx zx ?_))))))))))
  intro A z F C y
  refine zX (cs := [(.string (bs (D.getD i default).t.nm)), (D.getD i default).cv, (D.getD i default).iv]) agg51 rfl (zA c rfl) (fun j u hu => y j u (by have := (List.getElem?_eq_some_iff.1 hu).1; simpa using this) ((el_dt (i := i) zx zx) j u hu)) (op_alloc (cs := [(.string (bs [])), (.slice none 0 0), (.slice none 0 0)]) zero51 rfl ?_)
  intro H z F C y A
  have C : ¬ F0S z := fun hf => by have := (hS.lt _ hf).2; omega
  have F : lv.ownBlock ≠ some z := fun hh => by have := (m.lt _ hh).2; omega
  obtain ⟨hb, _⟩ := yE hb A
  have hxt := hxt.keep0 A
  obtain ⟨b, l⟩ := kb2 A b l
  have H := y
  have hT' := hT.keep0 (zQ hb)
  refine zZ size51 (zA c rfl) (zA c rfl) rfl (by simp only [yA, yB, yC, yD, (hT'.2 (D.getD i default) (getD_mem zx)).1.one, (hT'.2 (D.getD i default) (getD_mem zx)).2.one]; try rfl) y rfl ?_
  intro J y I
  have := I.size
  have b := b.keep I (sN b H)
  have l := l.keep I (sN l H)
  have hxt := hxt.keep I (sN hxt H)
  have hS := (hS.kz A).keepG (Gr.of I) (Dj.one C)
  have m := (m.keep0 A).keep I (.inr F)
  have hb := below_step1 hb I hb.size zx
  refine zB (x _ _ (zF fun _ x => ?_))
  have hT' := hT.keep0 (zQ hb)
  have hti := hT'.2 (D.getD i default) (getD_mem zx)
  have htl := hsz (D.getD i default) (getD_mem zx)
  have htc := hti.1
  have htx := hti.2
  refine reg_split (hd := [_, _, _, _, _, _, _, _, _, _]) (tl := _) 10 mixed zy rfl rfl (any_treek (φ := phiV [(fun _ => True), (fun uz => uz = (ptr z 1)), (fun uz => uz = (D.getD i default).cv), (fun _ => True), (fun _ => True), (fun uz => uz = (ptr z 2)), (fun uz => uz = (D.getD i default).iv), (fun _ => True), (fun uz => uz = (ptr z 1)), (fun _ => True)]) (G := fun A w' => 9 ∈ A → (Bx w' z 51 [(.string (bs (D.getD i default).t.nm)), (D.getD i default).cv, (D.getD i default).iv])) [0, 3, 4, 7, 9] zy zy zy zy zy c (fun _ g J E h I => (h I).keep0 E) (fun _ => y) (ObRk9.pass rfl (ObRk9.cons ?_ (ObRk9.cons ?_ (ObRk9.pass rfl (ObRk9.pass rfl (ObRk9.cons ?_ (ObRk9.cons ?_ (ObRk9.pass rfl (ObRk9.cons ?_ (ObRk9.pass rfl (ObRk9.nil))))))))))) (by simp only [putsL_defers]) ?_)
  ·
   intro eA tA aA wA hNA hckA hGA hbsA hdpA
   have g := (hbsA 5 rfl).trans (zU c rfl)
   refine zM fld51_1 (zC hNA rfl g) ?_
   exact obTk_end rfl rfl
  ·
   intro eA tA aA wA hNA hckA hGA hbsA hdpA
   have I : Sl aA 19 (ptr z 1) := (hdpA 1 _ 19 zy rfl rfl).2 rfl
   have hGA := hGA (hckA 9 rfl zy)
   refine zN one32 (zC hNA rfl I) (hGA.cell rfl) ?_
   exact obTk_end rfl rfl
  ·
   intro eA tA aA wA hNA hckA hGA hbsA hdpA
   have g := (hbsA 5 rfl).trans (zU c rfl)
   refine zM fld51_2 (zC hNA rfl g) ?_
   exact obTk_end rfl rfl
  ·
   intro eA tA aA wA hNA hckA hGA hbsA hdpA
   have I : Sl aA 23 (ptr z 2) := (hdpA 5 _ 23 zy rfl rfl).2 rfl
   have hGA := hGA (hckA 9 rfl zy)
   refine zN one49 (zC hNA rfl I) (hGA.cell rfl) ?_
   exact obTk_end rfl rfl
  ·
   intro eA tA aA wA hNA hckA hGA hbsA hdpA
   have g := (hbsA 5 rfl).trans (zU c rfl)
   refine zM fld51_1 (zC hNA rfl g) ?_
   exact obTk_end rfl rfl
  refine ktk_step (rs := [0, 4]) zy (more_mem ?_ ?_)
  ·
   intro J g _ M O K I o_ ho_; obtain rfl := zE ho_
   obtain ⟨hb, _⟩ := yE hb g
   have hS := hS.kz g
   refine op_bslice (e := 48) (pv := []) (cs := []) trivial zy ?_
   intro O K M P J I
   have M : ¬ F0S K := fun hf => by have := (hS.lt _ hf).2; omega
   obtain ⟨hb, _⟩ := yE hb I
   have b := (b.keep0 g).keep0 I
   have l := (l.keep0 g).keep0 I
   have hxt := (hxt.keep0 g).keep0 I
   have hS := hS.kz I
   have m := (m.keep0 g).keep0 I
   have y := (y.keep0 g).keep0 I
   have htc := (htc.keep0 g).keep0 I
   have htx := (htx.keep0 g).keep0 I
   refine ktk_end (G := fun A w' => 9 ∈ A → (Bx w' z 51 [(.string (bs (D.getD i default).t.nm)), (D.getD i default).cv, (D.getD i default).iv])) (todo := [0, 3, 4, 7, 9]) (i := 0) rfl (fun _ => y) (ktk_step (rs := [3, 4]) zy (more_mem ?_ ?_))
   ·
    intro R g _ I P Q O o_ ho_; obtain rfl := zE ho_
    obtain ⟨hb, _⟩ := yE hb g
    have htc := htc.keep0 g
    have J := J.keep0 g
    have Q : Sl I 18 (.slice (some ⟨K, 0, none⟩) 0 0) := (zE ((O 0 _ 18 zy rfl rfl).1 rfl)).symm
    have R : Sl I 20 (D.getD i default).cv := (O 2 _ 20 zy rfl rfl).2 rfl
    have I := (Own.ofBx (base := w.heap.size) (sz := 3) (n := 0) J rfl zz zx)
    refine op_append slt32 (zC P rfl Q) I (zC P rfl R) (Src.ofRd Tryz.underlying32 zz htc (one_pc _)) (by unfold maxLen; omega) zx hb.size ?_
    intro P R O Q S
    have := Q.size
    have hS := (hS.kz g).keepG (Gr.of Q) (Dj.one M)
    have y := (y.keep0 g).keep Q (by simp [Value.ownBlock]; try omega)
    have hb := below_stepO hb I Q hb.size zx
    have O : Own R w.heap.size 48 3 P (0 + ((D.getD i default).t.cols).length) (((D.getD i default).t.cols).flatMap cellsC) := by simpa [u8v, u16v, sv, cellsI, cellsC, cellsX, cellsS] using O
    refine ktk_end (G := fun A w' => 9 ∈ A → (Bx w' z 51 [(.string (bs (D.getD i default).t.nm)), (D.getD i default).cv, (D.getD i default).iv])) (todo := [3, 4, 7, 9]) (i := 3) rfl (fun _ => y) (ktk_step (rs := [4]) zy (one_mem ?_))
    intro S R _ W T X U o_ ho_; obtain rfl := zE ho_
    obtain ⟨hb, _⟩ := yE hb R
    have hS := hS.kz R
    refine op_bslice (e := 9) (pv := []) (cs := []) trivial zy ?_
    intro Y U W X T S
    have W : ¬ F0S U := fun hf => by have := (hS.lt _ hf).2; omega
    obtain ⟨hb, _⟩ := yE hb S
    have hS := hS.kz S
    have y := (y.keep0 R).keep0 S
    refine ktk_end (G := fun A w' => 9 ∈ A → (Bx w' z 51 [(.string (bs (D.getD i default).t.nm)), (D.getD i default).cv, (D.getD i default).iv])) (todo := [4, 7, 9]) (i := 4) rfl (fun _ => y) (ktk_step (rs := [7]) zy (one_mem ?_))
    intro ac X _ aa Z ab Y o_ ho_; obtain rfl := zE ho_
    obtain ⟨hb, _⟩ := yE hb X
    have hS := hS.kz X
    have htx := ((((htx.keep0 g).keepO I Q zx).keep0 R).keep0 S).keep0 X
    have T := T.keep0 X
    have ab : Sl aa 22 (.slice (some ⟨U, 0, none⟩) 0 0) := (zE ((Y 4 _ 22 zy rfl rfl).1 rfl)).symm
    have U : Sl aa 24 (D.getD i default).iv := (Y 6 _ 24 zy rfl rfl).2 rfl
    have Y := (Own.ofBx (base := w.heap.size) (sz := 1) (n := 0) T rfl zz zx)
    refine op_append slt49 (zC Z rfl ab) Y (zC Z rfl U) (Src.ofRd Tryz.underlying49 zz htx (one_sv _)) (by unfold maxLen; omega) zx hb.size ?_
    intro U aa T Z ab
    have ac : Dj F0S (Bl U) := Dj.step ab (fun k hk => (hS.lt k hk).2) (Dj.one W)
    have := Z.size
    have y := (y.keep0 X).keep Z (by simp [Value.ownBlock]; try omega)
    have hb := below_stepO hb Y Z hb.size zx
    have T : Own aa w.heap.size 9 1 U (0 + ((D.getD i default).t.idx).length) (((D.getD i default).t.idx).map sv) := by simpa [u8v, u16v, sv, cellsI, cellsC, cellsX, cellsS] using T
    refine ktk_end (G := fun A w' => 9 ∈ A → (Bx w' z 51 [(.string (bs (D.getD i default).t.nm)), (D.getD i default).cv, (D.getD i default).iv])) (todo := [7, 9]) (i := 7) rfl (fun _ => y) (ktk_step (rs := [9]) zy (one_mem ?_))
    intro ag aa _ ae ab af ad o_ ho_; obtain rfl := zE ho_
    obtain ⟨hb, _⟩ := yE hb aa
    have b := ((((((b.keep0 g).keep Q (by simp [Value.ownBlock]; try omega)).keep0 R).keep0 S).keep0 X).keep Z (by simp [Value.ownBlock]; try omega)).keep0 aa
    have l := ((((((l.keep0 g).keep Q (by simp [Value.ownBlock]; try omega)).keep0 R).keep0 S).keep0 X).keep Z (by simp [Value.ownBlock]; try omega)).keep0 aa
    have hxt := ((((((hxt.keep0 g).keep Q (by simp [Value.ownBlock]; try omega)).keep0 R).keep0 S).keep0 X).keep Z (by simp [Value.ownBlock]; try omega)).keep0 aa
    have y := y.keep0 aa
    have O := ((((O.keep0 R).keep0 S).keep0 X).keepT Y Z zz).keep0 aa
    have af : Sl ae 26 (ptr z 1) := (ad 8 _ 26 zy rfl rfl).2 rfl
    have ag : Sl ae 21 P := (zE ((ad 3 _ 21 zy rfl rfl).1 rfl)).symm
    have H := y
    refine za (vs := [P]) (cs' := [(.string (bs (D.getD i default).t.nm)), P, (D.getD i default).iv]) size32 (zC ab rfl af) (zC ab rfl ag) O.cl rfl (by simp only [yA, yB, yC, yD, O.one]; try rfl) y (zI rfl) rfl ?_
    intro ad y ab
    have := ab.size
    have b := b.keep ab (sN b H)
    have l := l.keep ab (sN l H)
    have hxt := hxt.keep ab (sN hxt H)
    have hS := ((hS.keepG (Gr.of Z) (Dj.one W)).kz aa).keepG (Gr.of ab) (Dj.one C)
    have hb := below_step1 hb ab hb.size zx
    refine ktk_end0 (G := fun A w' => 9 ∈ A → (Bx w' z 51 [(.string (bs (D.getD i default).t.nm)), (D.getD i default).cv, (D.getD i default).iv])) (todo := [9]) (i := 9) rfl (fun h => absurd h zz) ?_
    intro ai ad ah W af ae ag
    have af := af.trans ((by simp only [putsL_defers] : _ = _).trans t)
    obtain ⟨hb, _⟩ := yE hb ad
    have hxt := hxt.keep0 ad
    obtain ⟨b, l⟩ := kb2 ad b l
    have O := (O.keepX H ab zz).keep0 ad
    have T := ((T.keep0 aa).keepX H ab zz).keep0 ad
    have y := y.keep0 ad
    have ai := (ae 1 rfl).trans (zL c rfl p)
    have aj := (ae 2 rfl).trans (zL c rfl s)
    have ak := (ae 3 rfl).trans (zL c rfl q)
    have al := (ae 4 rfl).trans (zL c rfl r)
    have am := (ae 5 rfl).trans (zU c rfl)
    have ae : Sl ah 25 U := (zE ((ag 7 _ 25 rfl rfl).1 rfl)).symm
    refine split_end (from_seq (tl := [_, _]) zz zy rfl (zM fld51_2 (zC W rfl am) ?_))
    have H := y
    refine za (vs := [U]) (cs' := [(.string (bs (D.getD i default).t.nm)), P, U]) size49 (zA W rfl) (zC W rfl ae) T.cl rfl (by simp only [yA, yB, yC, yD, T.one]; try rfl) y (zI rfl) rfl ?_
    intro ag y ae
    have := ae.size
    have b := b.keep ae (sN b H)
    have l := l.keep ae (sN l H)
    have hxt := hxt.keep ae (sN hxt H)
    have hS := (hS.kz ad).keepG (Gr.of ae) (Dj.one C)
    have O := O.keepX H ae zz
    have T := T.keepX H ae zz
    have hb := below_step1 hb ae hb.size zx
    refine zB (x _ _ (zH (zM fld30_0 (zC W rfl ak) (zN one27 (zA W rfl) (hxt.cell rfl) (zY agg51 rfl (zC W rfl am) y (op_bslice (e := 51) (pv := [(0, (.agg #[(.string (bs (D.getD i default).t.nm)), P, U]))]) (cs := [(.string (bs (D.getD i default).t.nm)), P, U]) ⟨rfl, (zA W rfl), trivial⟩ (by obtain ⟨_, _, _, rfl⟩ := O.sl; obtain ⟨_, _, _, rfl⟩ := T.sl; kernel_rfl) ?_))))))
    intro an ap am ao ah ag
    obtain ⟨hb, _⟩ := yE hb ag
    have hS := hS.kz ag
    have m := ((((((((((m.keep0 g).keepT I Q zz).keep0 R).keep0 S).keep0 X).keepT Y Z zz).keep0 aa).keep ab (.inr F)).keep0 ad).keep ae (.inr F)).keep0 ag
    have O := O.keep0 ag
    have T := T.keep0 ag
    have g := m
    refine op_append slt27 (zA W rfl) g (zA W rfl) (Src.ofRd Tryz.underlying27 zz (RdC.ofBx (sz := 3) (n := 1) ah rfl zz) (by simp only [yA, yB, yC, yD, O.one, T.one]; try rfl)) (by unfold maxLen; omega) zx hb.size ?_
    intro R S Q I X
    have := I.size
    have hxt := (hxt.keep0 ag).keepO g I zz
    have hS := hS.keepG (Gr.of I) (hS.notOwn g zz zz).symm
    have hb := below_stepO hb g I hb.size zx
    have Q : Own S w.heap.size 51 3 R (D2 ++ [(DTab.mk (D.getD i default).t P U)]).length (((D2 ++ [(DTab.mk (D.getD i default).t P U)])).flatMap cellsT) := by exact Q.cast (by simp) (by simp [cellsT])
    refine zM fld30_0 (zC W rfl ak) ?_
    have hxt_old := hxt
    refine za (vs := [R]) (cs' := [R, (.slice none 0 0)]) size27 (zA W rfl) (zA W rfl) Q.cl rfl (by simp only [yA, yB, yC, yD, Q.one]; try rfl) hxt (zI rfl) rfl ?_
    intro X hxt S
    have := S.size
    have b := ((b.keep0 ag).keepO g I zz).keep S sB
    have l := ((l.keep0 ag).keepO g I zz).keep S sB
    have hS := hS.keepG (Gr.of S) (Dj.one (hS.notBx hxt_old zz zz))
    have O := (O.keepT g I zz).keepX hxt_old S zz
    have T := (T.keepT g I zz).keepX hxt_old S zz
    have Q := Q.keepX hxt_old S zz
    have hb := below_step1 hb S hb.size zx
    refine zB (o _ _ (zH (zG (zC W rfl al) (op_add (zA W rfl) rfl (add64 zx) (zD (zA W rfl) (zB ?_))))))
    -- round 10T
    exact zg _ W af ⟨(i + 1), R, (D2 ++ [(DTab.mk (D.getD i default).t P U)]), _, rfl, (zL W rfl ai), (zL W rfl aj), (zL W rfl ak), (zU W rfl).trans (congrArg (Value.int .i64) zx), zx, (by simp; omega), (by rw [List.map_append, hM, take_map_snoc _ zx]; rfl), (pw_snoc hS ac hPw), hb, zx, b, l, hxt, (hS.snoc (d := (DTab.mk (D.getD i default).t P U)) (O.cast (Nat.zero_add _) rfl) (T.cast (Nat.zero_add _) rfl)), (Q.cast (by simp) rfl)⟩ zx
   refine one_mem ?_
   intro O g _ I R P Q o_ ho_; obtain rfl := zE ho_
   obtain ⟨hb, _⟩ := yE hb g
   have hS := hS.kz g
   refine op_bslice (e := 9) (pv := []) (cs := []) trivial zy ?_
   intro R P Q S O I
   have Q : ¬ F0S P := fun hf => by have := (hS.lt _ hf).2; omega
   obtain ⟨hb, _⟩ := yE hb I
   have hS := hS.kz I
   have y := (y.keep0 g).keep0 I
   refine ktk_end (G := fun A w' => 9 ∈ A → (Bx w' z 51 [(.string (bs (D.getD i default).t.nm)), (D.getD i default).cv, (D.getD i default).iv])) (todo := [3, 4, 7, 9]) (i := 4) rfl (fun _ => y) (ktk_step (rs := [3]) zy (one_mem ?_))
   intro W R _ T S X U o_ ho_; obtain rfl := zE ho_
   obtain ⟨hb, _⟩ := yE hb R
   have htc := ((htc.keep0 g).keep0 I).keep0 R
   have J := ((J.keep0 g).keep0 I).keep0 R
   have W : Sl T 18 (.slice (some ⟨K, 0, none⟩) 0 0) := (zE ((U 0 _ 18 zy rfl rfl).1 rfl)).symm
   have K : Sl T 20 (D.getD i default).cv := (U 2 _ 20 zy rfl rfl).2 rfl
   have T := (Own.ofBx (base := w.heap.size) (sz := 3) (n := 0) J rfl zz zx)
   refine op_append slt32 (zC S rfl W) T (zC S rfl K) (Src.ofRd Tryz.underlying32 zz htc (one_pc _)) (by unfold maxLen; omega) zx hb.size ?_
   intro K U J S W
   have := S.size
   have hS := (hS.kz R).keepG (Gr.of S) (Dj.one M)
   have y := (y.keep0 R).keep S (by simp [Value.ownBlock]; try omega)
   have hb := below_stepO hb T S hb.size zx
   have J : Own U w.heap.size 48 3 K (0 + ((D.getD i default).t.cols).length) (((D.getD i default).t.cols).flatMap cellsC) := by simpa [u8v, u16v, sv, cellsI, cellsC, cellsX, cellsS] using J
   refine ktk_end (G := fun A w' => 9 ∈ A → (Bx w' z 51 [(.string (bs (D.getD i default).t.nm)), (D.getD i default).cv, (D.getD i default).iv])) (todo := [3, 7, 9]) (i := 3) rfl (fun _ => y) (ktk_step (rs := [7]) zy (one_mem ?_))
   intro Y M _ U W Z X o_ ho_; obtain rfl := zE ho_
   obtain ⟨hb, _⟩ := yE hb M
   have hS := hS.kz M
   have htx := ((((htx.keep0 g).keep0 I).keep0 R).keepO T S zx).keep0 M
   have O := ((O.keep0 R).keep S (by simp [Value.ownBlock]; try omega)).keep0 M
   have Y : Sl U 22 (.slice (some ⟨P, 0, none⟩) 0 0) := (zE ((X 4 _ 22 zy rfl rfl).1 rfl)).symm
   have P : Sl U 24 (D.getD i default).iv := (X 6 _ 24 zy rfl rfl).2 rfl
   have U := (Own.ofBx (base := w.heap.size) (sz := 1) (n := 0) O rfl zz zx)
   refine op_append slt49 (zC W rfl Y) U (zC W rfl P) (Src.ofRd Tryz.underlying49 zz htx (one_sv _)) (by unfold maxLen; omega) zx hb.size ?_
   intro P X O W Y
   have Z : Dj F0S (Bl P) := Dj.step Y (fun k hk => (hS.lt k hk).2) (Dj.one Q)
   have := W.size
   have y := (y.keep0 M).keep W (by simp [Value.ownBlock]; try omega)
   have hb := below_stepO hb U W hb.size zx
   have O : Own X w.heap.size 9 1 P (0 + ((D.getD i default).t.idx).length) (((D.getD i default).t.idx).map sv) := by simpa [u8v, u16v, sv, cellsI, cellsC, cellsX, cellsS] using O
   refine ktk_end (G := fun A w' => 9 ∈ A → (Bx w' z 51 [(.string (bs (D.getD i default).t.nm)), (D.getD i default).cv, (D.getD i default).iv])) (todo := [7, 9]) (i := 7) rfl (fun _ => y) (ktk_step (rs := [9]) zy (one_mem ?_))
   intro ac X _ ab Y ad aa o_ ho_; obtain rfl := zE ho_
   obtain ⟨hb, _⟩ := yE hb X
   have b := ((((((b.keep0 g).keep0 I).keep0 R).keep S (by simp [Value.ownBlock]; try omega)).keep0 M).keep W (by simp [Value.ownBlock]; try omega)).keep0 X
   have l := ((((((l.keep0 g).keep0 I).keep0 R).keep S (by simp [Value.ownBlock]; try omega)).keep0 M).keep W (by simp [Value.ownBlock]; try omega)).keep0 X
   have hxt := ((((((hxt.keep0 g).keep0 I).keep0 R).keep S (by simp [Value.ownBlock]; try omega)).keep0 M).keep W (by simp [Value.ownBlock]; try omega)).keep0 X
   have y := y.keep0 X
   have J := ((J.keep0 M).keepT U W zz).keep0 X
   have ac : Sl ab 26 (ptr z 1) := (aa 8 _ 26 zy rfl rfl).2 rfl
   have ad : Sl ab 21 K := (zE ((aa 3 _ 21 zy rfl rfl).1 rfl)).symm
   have H := y
   refine za (vs := [K]) (cs' := [(.string (bs (D.getD i default).t.nm)), K, (D.getD i default).iv]) size32 (zC Y rfl ac) (zC Y rfl ad) J.cl rfl (by simp only [yA, yB, yC, yD, J.one]; try rfl) y (zI rfl) rfl ?_
   intro aa y Y
   have := Y.size
   have b := b.keep Y (sN b H)
   have l := l.keep Y (sN l H)
   have hxt := hxt.keep Y (sN hxt H)
   have hS := ((hS.keepG (Gr.of W) (Dj.one Q)).kz X).keepG (Gr.of Y) (Dj.one C)
   have hb := below_step1 hb Y hb.size zx
   refine ktk_end0 (G := fun A w' => 9 ∈ A → (Bx w' z 51 [(.string (bs (D.getD i default).t.nm)), (D.getD i default).cv, (D.getD i default).iv])) (todo := [9]) (i := 9) rfl (fun h => absurd h zz) ?_
   intro af aa ad Q ac ab ae
   have ac := ac.trans ((by simp only [putsL_defers] : _ = _).trans t)
   obtain ⟨hb, _⟩ := yE hb aa
   have hxt := hxt.keep0 aa
   obtain ⟨b, l⟩ := kb2 aa b l
   have J := (J.keepX H Y zz).keep0 aa
   have O := ((O.keep0 X).keepX H Y zz).keep0 aa
   have y := y.keep0 aa
   have af := (ab 1 rfl).trans (zL c rfl p)
   have ag := (ab 2 rfl).trans (zL c rfl s)
   have ah := (ab 3 rfl).trans (zL c rfl q)
   have ai := (ab 4 rfl).trans (zL c rfl r)
   have aj := (ab 5 rfl).trans (zU c rfl)
   have ab : Sl ad 25 P := (zE ((ae 7 _ 25 rfl rfl).1 rfl)).symm
   refine split_end (from_seq (tl := [_, _]) zz zy rfl (zM fld51_2 (zC Q rfl aj) ?_))
   have H := y
   refine za (vs := [P]) (cs' := [(.string (bs (D.getD i default).t.nm)), K, P]) size49 (zA Q rfl) (zC Q rfl ab) O.cl rfl (by simp only [yA, yB, yC, yD, O.one]; try rfl) y (zI rfl) rfl ?_
   intro ad y ab
   have := ab.size
   have b := b.keep ab (sN b H)
   have l := l.keep ab (sN l H)
   have hxt := hxt.keep ab (sN hxt H)
   have hS := (hS.kz aa).keepG (Gr.of ab) (Dj.one C)
   have J := J.keepX H ab zz
   have O := O.keepX H ab zz
   have hb := below_step1 hb ab hb.size zx
   refine zB (x _ _ (zH (zM fld30_0 (zC Q rfl ah) (zN one27 (zA Q rfl) (hxt.cell rfl) (zY agg51 rfl (zC Q rfl aj) y (op_bslice (e := 51) (pv := [(0, (.agg #[(.string (bs (D.getD i default).t.nm)), K, P]))]) (cs := [(.string (bs (D.getD i default).t.nm)), K, P]) ⟨rfl, (zA Q rfl), trivial⟩ (by obtain ⟨_, _, _, rfl⟩ := J.sl; obtain ⟨_, _, _, rfl⟩ := O.sl; kernel_rfl) ?_))))))
   intro aj al ak am ae ad
   obtain ⟨hb, _⟩ := yE hb ad
   have hS := hS.kz ad
   have m := ((((((((((m.keep0 g).keep0 I).keep0 R).keepT T S zz).keep0 M).keepT U W zz).keep0 X).keep Y (.inr F)).keep0 aa).keep ab (.inr F)).keep0 ad
   have J := J.keep0 ad
   have O := O.keep0 ad
   have g := m
   refine op_append slt27 (zA Q rfl) g (zA Q rfl) (Src.ofRd Tryz.underlying27 zz (RdC.ofBx (sz := 3) (n := 1) ae rfl zz) (by simp only [yA, yB, yC, yD, J.one, O.one]; try rfl)) (by unfold maxLen; omega) zx hb.size ?_
   intro R S M I T
   have := I.size
   have hxt := (hxt.keep0 ad).keepO g I zz
   have hS := hS.keepG (Gr.of I) (hS.notOwn g zz zz).symm
   have hb := below_stepO hb g I hb.size zx
   have M : Own S w.heap.size 51 3 R (D2 ++ [(DTab.mk (D.getD i default).t K P)]).length (((D2 ++ [(DTab.mk (D.getD i default).t K P)])).flatMap cellsT) := by exact M.cast (by simp) (by simp [cellsT])
   refine zM fld30_0 (zC Q rfl ah) ?_
   have hxt_old := hxt
   refine za (vs := [R]) (cs' := [R, (.slice none 0 0)]) size27 (zA Q rfl) (zA Q rfl) M.cl rfl (by simp only [yA, yB, yC, yD, M.one]; try rfl) hxt (zI rfl) rfl ?_
   intro T hxt S
   have := S.size
   have b := ((b.keep0 ad).keepO g I zz).keep S sB
   have l := ((l.keep0 ad).keepO g I zz).keep S sB
   have hS := hS.keepG (Gr.of S) (Dj.one (hS.notBx hxt_old zz zz))
   have J := (J.keepT g I zz).keepX hxt_old S zz
   have O := (O.keepT g I zz).keepX hxt_old S zz
   have M := M.keepX hxt_old S zz
   have hb := below_step1 hb S hb.size zx
   refine zB (o _ _ (zH (zG (zC Q rfl ai) (op_add (zA Q rfl) rfl (add64 zx) (zD (zA Q rfl) (zB ?_))))))
   -- round 10T
   exact zg _ Q ac ⟨(i + 1), R, (D2 ++ [(DTab.mk (D.getD i default).t K P)]), _, rfl, (zL Q rfl af), (zL Q rfl ag), (zL Q rfl ah), (zU Q rfl).trans (congrArg (Value.int .i64) zx), zx, (by simp; omega), (by rw [List.map_append, hM, take_map_snoc _ zx]; rfl), (pw_snoc hS Z hPw), hb, zx, b, l, hxt, (hS.snoc (d := (DTab.mk (D.getD i default).t K P)) (J.cast (Nat.zero_add _) rfl) (O.cast (Nat.zero_add _) rfl)), (M.cast (by simp) rfl)⟩ zx
  refine one_mem ?_
  intro J g _ M K I O o_ ho_; obtain rfl := zE ho_
  obtain ⟨hb, _⟩ := yE hb g
  have hS := hS.kz g
  refine op_bslice (e := 9) (pv := []) (cs := []) trivial zy ?_
  intro O K M P J I
  have M : ¬ F0S K := fun hf => by have := (hS.lt _ hf).2; omega
  obtain ⟨hb, _⟩ := yE hb I
  have hS := hS.kz I
  have y := (y.keep0 g).keep0 I
  refine ktk_end (G := fun A w' => 9 ∈ A → (Bx w' z 51 [(.string (bs (D.getD i default).t.nm)), (D.getD i default).cv, (D.getD i default).iv])) (todo := [0, 3, 4, 7, 9]) (i := 4) rfl (fun _ => y) (ktk_step (rs := [0]) zy (one_mem ?_))
  intro R O _ T S Q P o_ ho_; obtain rfl := zE ho_
  obtain ⟨hb, _⟩ := yE hb O
  have hS := hS.kz O
  refine op_bslice (e := 48) (pv := []) (cs := []) trivial zy ?_
  intro T R U S Q P
  have S : ¬ F0S R := fun hf => by have := (hS.lt _ hf).2; omega
  obtain ⟨hb, _⟩ := yE hb P
  have hS := hS.kz P
  have y := (y.keep0 O).keep0 P
  refine ktk_end (G := fun A w' => 9 ∈ A → (Bx w' z 51 [(.string (bs (D.getD i default).t.nm)), (D.getD i default).cv, (D.getD i default).iv])) (todo := [0, 3, 7, 9]) (i := 0) rfl (fun _ => y) (ktk_step (rs := [3]) zy (one_mem ?_))
  intro Z T _ U W Y X o_ ho_; obtain rfl := zE ho_
  obtain ⟨hb, _⟩ := yE hb T
  have htc := ((((htc.keep0 g).keep0 I).keep0 O).keep0 P).keep0 T
  have Q := Q.keep0 T
  have Y : Sl U 18 (.slice (some ⟨R, 0, none⟩) 0 0) := (zE ((X 0 _ 18 zy rfl rfl).1 rfl)).symm
  have R : Sl U 20 (D.getD i default).cv := (X 2 _ 20 zy rfl rfl).2 rfl
  have U := (Own.ofBx (base := w.heap.size) (sz := 3) (n := 0) Q rfl zz zx)
  refine op_append slt32 (zC W rfl Y) U (zC W rfl R) (Src.ofRd Tryz.underlying32 zz htc (one_pc _)) (by unfold maxLen; omega) zx hb.size ?_
  intro R X Q W Y
  have := W.size
  have hS := (hS.kz T).keepG (Gr.of W) (Dj.one S)
  have y := (y.keep0 T).keep W (by simp [Value.ownBlock]; try omega)
  have hb := below_stepO hb U W hb.size zx
  have Q : Own X w.heap.size 48 3 R (0 + ((D.getD i default).t.cols).length) (((D.getD i default).t.cols).flatMap cellsC) := by simpa [u8v, u16v, sv, cellsI, cellsC, cellsX, cellsS] using Q
  refine ktk_end (G := fun A w' => 9 ∈ A → (Bx w' z 51 [(.string (bs (D.getD i default).t.nm)), (D.getD i default).cv, (D.getD i default).iv])) (todo := [3, 7, 9]) (i := 3) rfl (fun _ => y) (ktk_step (rs := [7]) zy (one_mem ?_))
  intro ab S _ Z X aa Y o_ ho_; obtain rfl := zE ho_
  obtain ⟨hb, _⟩ := yE hb S
  have hS := hS.kz S
  have htx := ((((((htx.keep0 g).keep0 I).keep0 O).keep0 P).keep0 T).keepO U W zx).keep0 S
  have J := ((((J.keep0 O).keep0 P).keep0 T).keep W (by simp [Value.ownBlock]; try omega)).keep0 S
  have aa : Sl Z 22 (.slice (some ⟨K, 0, none⟩) 0 0) := (zE ((Y 4 _ 22 zy rfl rfl).1 rfl)).symm
  have K : Sl Z 24 (D.getD i default).iv := (Y 6 _ 24 zy rfl rfl).2 rfl
  have Y := (Own.ofBx (base := w.heap.size) (sz := 1) (n := 0) J rfl zz zx)
  refine op_append slt49 (zC X rfl aa) Y (zC X rfl K) (Src.ofRd Tryz.underlying49 zz htx (one_sv _)) (by unfold maxLen; omega) zx hb.size ?_
  intro K Z J X aa
  have ab : Dj F0S (Bl K) := Dj.step aa (fun k hk => (hS.lt k hk).2) (Dj.one M)
  have := X.size
  have y := (y.keep0 S).keep X (by simp [Value.ownBlock]; try omega)
  have hb := below_stepO hb Y X hb.size zx
  have J : Own Z w.heap.size 9 1 K (0 + ((D.getD i default).t.idx).length) (((D.getD i default).t.idx).map sv) := by simpa [u8v, u16v, sv, cellsI, cellsC, cellsX, cellsS] using J
  refine ktk_end (G := fun A w' => 9 ∈ A → (Bx w' z 51 [(.string (bs (D.getD i default).t.nm)), (D.getD i default).cv, (D.getD i default).iv])) (todo := [7, 9]) (i := 7) rfl (fun _ => y) (ktk_step (rs := [9]) zy (one_mem ?_))
  intro ae Z _ ac ad af aa o_ ho_; obtain rfl := zE ho_
  obtain ⟨hb, _⟩ := yE hb Z
  have b := ((((((((b.keep0 g).keep0 I).keep0 O).keep0 P).keep0 T).keep W (by simp [Value.ownBlock]; try omega)).keep0 S).keep X (by simp [Value.ownBlock]; try omega)).keep0 Z
  have l := ((((((((l.keep0 g).keep0 I).keep0 O).keep0 P).keep0 T).keep W (by simp [Value.ownBlock]; try omega)).keep0 S).keep X (by simp [Value.ownBlock]; try omega)).keep0 Z
  have hxt := ((((((((hxt.keep0 g).keep0 I).keep0 O).keep0 P).keep0 T).keep W (by simp [Value.ownBlock]; try omega)).keep0 S).keep X (by simp [Value.ownBlock]; try omega)).keep0 Z
  have y := y.keep0 Z
  have Q := ((Q.keep0 S).keepT Y X zz).keep0 Z
  have ae : Sl ac 26 (ptr z 1) := (aa 8 _ 26 zy rfl rfl).2 rfl
  have af : Sl ac 21 R := (zE ((aa 3 _ 21 zy rfl rfl).1 rfl)).symm
  have H := y
  refine za (vs := [R]) (cs' := [(.string (bs (D.getD i default).t.nm)), R, (D.getD i default).iv]) size32 (zC ad rfl ae) (zC ad rfl af) Q.cl rfl (by simp only [yA, yB, yC, yD, Q.one]; try rfl) y (zI rfl) rfl ?_
  intro ac y aa
  have := aa.size
  have b := b.keep aa (sN b H)
  have l := l.keep aa (sN l H)
  have hxt := hxt.keep aa (sN hxt H)
  have hS := ((hS.keepG (Gr.of X) (Dj.one M)).kz Z).keepG (Gr.of aa) (Dj.one C)
  have hb := below_step1 hb aa hb.size zx
  refine ktk_end0 (G := fun A w' => 9 ∈ A → (Bx w' z 51 [(.string (bs (D.getD i default).t.nm)), (D.getD i default).cv, (D.getD i default).iv])) (todo := [9]) (i := 9) rfl (fun h => absurd h zz) ?_
  intro af A ae z ac M ad
  have ac := ac.trans ((by simp only [putsL_defers] : _ = _).trans t)
  obtain ⟨hb, _⟩ := yE hb A
  have hxt := hxt.keep0 A
  obtain ⟨b, l⟩ := kb2 A b l
  have Q := (Q.keepX H aa zz).keep0 A
  have J := ((J.keep0 Z).keepX H aa zz).keep0 A
  have y := y.keep0 A
  have af := (M 1 rfl).trans (zL c rfl p)
  have ag := (M 2 rfl).trans (zL c rfl s)
  have ah := (M 3 rfl).trans (zL c rfl q)
  have ai := (M 4 rfl).trans (zL c rfl r)
  have r := (M 5 rfl).trans (zU c rfl)
  have M : Sl ae 25 K := (zE ((ad 7 _ 25 rfl rfl).1 rfl)).symm
  refine split_end (from_seq (tl := [_, _]) zz zy rfl (zM fld51_2 (zC z rfl r) ?_))
  have H := y
  refine za (vs := [K]) (cs' := [(.string (bs (D.getD i default).t.nm)), R, K]) size49 (zA z rfl) (zC z rfl M) J.cl rfl (by simp only [yA, yB, yC, yD, J.one]; try rfl) y (zI rfl) rfl ?_
  intro ad y M
  have := M.size
  have b := b.keep M (sN b H)
  have l := l.keep M (sN l H)
  have hxt := hxt.keep M (sN hxt H)
  have hS := (hS.kz A).keepG (Gr.of M) (Dj.one C)
  have Q := Q.keepX H M zz
  have J := J.keepX H M zz
  have hb := below_step1 hb M hb.size zx
  refine zB (x _ _ (zH (zM fld30_0 (zC z rfl ah) (zN one27 (zA z rfl) (hxt.cell rfl) (zY agg51 rfl (zC z rfl r) y (op_bslice (e := 51) (pv := [(0, (.agg #[(.string (bs (D.getD i default).t.nm)), R, K]))]) (cs := [(.string (bs (D.getD i default).t.nm)), R, K]) ⟨rfl, (zA z rfl), trivial⟩ (by obtain ⟨_, _, _, rfl⟩ := Q.sl; obtain ⟨_, _, _, rfl⟩ := J.sl; kernel_rfl) ?_))))))
  intro H C ae ad y r
  obtain ⟨hb, _⟩ := yE hb r
  have hS := hS.kz r
  have m := ((((((((((((m.keep0 g).keep0 I).keep0 O).keep0 P).keep0 T).keepT U W zz).keep0 S).keepT Y X zz).keep0 Z).keep aa (.inr F)).keep0 A).keep M (.inr F)).keep0 r
  have Q := Q.keep0 r
  have J := J.keep0 r
  have g := m
  refine op_append slt27 (zA z rfl) g (zA z rfl) (Src.ofRd Tryz.underlying27 zz (RdC.ofBx (sz := 3) (n := 1) y rfl zz) (by simp only [yA, yB, yC, yD, Q.one, J.one]; try rfl)) (by unfold maxLen; omega) zx hb.size ?_
  intro C F A y H
  have := y.size
  have hxt := (hxt.keep0 r).keepO g y zz
  have hS := hS.keepG (Gr.of y) (hS.notOwn g zz zz).symm
  have hb := below_stepO hb g y hb.size zx
  have A : Own F w.heap.size 51 3 C (D2 ++ [(DTab.mk (D.getD i default).t R K)]).length (((D2 ++ [(DTab.mk (D.getD i default).t R K)])).flatMap cellsT) := by exact A.cast (by simp) (by simp [cellsT])
  refine zM fld30_0 (zC z rfl ah) ?_
  have hxt_old := hxt
  refine za (vs := [C]) (cs' := [C, (.slice none 0 0)]) size27 (zA z rfl) (zA z rfl) A.cl rfl (by simp only [yA, yB, yC, yD, A.one]; try rfl) hxt (zI rfl) rfl ?_
  intro H hxt F
  have := F.size
  have b := ((b.keep0 r).keepO g y zz).keep F sB
  have l := ((l.keep0 r).keepO g y zz).keep F sB
  have hS := hS.keepG (Gr.of F) (Dj.one (hS.notBx hxt_old zz zz))
  have Q := (Q.keepT g y zz).keepX hxt_old F zz
  have J := (J.keepT g y zz).keepX hxt_old F zz
  have A := A.keepX hxt_old F zz
  have hb := below_step1 hb F hb.size zx
  refine zB (o _ _ (zH (zG (zC z rfl ai) (op_add (zA z rfl) rfl (add64 zx) (zD (zA z rfl) (zB ?_))))))
  -- round 10T
  exact zg _ z ac ⟨(i + 1), C, (D2 ++ [(DTab.mk (D.getD i default).t R K)]), _, rfl, (zL z rfl af), (zL z rfl ag), (zL z rfl ah), (zU z rfl).trans (congrArg (Value.int .i64) zx), zx, (by simp; omega), (by rw [List.map_append, hM, take_map_snoc _ zx]; rfl), (pw_snoc hS ab hPw), hb, zx, b, l, hxt, (hS.snoc (d := (DTab.mk (D.getD i default).t R K)) (Q.cast (Nat.zero_add _) rfl) (J.cast (Nat.zero_add _) rfl)), (A.cast (by simp) rfl)⟩ zx
 refine zB (x _ _ (wp_cond_false (zA c rfl) (wp_exit (then_exit (then_exit (blk_hit (a _ _ (zF fun _ a => zH (op_bslice (e := 68) (pv := []) (cs := []) trivial zy ?_)))))))))
 intro z o x y r g
 have x : ¬ F0S o := fun hf => by have := (hS.lt _ hf).2; omega
 obtain ⟨hb, _⟩ := yE hb g
 have b := b.keep0 g
 refine zM fld30_1 (zC c rfl p) (zN one28 (zA c rfl) (b.cell rfl) ?_)
 have b := (Own.ofBx (base := w.heap.size) (sz := 15) (n := 0) r rfl zz zx)
 have hV' := hV.keep0 (zQ hb)
 have hVR' := hVR.keep0 (zQ hb)
 refine op_append slt28 (zA c rfl) b (zA c rfl) (Src.ofRd Tryz.underlying28 zz hVR' (one_dv hV')) (by unfold maxLen; omega) zx hb.size ?_
 intro r y o p z
 have := p.size
 have hxt := (hxt.keep0 g).keep p (by simp [Value.ownBlock]; try omega)
 have hS := (hS.kz g).keepG (Gr.of p) (Dj.one x)
 have hb := below_stepO hb b p hb.size zx
 have o : Own y w.heap.size 68 15 r (0 + V.length) ((V).flatMap cellsW) := by simpa [u8v, u16v, sv, cellsI, cellsC, cellsX, cellsS] using o
 refine zM fld30_1 (zC c rfl q) ?_
 have hxt_old := hxt
 refine za (vs := [r]) (cs' := [lv, r]) size28 (zA c rfl) (zA c rfl) o.cl rfl (by simp only [yA, yB, yC, yD, o.one]; try rfl) hxt (zI rfl) rfl ?_
 intro x hxt r
 have := r.size
 have l := ((l.keep0 g).keep p (by simp [Value.ownBlock]; try omega)).keep r sB
 have hS := hS.keepG (Gr.of r) (Dj.one (hS.notBx hxt_old zz zz))
 have m := ((m.keep0 g).keepT b p zz).keepX hxt_old r zz
 have o := o.keepX hxt_old r zz
 have hb := below_step1 hb r hb.size zx
 refine zB (a _ _ (zF fun _ a => zH (zY agg30 rfl (zC c rfl q) hxt ?_)))
 have b := l
 refine zZ size30 (zC c rfl s) (zA c rfl) rfl (by simp only [yA, yB, yC, yD, m.one, o.one]; try rfl) l rfl ?_
 intro p l g
 have := g.size
 have hS := hS.keepG (Gr.of g) (Dj.one (hS.notBx b zz zz))
 have m := m.keepX b g zz
 have o := o.keepX b g zz
 have hb := below_step1 hb g hb.size zx
 refine zB (a _ _ (wp_ret (retC rfl t (zC c rfl s) agg30 rfl l ⟨_, rfl, ?_⟩)))
 exact ⟨hb, _, _, _, _, rfl, m, hS, by rw [hM, List.take_of_length_le zx], o.cast (Nat.zero_add _) rfl, hPw⟩

end Go.Proofs.YthflnkfghogaoaaGreat

namespace Go.Gx
theorem XSame.refl : ∀ a : XE, XSame a a := XE.ind fun a ih => .mk ⟨rfl, rfl, rfl, rfl, rfl, rfl⟩ rfl fun i hi => ih _ (getD_mem hi)
theorem XsSame.refl (E : List XE) : XsSame E E := ⟨rfl, fun i _ => XSame.refl _⟩
theorem SSame.refl : ∀ a : XS, SSame a a := XS.ind fun a ih => .mk ⟨rfl, rfl, rfl, rfl, rfl, .refl _, rfl, rfl, .refl _, .refl _, .refl _, rfl⟩ rfl fun i hi => ih _ (getD_mem hi)
theorem VsSame.refl (V : List DVw) : VsSame V V := ⟨rfl, fun _ _ => ⟨rfl, rfl, SSame.refl _⟩⟩
end Go.Gx
namespace Go.Proofs.YthflnkfghogaoaaGreat
open Go.Gx
def AddY (V V' : List DVw) (s : XS) : Prop := if s.f.kind = 3 ∨ s.f.kind = 4 then ∃ d, V' = V ++ [d] ∧ d.nm = s.f.nm ∧ d.strip = normL s.f.tags ∧ d.act = s.inner.getD 0 default else V' = V
theorem AddY.n {V : List DVw} {s : XS} (h : s.f.kind ≠ 3 ∧ s.f.kind ≠ 4) : AddY V V s := by unfold AddY; rw [if_neg (by omega)]
theorem AddY.v {V : List DVw} {s : XS} {d : DVw} (h : s.f.kind = 3 ∨ s.f.kind = 4) (h1 : d.nm = s.f.nm) (h2 : d.strip = normL s.f.tags) (h3 : d.act = s.inner.getD 0 default) : AddY V (V ++ [d]) s := by unfold AddY; rw [if_pos h]; exact ⟨d, rfl, h1, h2, h3⟩
theorem vs_names {V W : List DVw} (h : VsSame V W) : W.map DVw.nm = V.map DVw.nm := names_same h.1.symm h.2
theorem vs_step {V W V' W' : List DVw} {s : XS} (h : VsSame V W) (h1 : AddV V V' s) (h2 : AddY W W' s) : VsSame V' W' := by
  unfold AddV at h1; unfold AddY at h2
  by_cases hk : s.f.kind = 3 ∨ s.f.kind = 4
  · rw [if_pos hk] at h1 h2
    obtain ⟨V1, d, rfl, e1, e2, e3, e4, e5⟩ := h1
    obtain ⟨d', rfl, g1, g2, g3⟩ := h2
    have hl := h.1
    refine ⟨by simp; omega, fun i hi => ?_⟩
    rw [List.length_append, List.length_singleton] at hi
    by_cases hv : i < V1.length
    · rw [getD_old hv, getD_old (by omega)]
      exact (e2 i (by omega)).symm.trans (h.2 i (by omega))
    · rw [getD_snoc (by omega), getD_snoc (by omega)]
      exact ⟨e3.trans g1.symm, e4.trans g2.symm, by rw [g3]; exact e5.symm⟩
  · rw [if_neg hk] at h1 h2
    subst h2
    have hl := h.1
    exact ⟨by omega, fun i hi => (h1.2 i (by omega)).symm.trans (h.2 i (by omega))⟩
theorem vk3_t {k c : Int} (hc : c = 3) (h : (decide (k = 6) != decide (c = 3)) = true) : ¬ k ∈ ([6] : List Int) := fun q => by
  rw [List.mem_singleton] at q; subst q; subst hc; exact absurd h (by decide)
theorem vk4_t {k c : Int} (hc : c = 4) (h : (decide (k = 6) != decide (c = 3)) = true) : ¬ k ∈ ([5, 7, 8] : List Int) := fun q => by
  subst hc; simp only [List.mem_cons, List.not_mem_nil, or_false] at q
  rcases q with rfl | rfl | rfl <;> exact absurd h (by decide)
theorem vk3_d {k : Int} (h : decide (5 ≤ k ∧ k ≤ 8) = false) : ¬ k ∈ ([6] : List Int) := fun q => by
  rw [List.mem_singleton] at q; subst q; exact absurd h (by decide)
theorem vk4_d {k : Int} (h : decide (5 ≤ k ∧ k ≤ 8) = false) : ¬ k ∈ ([5, 7, 8] : List Int) := fun q => by
  simp only [List.mem_cons, List.not_mem_nil, or_false] at q
  rcases q with rfl | rfl | rfl <;> exact absurd h (by decide)
theorem vk3_ok {k c : Int} (hc : c = 3) (h : (decide (k = 6) != decide (c = 3)) = false) : k ∈ ([6] : List Int) := by
  subst hc
  by_cases q : k = 6
  · exact List.mem_singleton.2 q
  · rw [decide_eq_false q] at h; exact absurd h (by decide)
theorem vk4_ok {k c : Int} (hc : c = 4) (h : (decide (k = 6) != decide (c = 3)) = false) (h2 : decide (5 ≤ k ∧ k ≤ 8) = true) : k ∈ ([5, 7, 8] : List Int) := by
  subst hc
  have h2 := of_decide_eq_true h2
  by_cases q : k = 6
  · subst q; exact absurd h (by decide)
  · simp only [List.mem_cons, List.not_mem_nil, or_false]; omega
def kdsV (s : XS) : List Int := if s.f.kind = 3 then [6] else [5, 7, 8]
theorem addE_v {T : List PTab} {N : List (List UInt8)} {o : Lb} {s : XS} (h : s.f.kind = 3 ∨ s.f.kind = 4) : addE T N o s = viewE N o s (kdsV s) := by
  unfold kdsV
  by_cases h3 : s.f.kind = 3
  · rw [if_pos h3]; exact addE_3 h3
  · rw [if_neg h3]; exact addE_4 (by omega)
theorem vkv_t {s : XS} {k : Int} (hc : s.f.kind = 3 ∨ s.f.kind = 4) (h : (decide (k = 6) != decide (s.f.kind = 3)) = true) : ¬ k ∈ kdsV s := by
  unfold kdsV
  by_cases h3 : s.f.kind = 3
  · rw [if_pos h3]; exact vk3_t h3 h
  · rw [if_neg h3]; exact vk4_t (by omega) h
theorem vkv_d {s : XS} {k : Int} (h : decide (5 ≤ k ∧ k ≤ 8) = false) : ¬ k ∈ kdsV s := by
  unfold kdsV; split
  · exact vk3_d h
  · exact vk4_d h
theorem vkv_ok {s : XS} {k : Int} (hc : s.f.kind = 3 ∨ s.f.kind = 4) (h : (decide (k = 6) != decide (s.f.kind = 3)) = false) (h2 : decide (5 ≤ k ∧ k ≤ 8) = true) : k ∈ kdsV s := by
  unfold kdsV
  by_cases h3 : s.f.kind = 3
  · rw [if_pos h3]; exact vk3_ok h3 h
  · rw [if_neg h3]; exact vk4_ok (by omega) h h2
theorem ixl_no {T T3 I : List PTab} {i k : Nat} (hM : T3 = if i ≤ k then T else I) (hne : i ≠ k) : T3 = if i + 1 ≤ k then T else I := by
  rw [hM]
  by_cases h : i ≤ k
  · rw [if_pos h, if_pos (by omega)]
  · rw [if_neg h, if_neg (by omega)]
theorem ixl_nm {T T3 : List PTab} {tb nm : List UInt8} {i k : Nat} (hM : T3 = if i ≤ k then T else idxT T tb nm) (j : Nat) : (T3.getD j default).nm = (T.getD j default).nm := by
  rw [hM]
  by_cases h : i ≤ k
  · rw [if_pos h]
  · rw [if_neg h]; exact ((idxT_get tb nm T).2 j).1
def UnT (T : List PTab) : Prop := ∀ i j, i < j → j < T.length → (T.getD i default).nm ≠ (T.getD j default).nm
theorem ixl_is {T : List PTab} {D3 : List DTab} {tb nm : List UInt8} {i k : Nat} (hu : UnT T) (hM : D3.map DTab.t = if i ≤ k then T else idxT T tb nm) (hi : i < T.length) (hk : k < T.length) (h : (T.getD k default).nm = tb) (h2 : (D3.getD i default).t.nm = tb) : i = k := by
  rw [← map_t, ixl_nm hM] at h2
  rcases Nat.lt_trichotomy i k with q | q | q
  · exact absurd (h2.trans h.symm) (hu i k q hk)
  · exact q
  · exact absurd (h.trans h2.symm) (hu k i q hi)
theorem ixl_isnt {T : List PTab} {D3 : List DTab} {tb nm : List UInt8} {i k : Nat} (hM : D3.map DTab.t = if i ≤ k then T else idxT T tb nm) (h : (T.getD k default).nm = tb) (h2 : ¬ (D3.getD i default).t.nm = tb) : i ≠ k := fun e => by
  subst e; rw [← map_t, ixl_nm hM] at h2; exact h2 h
theorem ixl_first {T : List PTab} {D3 : List DTab} {tb nm : List UInt8} {i k : Nat} (hu : UnT T) (hM : D3.map DTab.t = if i ≤ k then T else idxT T tb nm) (hi : i < T.length) (h2 : (D3.getD i default).t.nm = tb) : ∀ j, j < i → ¬ (D3.getD j default).t.nm = tb := fun j hj h => by
  rw [← map_t, ixl_nm hM] at h h2
  exact hu j i hj hi (h.trans h2.symm)
end Go.Proofs.YthflnkfghogaoaaGreat
namespace Go.Proofs.YthflnkfghogaoaaGreat
open Go.Gx
theorem adds_same {D D2 Dx Dy : List DTab} {V V2 Vx Vy : List DVw} {o : Lb} {s : XS} (hM : D.map DTab.t = D2.map DTab.t) (hV : VsSame V V2) (h1 : addE (D.map DTab.t) (V.map DVw.nm) o s = 0 → Dx.map DTab.t = addT (D.map DTab.t) s ∧ AddV V Vx s) (h2 : addE (D.map DTab.t) (V.map DVw.nm) o s ≠ 0 → Dx = [] ∧ Vx = [])
    (h3 : addE (D2.map DTab.t) (V2.map DVw.nm) o s = 0 → Dy.map DTab.t = addT (D2.map DTab.t) s ∧ AddY V2 Vy s) (h4 : addE (D2.map DTab.t) (V2.map DVw.nm) o s ≠ 0 → Dy = [] ∧ Vy = []) : Dx.map DTab.t = Dy.map DTab.t ∧ VsSame Vx Vy := by
  rw [← hM, vs_names hV] at h3 h4
  by_cases h : addE (D.map DTab.t) (V.map DVw.nm) o s = 0
  · exact ⟨(h1 h).1.trans (h3 h).1.symm, vs_step hV (h1 h).2 (h3 h).2⟩
  · obtain ⟨rfl, rfl⟩ := h2 h
    obtain ⟨rfl, rfl⟩ := h4 h
    exact ⟨rfl, VsSame.refl _⟩
def NcT (T : List PTab) : Prop := ∀ t ∈ T, 1 ≤ t.cols.length
theorem nc_step {T : List PTab} {N : List (List UInt8)} {o : Lb} {s : XS} (h : NcT T) (he : addE T N o s = 0) : NcT (addT T s) := by
  by_cases h1 : s.f.kind = 1
  · rw [addE_1 h1] at he; rw [addT_1 h1]
    intro t ht
    rcases List.mem_append.1 ht with ht | ht
    · exact h t ht
    · rw [List.mem_singleton] at ht; subst ht
      obtain ⟨e1, e2, e3, _⟩ := tabE_0 he
      by_cases h0 : s.f.cols.length = 0
      · unfold tabE at he
        rw [if_neg (by rw [e1]; decide), if_neg (by omega), if_pos (.inl h0)] at he
        exact absurd he (by decide)
      · show 1 ≤ s.f.cols.length; omega
  · by_cases h2 : s.f.kind = 2
    · rw [addT_2 h2]
      obtain ⟨hl, hg⟩ := idxT_get s.f.tb s.f.nm T
      intro t ht
      obtain ⟨j, hj, rfl⟩ := mem_get ht
      rw [hl] at hj; rw [(hg j).2.1]; exact h _ (getD_mem hj)
    · rw [addT_v ⟨h1, h2⟩]; exact h
theorem szl {D2 Dx Dy : List DTab} {V2 Vy : List DVw} {o : Lb} {s : XS} (h : Dx.map DTab.t = Dy.map DTab.t) (h3 : addE (D2.map DTab.t) (V2.map DVw.nm) o s = 0 → Dy.map DTab.t = addT (D2.map DTab.t) s ∧ AddY V2 Vy s) (h4 : addE (D2.map DTab.t) (V2.map DVw.nm) o s ≠ 0 → Dy = [] ∧ Vy = []) (hz : D2.length ≤ 999999) : Dx.length ≤ 1000000 := by
  have hl := congrArg List.length h
  rw [List.length_map, List.length_map] at hl
  by_cases h0 : addE (D2.map DTab.t) (V2.map DVw.nm) o s = 0
  · have hm := congrArg List.length (h3 h0).1
    rw [List.length_map] at hm
    by_cases h1 : s.f.kind = 1
    · rw [addT_1 h1] at hm; simp at hm; omega
    · by_cases h2 : s.f.kind = 2
      · rw [addT_2 h2, (idxT_get _ _ _).1] at hm; simp at hm; omega
      · rw [addT_v ⟨h1, h2⟩] at hm; simp at hm; omega
  · obtain ⟨rfl, _⟩ := h4 h0
    rw [hl]; exact Nat.zero_le _
end Go.Proofs.YthflnkfghogaoaaGreat

namespace Go.Proofs.YthflnkfghogaoaaGreat
open Go.Gx Go.RowKit
attribute [local irreducible] wpList wpStill Code.wp Calls

set_option maxHeartbeats 4000000 in
theorem Add9_ret {tv vv ow : Value} {D : List DTab} {V : List DVw} {o : Lb} {s : XS} {L : Nat} {w : World} (hT : TsRd w w.heap.size tv D) (hD : D.length ≤ 1000000) (hsz : ∀ d ∈ D, d.t.cols.length ≤ 1000000 ∧ d.t.idx.length ≤ 1000000) (hV : VsFr w L w.heap.size vv V) (he : SFr w L w.heap.size s) (hL : L ≤ w.heap.size) (hol : o.length ≤ 100) (ho : RdC w 0 w.heap.size 1 ow o.length (o.map u16v)) (hnc : NcT (D.map DTab.t)) (hun : UnT (D.map DTab.t)) : Ret Tryz.prog 10 #[(.agg #[tv, vv]), (.agg #[(.int .i64 s.f.kind), (.string (bs s.f.tb)), (.string (bs s.f.nm)), s.f.cv, s.f.gv, s.f.vv, s.f.iv, (.string (bs s.f.join)), s.f.ov, s.f.wv, s.f.rv, (.bool s.f.desc), s.nv]), ow] w (fun v' w' => Below w.heap.size w w' ∧ ∃ (tv' vv' : Value) (D' : List DTab) (V' : List DVw), v' = .tuple #[.agg #[tv', vv'], .int .i64 (addE (D.map DTab.t) (V.map DVw.nm) o s)] ∧ TsFr w' w.heap.size w'.heap.size tv' D' ∧ VsFr w' L w'.heap.size vv' V' ∧ ((addE (D.map DTab.t) (V.map DVw.nm) o s) = 0 → D'.map DTab.t = addT (D.map DTab.t) s ∧ AddY V V' s) ∧ ((addE (D.map DTab.t) (V.map DVw.nm) o s) ≠ 0 → D' = [] ∧ V' = [])) := by
 have hR := hT.1
 have hVR := hV.1.mono (Nat.zero_le _) (Nat.le_refl _)
 have c := hV.3
 have c := he.mono (Nat.zero_le _) (Nat.le_refl _)
 obtain ⟨hfc, hfg, hfv, hfi, hfo, hfw, hfr⟩ := c.ff
 have hfn := c.inn
 obtain ⟨⟨g, l, r⟩, p⟩ := c.sm
 have hfnR := hfn.1
 have hb := Below.refl w.heap.size w
 refine enter (N := 186) Tryz.func10 rfl rfl (by simp) fun c hN hd hA => ?_
 have g : c.tmps.getD 0 undef = (.agg #[tv, vv]) := hA 0 (by simp)
 have l : c.tmps.getD 1 undef = (.agg #[(.int .i64 s.f.kind), (.string (bs s.f.tb)), (.string (bs s.f.nm)), s.f.cv, s.f.gv, s.f.vv, s.f.iv, (.string (bs s.f.join)), s.f.ov, s.f.wv, s.f.rv, (.bool s.f.desc), s.nv]) := hA 1 (by simp)
 have p : c.tmps.getD 2 undef = ow := hA 2 (by simp)
 clear hA
 refine zF fun _ c => zH (op_box (cs := [tv, vv]) (zC hN rfl g) rfl ?_)
 intro r t z A g y
 obtain ⟨hb, _⟩ := yE hb y
 refine op_box (cs := [(.int .i64 s.f.kind), (.string (bs s.f.tb)), (.string (bs s.f.nm)), s.f.cv, s.f.gv, s.f.vv, s.f.iv, (.string (bs s.f.join)), s.f.ov, s.f.wv, s.f.rv, (.bool s.f.desc), s.nv]) (zC hN rfl l) rfl ?_
 intro A y F C l z
 obtain ⟨hb, _⟩ := yE hb z
 refine op_alloc (cs := [(.slice none 0 0), (.slice none 0 0)]) zero30 rfl ?_
 intro H C J I A F
 obtain ⟨hb, _⟩ := yE hb F
 have g := (g.keep0 z).keep0 F
 refine zD rfl (zB (c _ _ (zF fun _ c => zH (zY agg30 rfl (zA hN rfl) g ?_))))
 have hT' := hT.keep0 (zQ hb)
 have hV' := hV.keep0 (zQ hb)
 refine zj ok8 (Copy9_ret (D := D) (V := V) (hT'.mono zx) hD hsz (hV'.mono (Nat.zero_le _) zx) (Nat.le_refl _)) ⟨(zA hN rfl), trivial⟩ ?_
 rintro _ S ⟨Q, K, M, P, O, rfl, J, z, R, I, T⟩
 have U : ∀ x, O x → H.heap.size ≤ x := fun x hx => (z.lt x hx).1
 have H : ¬ O C := fun hf => by have := U _ hf; have := A.lt; omega
 have Q := zQ Q
 obtain ⟨hb, _⟩ := yE hb Q
 have J := J.mono (base' := w.heap.size) zx
 have I := I.mono (base' := w.heap.size) zx
 have z : TabsR S w.heap.size P O := z.mono zx
 refine op_alloc (cs := [(.slice none 0 0), (.slice none 0 0)]) zero30 rfl ?_
 intro X U Z Y S W
 have X : ¬ O U := fun hf => by have := (z.lt _ hf).2; omega
 obtain ⟨hb, _⟩ := yE hb W
 have l := ((l.keep0 F).keep0 Q).keep0 W
 have J := J.keep0 W
 have I := I.keep0 W
 have F := S
 refine zZ size30 (zA hN rfl) (zA hN rfl) rfl (by simp only [yA, yB, yC, yD, J.one, I.one]; try rfl) S rfl ?_
 intro Z S Y
 have := Y.size
 have g := ((g.keep0 Q).keep0 W).keep Y sB
 have l := l.keep Y (sN l F)
 have A := ((A.keep0 Q).keep0 W).keep Y sB
 have J := J.keepX F Y zz
 have z := (z.kz W).keepG (Gr.of Y) (Dj.one X)
 have I := I.keepX F Y zz
 have hb := below_step1 hb Y hb.size zx
 refine zB (c _ _ (zF fun _ c => zF fun _ Q => zH ?_))
 obtain ⟨W, Y⟩ := sz_of R hD hsz
 refine zM fld37_0 (zA hN rfl) (zN one3 (zA hN rfl) (l.cell rfl) (zB (Q _ _ (wp_block (zF fun _ Q => zH (op_eql (zA hN rfl) rfl (fun W => ?_) (fun W => ?_)))))))
 ·
  refine zD (zA hN rfl) (zB (Q _ _ (wp_cond_true (zA hN rfl) (zF fun _ Q => zH (zY agg30 rfl (zA hN rfl) g (zM fld37_2 (zA hN rfl) (zN one9 (zA hN rfl) (l.cell rfl) ?_)))))))
  have hT' := hT.keep0 (zQ hb)
  refine zj ok26 (Table9_ret (D := D) (x := s.f.nm) hT' zx hD) ⟨(zA hN rfl), ⟨(zA hN rfl), trivial⟩⟩ ?_
  rintro _ aa ⟨Y, rfl⟩
  have Y := zQ Y
  obtain ⟨hb, _⟩ := yE hb Y
  have J := J.keep0 Y
  have z := z.kz Y
  refine zG (zA hN rfl) (zW (zA hN rfl) rfl (zW (zA hN rfl) rfl (op_alloc (cs := [(.string (bs [])), (.slice none 0 0), (.slice none 0 0)]) zero51 rfl ?_)))
  intro ae ac ad af ab aa
  have ad : ¬ O ac := fun hf => by have := (z.lt _ hf).2; omega
  have ae : K.ownBlock ≠ some ac := fun hh => by have := (J.lt _ hh).2; omega
  obtain ⟨hb, _⟩ := yE hb aa
  have g := (g.keep0 Y).keep0 aa
  have l := (l.keep0 Y).keep0 aa
  have A := (A.keep0 Y).keep0 aa
  have S := (S.keep0 Y).keep0 aa
  have ac := ab
  have hT' := hT.keep0 (zQ hb)
  refine zZ size51 (zA hN rfl) (zA hN rfl) rfl (by simp only [yA, yB, yC, yD, (tabD_rd hT' s.f.nm).1.one, (tabD_rd hT' s.f.nm).2.one]; try rfl) ab rfl ?_
  intro ag ab af
  have := af.size
  have g := g.keep af (sN g ac)
  have l := l.keep af (sN l ac)
  have A := A.keep af (sN A ac)
  have J := (J.keep0 aa).keep af (.inr ae)
  have z := (z.kz aa).keepG (Gr.of af) (Dj.one ad)
  have I := ((I.keep0 Y).keep0 aa).keepX ac af zz
  have S := S.keep af (sN S ac)
  have hb := below_step1 hb af hb.size zx
  refine zD (zA hN rfl) (zB (Q _ _ (zF fun _ Q => zF fun _ Y => zH ?_)))
  rcases Bool.eq_false_or_eq_true ((tabAt (D.map DTab.t) s.f.nm).isSome) with aa | aa
  ·
   rw [aa]
   refine zG (zA hN rfl) (zB (Y _ _ (wp_cond_true (zA hN rfl) (zF fun _ Y => zH (zf (pv := []) (v := (Value.agg #[(.slice none 0 0), (.slice none 0 0)])) trivial zy (zZ size30 (zA hN rfl) (zA hN rfl) rfl rfl A rfl ?_))))))
   intro ac A ab
   have := ab.size
   have hb := below_step1 hb ab hb.size zx
   refine zD rfl (zB (Y _ _ (wp_ret (zO (zb (zO ( (retD rfl hd (zA hN rfl) agg30 rfl A (zA hN rfl) ⟨_, rfl, ?_⟩))))))))
   have e9 : (addE (D.map DTab.t) (V.map DVw.nm) o s) = 12 := (addE_1 W).trans (if_pos aa)
   rw [e9]; exact ⟨hb, _, _, [], [], rfl, ⟨RdC.nil _ _ _ _, fun _ h => (by cases h)⟩, VsFr.nil _ _ _, fun h => absurd h zz, fun _ => ⟨rfl, rfl⟩⟩
  rw [aa]
  refine zG (zA hN rfl) (zB (Y _ _ (wp_cond_false (zA hN rfl) (wp_skip (Q _ _ (zF fun _ Q => zF fun _ Y => zH (zM fld30_0 (zA hN rfl) (zN one27 (zA hN rfl) (g.cell rfl) ?_))))))))
  have hR' := hR.keep0 (zQ hb)
  refine op_len_rd Tryz.underlying27 (zA hN rfl) hR' (op_geq (zA hN rfl) rfl (fun ab => ?_) (fun ab => ?_))
  ·
   refine zB (Y _ _ (wp_cond_true (zA hN rfl) (zF fun _ Y => zH (zf (pv := []) (v := (Value.agg #[(.slice none 0 0), (.slice none 0 0)])) trivial zy (zZ size30 (zA hN rfl) (zA hN rfl) rfl rfl A rfl ?_)))))
   intro ac A ab
   have := ab.size
   have hb := below_step1 hb ab hb.size zx
   refine zD rfl (zB (Y _ _ (wp_ret (zO (zb (zO ( (retD rfl hd (zA hN rfl) agg30 rfl A (zA hN rfl) ⟨_, rfl, ?_⟩))))))))
   have e9 : (addE (D.map DTab.t) (V.map DVw.nm) o s) = 25 := (addE_1 W).trans (by unfold tabE; rw [if_neg (by rw [aa]; decide), if_pos (by rw [List.length_map]; omega)])
   rw [e9]; exact ⟨hb, _, _, [], [], rfl, ⟨RdC.nil _ _ _ _, fun _ h => (by cases h)⟩, VsFr.nil _ _ _, fun h => absurd h zz, fun _ => ⟨rfl, rfl⟩⟩
  refine zB (Y _ _ (wp_cond_false (zA hN rfl) (wp_skip (Q _ _ (zF fun _ Q => zH (zY agg30 rfl (zA hN rfl) g (zM fld37_3 (zA hN rfl) (zN one32 (zA hN rfl) (l.cell rfl) ?_))))))))
  have hT' := hT.keep0 (zQ hb)
  have hfc' := hfc.keep0 (zQ hb)
  refine zj ok27 (cols9_ret (D := D) hT' zx hD hnc (hfc'.mono (Nat.zero_le _) zx)) ⟨(zA hN rfl), ⟨(zA hN rfl), trivial⟩⟩ ?_
  rintro _ ac ⟨ab, rfl⟩
  have ab := zQ ab
  obtain ⟨hb, _⟩ := yE hb ab
  have J := J.keep0 ab
  obtain ⟨l, A⟩ := kb2 ab l A
  have z := z.kz ab
  have I := I.keep0 ab
  have S := S.keep0 ab
  refine zD (zA hN rfl) (zB (Q _ _ (zF fun _ Q => zF fun _ Y => zH (zG (zA hN rfl) (op_neq (zA hN rfl) rfl (fun ab => ?_) (fun ab => ?_))))))
  ·
   refine zB (Y _ _ (wp_cond_true (zA hN rfl) (zF fun _ Y => zH (zf (pv := []) (v := (Value.agg #[(.slice none 0 0), (.slice none 0 0)])) trivial zy (zG (zA hN rfl) (zZ size30 (zA hN rfl) (zA hN rfl) rfl rfl A rfl ?_))))))
   intro ac A ab
   have := ab.size
   have hb := below_step1 hb ab hb.size zx
   refine zD (zA hN rfl) (zB (Y _ _ (wp_ret (zO (zb (zO ( (retD rfl hd (zA hN rfl) agg30 rfl A (zA hN rfl) ⟨_, rfl, ?_⟩))))))))
   have e9 : (addE (D.map DTab.t) (V.map DVw.nm) o s) = (colsE (D.map DTab.t) s.f.cols) := ((addE_1 W).trans (tabE_cols aa (by rw [List.length_map]; omega)))
   rw [e9]; exact ⟨hb, _, _, [], [], rfl, ⟨RdC.nil _ _ _ _, fun _ h => (by cases h)⟩, VsFr.nil _ _ _, fun h => absurd h zx, fun _ => ⟨rfl, rfl⟩⟩
  refine zB (Y _ _ (wp_cond_false (zA hN rfl) (wp_skip (Q _ _ (reg_split (hd := [_, _, _, _, _, _, _, _, _, _, _]) (tl := _) 11 mixed zy rfl rfl (any_tree (φ := phiV [(fun uz => uz = (ptr U 0)), (fun uz => uz = K), (fun uz => uz = (ptr y 2)), (fun uz => uz = (.string (bs s.f.nm))), (fun _ => True), (fun uz => uz = (ptr y 3)), (fun uz => uz = s.f.cv), (fun _ => True), (fun _ => True), (fun _ => True), (fun _ => True)]) (G := fun w' => Bx w' U 30 [K, M] ∧ Bx w' y 37 [(.int .i64 s.f.kind), (.string (bs s.f.tb)), (.string (bs s.f.nm)), s.f.cv, s.f.gv, s.f.vv, s.f.iv, (.string (bs s.f.join)), s.f.ov, s.f.wv, s.f.rv, (.bool s.f.desc), s.nv]) [4, 7, 8, 9, 10] zy zy zy zy zy hN (fun r w2 E h => by obtain ⟨h0, h1⟩ := h; exact ⟨h0.keep0 E, h1.keep0 E⟩) ⟨S, l⟩ (ObRs9.cons ?_ (ObRs9.cons ?_ (ObRs9.cons ?_ (ObRs9.cons ?_ (ObRs9.pass rfl (ObRs9.cons ?_ (ObRs9.cons ?_ (ObRs9.pass rfl (ObRs9.pass rfl (ObRs9.pass rfl (ObRs9.pass rfl (ObRs9.nil)))))))))))) (by simp only [putsL_defers]) ?_))))))
  ·
   intro eA aA wA hNA hGA hbsA hdpA
   have ab := (hbsA 8 rfl).trans (zU hN rfl)
   refine zM fld30_0 (zC hNA rfl ab) ?_
   exact obT_end rfl rfl
  ·
   intro eA aA wA hNA hGA hbsA hdpA
   have ac : Sl aA 49 (ptr U 0) := (hdpA 0 _ 49 zy rfl rfl).2 rfl
   obtain ⟨S, l⟩ := hGA
   refine zN one27 (zC hNA rfl ac) (S.cell rfl) ?_
   exact obT_end rfl rfl
  ·
   intro eA aA wA hNA hGA hbsA hdpA
   have ac := (hbsA 4 rfl).trans (zU hN rfl)
   refine zM fld37_2 (zC hNA rfl ac) ?_
   exact obT_end rfl rfl
  ·
   intro eA aA wA hNA hGA hbsA hdpA
   have ad : Sl aA 51 (ptr y 2) := (hdpA 2 _ 51 zy rfl rfl).2 rfl
   obtain ⟨S, l⟩ := hGA
   refine zN one9 (zC hNA rfl ad) (l.cell rfl) ?_
   exact obT_end rfl rfl
  ·
   intro eA aA wA hNA hGA hbsA hdpA
   have ac := (hbsA 4 rfl).trans (zU hN rfl)
   refine zM fld37_3 (zC hNA rfl ac) ?_
   exact obT_end rfl rfl
  ·
   intro eA aA wA hNA hGA hbsA hdpA
   have ad : Sl aA 54 (ptr y 3) := (hdpA 5 _ 54 zy rfl rfl).2 rfl
   obtain ⟨S, l⟩ := hGA
   refine zN one32 (zC hNA rfl ad) (l.cell rfl) ?_
   exact obT_end rfl rfl
  refine kt_step (rs := [4]) zy (one_mem ?_)
  intro ai ad _ ag ah ae af o_ ho_; obtain rfl := zE ho_
  obtain ⟨hb, _⟩ := yE hb ad
  have z := z.kz ad
  refine op_bslice (e := 48) (pv := []) (cs := []) trivial zy ?_
  intro aj ag ai ah af ae
  have ah : ¬ O ag := fun hf => by have := (z.lt _ hf).2; omega
  obtain ⟨hb, _⟩ := yE hb ae
  have l := (l.keep0 ad).keep0 ae
  have z := z.kz ae
  have S := (S.keep0 ad).keep0 ae
  refine kt_end rfl ⟨S, l⟩ (kt_step (rs := [7]) zy (one_mem ?_))
  intro an ai _ aj ak am al o_ ho_; obtain rfl := zE ho_
  obtain ⟨hb, _⟩ := yE hb ai
  have af := af.keep0 ai
  have am : Sl aj 53 (.slice (some ⟨ag, 0, none⟩) 0 0) := (zE ((al 4 _ 53 zy rfl rfl).1 rfl)).symm
  have ag : Sl aj 55 s.f.cv := (al 6 _ 55 zy rfl rfl).2 rfl
  have aj := (Own.ofBx (base := w.heap.size) (sz := 3) (n := 0) af rfl zz zx)
  have hfc' := hfc.keep0 (zQ hb)
  refine op_append slt32 (zC ak rfl am) aj (zC ak rfl ag) (Src.ofRd Tryz.underlying32 zz hfc' (one_pc _)) (by unfold maxLen; omega) zx hb.size ?_
  intro ag al af ak am
  have := ak.size
  have l := (l.keep0 ai).keep ak (by simp [Value.ownBlock]; try omega)
  have z := (z.kz ai).keepG (Gr.of ak) (Dj.one ah)
  have S := (S.keep0 ai).keep ak (by simp [Value.ownBlock]; try omega)
  have hb := below_stepO hb aj ak hb.size zx
  have af : Own al w.heap.size 48 3 ag (0 + s.f.cols.length) ((s.f.cols).flatMap cellsC) := by simpa [u8v, u16v, sv, cellsI, cellsC, cellsX, cellsS] using af
  refine kt_end rfl ⟨S, l⟩ (kt_step (rs := [8]) zy (one_mem ?_))
  intro ao ah _ an al ap am o_ ho_; obtain rfl := zE ho_
  obtain ⟨hb, _⟩ := yE hb ah
  have l := l.keep0 ah
  have z := z.kz ah
  have S := S.keep0 ah
  have af := af.keep0 ah
  have ao : Sl an 52 (.string (bs s.f.nm)) := (am 3 _ 52 zy rfl rfl).2 rfl
  have ap : Sl an 56 ag := (zE ((am 7 _ 56 zy rfl rfl).1 rfl)).symm
  refine zf (pv := [(0, (.string (bs s.f.nm))), (1, ag)]) (v := (Value.agg #[(.string (bs s.f.nm)), ag, (.slice none 0 0)])) ⟨rfl, (zC al rfl ao), ⟨rfl, (zC al rfl ap), trivial⟩⟩ (by obtain ⟨_, _, _, rfl⟩ := af.sl; kernel_rfl) (kt_end rfl ⟨S, l⟩ (kt_step (rs := [9]) zy (one_mem ?_)))
  intro ap al _ am ao aq an o_ ho_; obtain rfl := zE ho_
  obtain ⟨hb, _⟩ := yE hb al
  have z := z.kz al
  have af := af.keep0 al
  have ap : Sl am 57 (.agg #[(.string (bs s.f.nm)), ag, (.slice none 0 0)]) := (zE ((an 8 _ 57 zy rfl rfl).1 rfl)).symm
  refine op_bslice (e := 51) (pv := [(0, (.agg #[(.string (bs s.f.nm)), ag, (.slice none 0 0)]))]) (cs := [(.string (bs s.f.nm)), ag, (.slice none 0 0)]) ⟨rfl, (zC ao rfl ap), trivial⟩ (by obtain ⟨_, _, _, rfl⟩ := af.sl; kernel_rfl) ?_
  intro ar ao ap aq an am
  obtain ⟨hb, _⟩ := yE hb am
  have l := (l.keep0 al).keep0 am
  have z := z.kz am
  have S := (S.keep0 al).keep0 am
  refine kt_end rfl ⟨S, l⟩ (kt_step (rs := [10]) zy (one_mem ?_))
  intro aw ap _ aq au ax ar o_ ho_; obtain rfl := zE ho_
  obtain ⟨hb, _⟩ := yE hb ap
  have J := (((((((J.keep0 ad).keep0 ae).keep0 ai).keepT aj ak zz).keep0 ah).keep0 al).keep0 am).keep0 ap
  have z := z.kz ap
  have af := (af.keep0 am).keep0 ap
  have an := an.keep0 ap
  have aw : Sl aq 50 K := (ar 1 _ 50 zy rfl rfl).2 rfl
  have ax : Sl aq 58 (.slice (some ⟨ao, 0, none⟩) 1 1) := (zE ((ar 9 _ 58 zy rfl rfl).1 rfl)).symm
  have ao := J
  refine op_append slt27 (zC au rfl aw) ao (zC au rfl ax) (Src.ofRd Tryz.underlying27 zz (RdC.ofBx (sz := 3) (n := 1) an rfl zz) (by simp only [yA, yB, yC, yD, af.one]; try rfl)) (by unfold maxLen; omega) zx hb.size ?_
  intro ar au an aq aw
  have := aq.size
  have l := (l.keep0 ap).keepO ao aq zz
  have z := z.keepG (Gr.of aq) (z.notOwn ao zz zz).symm
  have S := (S.keep0 ap).keepO ao aq zz
  have hb := below_stepO hb ao aq hb.size zx
  have an : Own au w.heap.size 51 3 ar (P ++ [(DTab.mk ⟨s.f.nm, s.f.cols, []⟩ ag (.slice none 0 0))]).length (((P ++ [(DTab.mk ⟨s.f.nm, s.f.cols, []⟩ ag (.slice none 0 0))])).flatMap cellsT) := by exact an.cast (by simp) (by simp [cellsT])
  refine kt_end rfl ⟨S, l⟩ ?_
  intro aC aw aB au ax ay az
  have ax := ax.trans ((by simp only [putsL_defers] : _ = _).trans hd)
  obtain ⟨hb, _⟩ := yE hb aw
  have S := S.keep0 aw
  have an := an.keep0 aw
  have aC := (ay 6 rfl).trans (zU hN rfl)
  have aD := (ay 8 rfl).trans (zU hN rfl)
  have ay : Sl aB 59 ar := (zE ((az 10 _ 59 rfl rfl).1 rfl)).symm
  refine split_end (from_seq (tl := [_, _]) zz zy rfl (zM fld30_0 (zC au rfl aD) ?_))
  have F := S
  refine za (vs := [ar]) (cs' := [ar, M]) size27 (zA au rfl) (zC au rfl ay) an.cl rfl (by simp only [yA, yB, yC, yD, an.one]; try rfl) S (zI rfl) rfl ?_
  intro ay S ar
  have := ar.size
  have A := ((((((((((A.keep0 ad).keep0 ae).keep0 ai).keep ak (by simp [Value.ownBlock]; try omega)).keep0 ah).keep0 al).keep0 am).keep0 ap).keepO ao aq zz).keep0 aw).keep ar sB
  have I := ((((((((((I.keep0 ad).keep0 ae).keep0 ai).keepT aj ak zz).keep0 ah).keep0 al).keep0 am).keep0 ap).keepT ao aq zz).keep0 aw).keepX F ar zz
  have an := an.keepX F ar zz
  have hb := below_step1 hb ar hb.size zx
  refine zB (c _ _ (zF fun _ c => zH (zY agg30 rfl (zC au rfl aD) S ?_)))
  have ad := A
  refine zZ size30 (zC au rfl aC) (zA au rfl) rfl (by simp only [yA, yB, yC, yD, an.one, I.one]; try rfl) A rfl ?_
  intro ah A ae
  have := ae.size
  have z := ((z.kz aw).keepG (Gr.of ar) (Dj.one X)).keepG (Gr.of ae) (Dj.one H)
  have I := I.keepX ad ae zz
  have af := (((af.keepT ao aq zz).keep0 aw).keepX F ar zz).keepX ad ae zz
  have an := an.keepX ad ae zz
  have hb := below_step1 hb ae hb.size zx
  refine zD rfl (zB (c _ _ (wp_ret (retD rfl ax (zC au rfl aC) agg30 rfl A (zA au rfl) ⟨_, rfl, ?_⟩))))
  have hV' := hV.keep0 (zQ hb)
  have e9 : (addE (D.map DTab.t) (V.map DVw.nm) o s) = 0 := ((addE_1 W).trans (tabE_cols aa (by rw [List.length_map]; omega))).trans zx
  rw [e9]; exact ⟨hb, _, _, (P ++ [(DTab.mk ⟨s.f.nm, s.f.cols, []⟩ ag (.slice none 0 0))]), V, rfl, TabsR.fr (z.snoc (d := (DTab.mk ⟨s.f.nm, s.f.cols, []⟩ ag (.slice none 0 0))) (af.cast (Nat.zero_add _) rfl) (Own.nil _ _ _ _)) an, ⟨I.rdw.mono hL (Nat.le_refl _), fun a ha => (hV'.2 a ha).mono (Nat.le_refl _) zx, hV'.3⟩, fun _ => ⟨by rw [List.map_append, R, addT_1 W]; rfl, AddY.n zx⟩, fun h => absurd rfl h⟩
 refine zD (zA hN rfl) (zB (Q _ _ (wp_cond_false (zA hN rfl) (zF fun _ Q => zH (op_eql (zA hN rfl) rfl (fun W => ?_) (fun W => ?_))))))
 ·
  refine zD (zA hN rfl) (zB (Q _ _ (wp_cond_true (zA hN rfl) (zF fun _ Q => zH (zY agg30 rfl (zA hN rfl) g (zM fld37_1 (zA hN rfl) (zN one9 (zA hN rfl) (l.cell rfl) ?_)))))))
  have hT' := hT.keep0 (zQ hb)
  refine zj ok26 (Table9_ret (D := D) (x := s.f.tb) hT' zx hD) ⟨(zA hN rfl), ⟨(zA hN rfl), trivial⟩⟩ ?_
  rintro _ ae ⟨aa, rfl⟩
  have aa := zQ aa
  obtain ⟨hb, _⟩ := yE hb aa
  have J := J.keep0 aa
  have z := z.kz aa
  refine zG (zA hN rfl) (zW (zA hN rfl) rfl (zW (zA hN rfl) rfl (op_alloc (cs := [(.string (bs [])), (.slice none 0 0), (.slice none 0 0)]) zero51 rfl ?_)))
  intro ah ag ai aj ae af
  have ah : ¬ O ag := fun hf => by have := (z.lt _ hf).2; omega
  have ai : K.ownBlock ≠ some ag := fun hh => by have := (J.lt _ hh).2; omega
  obtain ⟨hb, _⟩ := yE hb af
  have g := (g.keep0 aa).keep0 af
  have l := (l.keep0 aa).keep0 af
  have A := (A.keep0 aa).keep0 af
  have S := (S.keep0 aa).keep0 af
  have aj := ae
  have hT' := hT.keep0 (zQ hb)
  refine zZ size51 (zA hN rfl) (zA hN rfl) rfl (by simp only [yA, yB, yC, yD, (tabD_rd hT' s.f.tb).1.one, (tabD_rd hT' s.f.tb).2.one]; try rfl) ae rfl ?_
  intro al ae ak
  have := ak.size
  have g := g.keep ak (sN g aj)
  have l := l.keep ak (sN l aj)
  have A := A.keep ak (sN A aj)
  have J := (J.keep0 af).keep ak (.inr ai)
  have z := (z.kz af).keepG (Gr.of ak) (Dj.one ah)
  have I := ((I.keep0 aa).keep0 af).keepX aj ak zz
  have S := S.keep ak (sN S aj)
  have hb := below_step1 hb ak hb.size zx
  refine zD (zA hN rfl) (zB (Q _ _ (zF fun _ Q => zF fun _ Y => zH ?_)))
  rcases Bool.eq_false_or_eq_true ((tabAt (D.map DTab.t) s.f.tb).isSome) with aa | aa
  ·
   rw [aa]
   refine zG (zA hN rfl) (op_not (zA hN rfl) (zB (Y _ _ (wp_cond_false (zA hN rfl) (wp_skip (Q _ _ (zF fun _ Q => zF fun _ Y => zH ?_)))))))
   have af := tabD_is aa
   refine zY agg51 rfl (zA hN rfl) ae (zM fld37_2 (zA hN rfl) (zN one9 (zA hN rfl) (l.cell rfl) ?_))
   have hT' := hT.keep0 (zQ hb)
   refine zj ok28 (Column9_ret ((tabD D s.f.tb).t.nm) ((tabD D s.f.tb).t.cols) _ ((tabD D s.f.tb).iv) s.f.nm _ ((tabD_rd hT' s.f.tb).1.mono (Nat.zero_le _) zx)) ⟨(zA hN rfl), ⟨(zA hN rfl), trivial⟩⟩ ?_
   rintro _ aj ⟨ah, rfl⟩
   have ah := zQ ah
   obtain ⟨hb, _⟩ := yE hb ah
   have J := J.keep0 ah
   obtain ⟨g, l, A⟩ := kb3 ah g l A
   have z := z.kz ah
   have I := I.keep0 ah
   obtain ⟨S, ae⟩ := kb2 ah S ae
   refine op_lss (zA hN rfl) rfl (fun ah => ?_) (fun ah => ?_)
   ·
    refine zB (Y _ _ (wp_cond_true (zA hN rfl) (zF fun _ Y => zH (zf (pv := []) (v := (Value.agg #[(.slice none 0 0), (.slice none 0 0)])) trivial zy (zZ size30 (zA hN rfl) (zA hN rfl) rfl rfl A rfl ?_)))))
    intro ak A aj
    have := aj.size
    have hb := below_step1 hb aj hb.size zx
    refine zD rfl (zB (Y _ _ (wp_ret (zO (zb (zO ( (retD rfl hd (zA hN rfl) agg30 rfl A (zA hN rfl) ⟨_, rfl, ?_⟩))))))))
    have e9 : (addE (D.map DTab.t) (V.map DVw.nm) o s) = 10 := (addE_2 W).trans ((idxE_2 af.1).trans (if_pos ah))
    rw [e9]; exact ⟨hb, _, _, [], [], rfl, ⟨RdC.nil _ _ _ _, fun _ h => (by cases h)⟩, VsFr.nil _ _ _, fun h => absurd h zz, fun _ => ⟨rfl, rfl⟩⟩
   refine zB (Y _ _ (wp_cond_false (zA hN rfl) (wp_skip (Q _ _ (zF fun _ Q => zF fun _ Y => zH (zY agg51 rfl (zA hN rfl) ae (zM fld37_2 (zA hN rfl) (zN one9 (zA hN rfl) (l.cell rfl) ?_))))))))
   have hT' := hT.keep0 (zQ hb)
   refine zj ok29 (Indexed9_ret s.f.nm ((tabD_rd hT' s.f.tb).1.mono (Nat.zero_le _) zx) ((tabD_rd hT' s.f.tb).2.mono (Nat.zero_le _) zx)) ⟨(zA hN rfl), ⟨(zA hN rfl), trivial⟩⟩ ?_
   rintro _ ak ⟨aj, rfl⟩
   have aj := zQ aj
   obtain ⟨hb, _⟩ := yE hb aj
   have J := J.keep0 aj
   obtain ⟨g, l, A⟩ := kb3 aj g l A
   have z := z.kz aj
   have I := I.keep0 aj
   obtain ⟨S, ae⟩ := kb2 aj S ae
   rcases Bool.eq_false_or_eq_true ((decide ((colIx ((tabD D s.f.tb).t.cols) s.f.nm) = 0 ∨ s.f.nm ∈ ((tabD D s.f.tb).t.idx)))) with aj | aj
   ·
    rw [aj]
    refine zB (Y _ _ (wp_cond_true (zA hN rfl) (zF fun _ Y => zH (zf (pv := []) (v := (Value.agg #[(.slice none 0 0), (.slice none 0 0)])) trivial zy (zZ size30 (zA hN rfl) (zA hN rfl) rfl rfl A rfl ?_)))))
    intro am A al
    have := al.size
    have hb := below_step1 hb al hb.size zx
    refine zD rfl (zB (Y _ _ (wp_ret (zO (zb (zO ( (retD rfl hd (zA hN rfl) agg30 rfl A (zA hN rfl) ⟨_, rfl, ?_⟩))))))))
    have e9 : (addE (D.map DTab.t) (V.map DVw.nm) o s) = 12 := (addE_2 W).trans ((idxE_2 af.1).trans ((if_neg ah).trans (if_pos (of_decide_eq_true aj))))
    rw [e9]; exact ⟨hb, _, _, [], [], rfl, ⟨RdC.nil _ _ _ _, fun _ h => (by cases h)⟩, VsFr.nil _ _ _, fun h => absurd h zz, fun _ => ⟨rfl, rfl⟩⟩
   rw [aj]
   refine zB (Y _ _ (wp_cond_false (zA hN rfl) (wp_skip (Q _ _ (zF fun _ Q => zH ?_)))))
   obtain ⟨k9, al, am⟩ := tabAt_get af.1
   refine zD rfl (zB (Q _ _ (wp_block (loop_m (fun mz_ az_ w' => ∃ (i : Nat) (D3 : List DTab) (F3 : Nat → Prop), mz_ = D3.length - i ∧ (Sl az_ 4 (ptr y 0)) ∧ (Sl az_ 6 (ptr C 0)) ∧ (Sl az_ 7 (.int .i64 0)) ∧ (Sl az_ 8 (ptr U 0)) ∧ (Sl az_ 14 (.int .i64 ((i : Nat) : Int))) ∧ (i ≤ D3.length) ∧ (D3.length = D.length) ∧ (D3.map DTab.t = if i ≤ k9 then D.map DTab.t else idxT (D.map DTab.t) s.f.tb s.f.nm) ∧ (i ≤ k9 → PwI D3) ∧ (Below w.heap.size w w') ∧ (ak.heap.size ≤ w'.heap.size) ∧ (Bx w' t 30 [tv, vv]) ∧ (Bx w' y 37 [(.int .i64 s.f.kind), (.string (bs s.f.tb)), (.string (bs s.f.nm)), s.f.cv, s.f.gv, s.f.vv, s.f.iv, (.string (bs s.f.join)), s.f.ov, s.f.wv, s.f.rv, (.bool s.f.desc), s.nv]) ∧ (Bx w' C 30 [(.slice none 0 0), (.slice none 0 0)]) ∧ (Own w' w.heap.size 68 15 M V.length (V.flatMap cellsW)) ∧ (Bx w' U 30 [K, M]) ∧ (Bx w' ag 51 [(.string (bs (tabD D s.f.tb).t.nm)), (tabD D s.f.tb).cv, (tabD D s.f.tb).iv]) ∧ (TabsR w' w.heap.size D3 F3) ∧ (Own w' w.heap.size 51 3 K D3.length (D3.flatMap cellsT))) _ hN hd ⟨0, P, O, rfl, (zU hN rfl), (zU hN rfl), (zU hN rfl), (zU hN rfl), (zU hN rfl), (Nat.zero_le _), (by have h9 := congrArg List.length R; rwa [List.length_map, List.length_map] at h9), (by rw [if_pos (Nat.zero_le _)]; exact R), (fun _ => T), hb, (Nat.le_refl _), g, l, A, I, S, ae, z, J⟩ ?_))))
   rintro _ az aB T au ⟨i, D3, F3, rfl, aq, ar, aw, an, ap, hi, ay, ao, ax, hb, aC, g, l, A, I, S, ae, ak, ag⟩
   have := hb.size
   refine zF fun _ Q => zF fun _ Y => zH (zG (zC T rfl ap) (zM fld30_0 (zC T rfl an) (zN one27 (zA T rfl) (S.cell rfl) (op_len_rd Tryz.underlying27 (zA T rfl) ag.rdw (op_lss (zA T rfl) (zA T rfl) (fun az => ?_) (fun az => ?_))))))
   ·
    refine zB (Y _ _ (wp_cond_true (zA T rfl) (wp_skip (Q _ _ (zF fun _ Q => wp_block (zF fun _ Y => reg_still mixed zy ?_))))))
    intro aB az
    obtain ⟨hb, _⟩ := yE hb az
    have I := I.keep0 az
    obtain ⟨g, l, A, S, ae⟩ := kb5 az g l A S ae
    have ak := ak.kz az
    have ag := ag.keep0 az
    refine st_step rfl (fun _ h9 => zM fld30_0 (zC T rfl an) h9) (st_step rfl (fun _ h9 => zN one27 (zA T rfl) (S.cell rfl) h9) (st_step rfl (fun _ h9 => zG (zC T rfl ap) h9) (st_index_rd slt27 (zA T rfl) ag.rdw (zA T rfl) zx zx ?_)))
    intro aD aC aB aE az
    refine st_step rfl (fun _ h9 => zM fld51_0 (zA T rfl) h9) (st_step rfl (fun _ h9 => zN (v := (Value.string (bs (D3.getD i default).t.nm))) one9 (zA T rfl) (az 0 ((.string (bs (D3.getD i default).t.nm))) zz ((el_dt (i := i) zx zx) 0 ((.string (bs (D3.getD i default).t.nm))) rfl)) h9) (st_step rfl (fun _ h9 => zM fld37_1 (zC T rfl aq) h9) (st_step rfl (fun _ h9 => zN one9 (zA T rfl) (l.cell rfl) h9) (st_step rfl (fun _ h9 => op_seqlb (b := (decide ((D3.getD i default).t.nm = s.f.tb))) (zA T rfl) (zA T rfl) rfl h9) (st_nil (Y _ _ (wp_cond_split (zA T rfl) (fun aB => ?_) (fun aB => ?_))))))))
    ·
     have aB := of_decide_eq_true aB
     obtain rfl : i = k9 := ixl_is hun ao (by rw [List.length_map]; omega) al am aB
     have az := ao.trans (if_pos (Nat.le_refl _))
     have aC := (ak.1 (D3.getD i default) (getD_mem zx)).2
     obtain ⟨G9, aD, aE, aF, aG⟩ := TabsR.splitK (k := i) ak zx (ax (Nat.le_refl _))
     obtain ⟨_, aF⟩ := sz_of az hD hsz
     have hivm := (aF (D3.getD i default) (getD_mem zx)).2
     obtain ⟨b8, o8, _, aF⟩ := ag.atV (i := i) zx
     refine reg_split (hd := [_, _, _, _, _, _, _, _, _, _, _, _, _]) (tl := _) 13 mixed zy rfl rfl (any_tree (φ := phiV [(fun uz => uz = (ptr U 0)), (fun uz => uz = K), (fun uz => uz = (.int .i64 ((i : Nat) : Int))), (fun uz => uz = (ptr U 0)), (fun uz => uz = K), (fun uz => uz = (.int .i64 ((i : Nat) : Int))), (fun uz => uz = (ptr b8 o8)), (fun uz => uz = (ptr b8 (o8 + 2))), (fun uz => uz = (D3.getD i default).iv), (fun uz => uz = (ptr y 2)), (fun uz => uz = (.string (bs s.f.nm))), (fun _ => True), (fun _ => True)]) (G := fun w' => Own w' w.heap.size 51 3 K D3.length (D3.flatMap cellsT) ∧ Bx w' U 30 [K, M] ∧ Bx w' y 37 [(.int .i64 s.f.kind), (.string (bs s.f.tb)), (.string (bs s.f.nm)), s.f.cv, s.f.gv, s.f.vv, s.f.iv, (.string (bs s.f.join)), s.f.ov, s.f.wv, s.f.rv, (.bool s.f.desc), s.nv]) [11, 12] zy zy zy zy zy T (fun r w2 E h => by obtain ⟨h0, h1, h2⟩ := h; exact ⟨h0.keep0 E, h1.keep0 E, h2.keep0 E⟩) ⟨ag, S, l⟩ (ObRs9.cons ?_ (ObRs9.cons ?_ (ObRs9.cons ?_ (ObRs9.cons ?_ (ObRs9.cons ?_ (ObRs9.cons ?_ (ObRs9.cons ?_ (ObRs9.cons ?_ (ObRs9.cons ?_ (ObRs9.cons ?_ (ObRs9.cons ?_ (ObRs9.pass rfl (ObRs9.pass rfl (ObRs9.nil)))))))))))))) (by simp only [putsL_defers]) ?_)
     ·
      intro eA aA wA hNA hGA hbsA hdpA
      have ab := (hbsA 8 rfl).trans (zL T rfl an)
      refine zM fld30_0 (zC hNA rfl ab) ?_
      exact obT_end rfl rfl
     ·
      intro eA aA wA hNA hGA hbsA hdpA
      have aG : Sl aA 100 (ptr U 0) := (hdpA 0 _ 100 zy rfl rfl).2 rfl
      obtain ⟨ag, S, l⟩ := hGA
      refine zN one27 (zC hNA rfl aG) (S.cell rfl) ?_
      exact obT_end rfl rfl
     ·
      intro eA aA wA hNA hGA hbsA hdpA
      have aG := (hbsA 14 rfl).trans (zL T rfl ap)
      refine zG (zC hNA rfl aG) ?_
      exact obT_end rfl rfl
     ·
      intro eA aA wA hNA hGA hbsA hdpA
      have ab := (hbsA 8 rfl).trans (zL T rfl an)
      refine zM fld30_0 (zC hNA rfl ab) ?_
      exact obT_end rfl rfl
     ·
      intro eA aA wA hNA hGA hbsA hdpA
      have aH : Sl aA 103 (ptr U 0) := (hdpA 3 _ 103 zy rfl rfl).2 rfl
      obtain ⟨ag, S, l⟩ := hGA
      refine zN one27 (zC hNA rfl aH) (S.cell rfl) ?_
      exact obT_end rfl rfl
     ·
      intro eA aA wA hNA hGA hbsA hdpA
      have aG := (hbsA 14 rfl).trans (zL T rfl ap)
      refine zG (zC hNA rfl aG) ?_
      exact obT_end rfl rfl
     ·
      intro eA aA wA hNA hGA hbsA hdpA
      have aG : Sl aA 104 K := (hdpA 4 _ 104 zy rfl rfl).2 rfl
      have aH : Sl aA 105 (.int .i64 ((i : Nat) : Int)) := (hdpA 5 _ 105 zy rfl rfl).2 rfl
      obtain ⟨ag, S, l⟩ := hGA
      refine op_index_at (i := i) slt27 (zC hNA rfl aG) ag (zC hNA rfl aH) zx zx aF ?_
      exact obT_end rfl rfl
     ·
      intro eA aA wA hNA hGA hbsA hdpA
      have aG : Sl aA 106 (ptr b8 o8) := (hdpA 6 _ 106 zy rfl rfl).2 rfl
      refine zM fld51_2 (zC hNA rfl aG) ?_
      exact obT_end rfl rfl
     ·
      intro eA aA wA hNA hGA hbsA hdpA
      have aG : Sl aA 107 (ptr b8 (o8 + 2)) := (hdpA 7 _ 107 zy rfl rfl).2 rfl
      obtain ⟨ag, S, l⟩ := hGA
      refine zN (v := (D3.getD i default).iv) one49 (zC hNA rfl aG) (ag.cellAt aF 2 _ (el_dt (e := ((i : Nat) : Int)) (i := i) rfl zx 2 _ rfl)) ?_
      exact obT_end rfl rfl
     ·
      intro eA aA wA hNA hGA hbsA hdpA
      have ac := (hbsA 4 rfl).trans (zL T rfl aq)
      refine zM fld37_2 (zC hNA rfl ac) ?_
      exact obT_end rfl rfl
     ·
      intro eA aA wA hNA hGA hbsA hdpA
      have aF : Sl aA 109 (ptr y 2) := (hdpA 9 _ 109 zy rfl rfl).2 rfl
      obtain ⟨ag, S, l⟩ := hGA
      refine zN one9 (zC hNA rfl aF) (l.cell rfl) ?_
      exact obT_end rfl rfl
     refine kt_step (rs := [11]) zy (one_mem ?_)
     intro aK aF _ aI aH aJ aG o_ ho_; obtain rfl := zE ho_
     obtain ⟨hb, _⟩ := yE hb aF
     have aD := aD.kz aF
     have aJ : Sl aI 110 (.string (bs s.f.nm)) := (aG 10 _ 110 zy rfl rfl).2 rfl
     refine op_bslice (e := 9) (pv := [(0, (.string (bs s.f.nm)))]) (cs := [(.string (bs s.f.nm))]) ⟨rfl, (zC aH rfl aJ), trivial⟩ zy ?_
     intro aJ aI aK aL aH aG
     obtain ⟨hb, _⟩ := yE hb aG
     have l := (l.keep0 aF).keep0 aG
     have S := (S.keep0 aF).keep0 aG
     have ag := (ag.keep0 aF).keep0 aG
     have aD := aD.kz aG
     refine kt_end rfl ⟨ag, S, l⟩ (kt_step (rs := [12]) zy (one_mem ?_))
     intro aN aJ _ aK aM aO aL o_ ho_; obtain rfl := zE ho_
     obtain ⟨hb, _⟩ := yE hb aJ
     have aC := ((aC.keep0 aF).keep0 aG).keep0 aJ
     have aH := aH.keep0 aJ
     have aN : Sl aK 108 (D3.getD i default).iv := (aL 8 _ 108 zy rfl rfl).2 rfl
     have aO : Sl aK 111 (.slice (some ⟨aI, 0, none⟩) 1 1) := (zE ((aL 11 _ 111 zy rfl rfl).1 rfl)).symm
     have aI := aC
     refine op_append slt49 (zC aM rfl aN) aI (zC aM rfl aO) (Src.ofRd Tryz.underlying49 zz (RdC.ofBx (sz := 1) (n := 1) aH rfl zz) (by simp [Value.oneCell', u8v])) (by unfold maxLen; omega) zx hb.size ?_
     intro aK aL aH aC aM
     have := aC.size
     have l := (l.keep0 aJ).keepO aI aC zz
     have S := (S.keep0 aJ).keepO aI aC zz
     have ag := (ag.keep0 aJ).keepT aI aC zz
     have aD := (aD.kz aJ).keepG (Gr.of aC) aE.symm
     have hb := below_stepO hb aI aC hb.size zx
     have aH : Own aL w.heap.size 9 1 aK ((D3.getD i default).t.idx.length + 1) ((((D3.getD i default).t.idx ++ [s.f.nm])).map sv) := by simpa [u8v, u16v, sv, cellsI, cellsC, cellsX, cellsS] using aH
     refine kt_end rfl ⟨ag, S, l⟩ ?_
     intro aQ aL aN aE aP aM aO
     have aP := aP.trans ((by simp only [putsL_defers] : _ = _).trans au)
     obtain ⟨hb, _⟩ := yE hb aL
     have ag := ag.keep0 aL
     have aD := aD.kz aL
     have aH := aH.keep0 aL
     have aQ := (aM 4 rfl).trans (zL T rfl aq)
     have aR := (aM 6 rfl).trans (zL T rfl ar)
     have aS := (aM 7 rfl).trans (zL T rfl aw)
     have aT := (aM 8 rfl).trans (zL T rfl an)
     have aU := (aM 14 rfl).trans (zL T rfl ap)
     have aM : Sl aN 101 K := (aO 1 _ 101 rfl rfl).2 rfl
     have aV : Sl aN 102 (.int .i64 ((i : Nat) : Int)) := (aO 2 _ 102 rfl rfl).2 rfl
     have aW : Sl aN 112 aK := (zE ((aO 12 _ 112 rfl rfl).1 rfl)).symm
     refine split_end (from_seq (tl := [_, _, _]) zz zy rfl (op_index_own (i := i) slt27 (zC aE rfl aM) ag (zC aE rfl aV) zx zx ?_))
     intro aN aV aO aM
     refine zM fld51_2 (zA aE rfl) ?_
     have aN := ag
     refine op_store_own (vs := [aK]) size49 (zA aE rfl) (zC aE rfl aW) aH.cl rfl (by simp only [yA, yB, yC, yD, aH.one]; try rfl) aN (aM.fld 2) (by have h9 := aN.1; rw [h9]; simp only [List.length_cons, List.length_nil]; omega) ?_
     intro aV aO aM
     have := aM.size
     have g := (((((g.keep0 aF).keep0 aG).keep0 aJ).keepO aI aC zz).keep0 aL).keepO aN aM zz
     have l := (l.keep0 aL).keepO aN aM zz
     have A := (((((A.keep0 aF).keep0 aG).keep0 aJ).keepO aI aC zz).keep0 aL).keepO aN aM zz
     have I := (((((I.keep0 aF).keep0 aG).keep0 aJ).keepT aI aC zz).keep0 aL).keepT aN aM zz
     have S := (S.keep0 aL).keepO aN aM zz
     have ae := (((((ae.keep0 aF).keep0 aG).keep0 aJ).keepO aI aC zz).keep0 aL).keep aM (fun hh => ai hh.symm)
     have aD := aD.keepG (Gr.of aM) (aD.notOwn aN zz zz).symm
     have aH := aH.keepT aN aM zz
     have hb := below_stepO hb aN aM hb.size zx
     have aO : Own aV w.heap.size 51 3 K D3.length (((D3.set i (DTab.mk { (D3.getD i default).t with idx := (D3.getD i default).t.idx ++ [s.f.nm] } (D3.getD i default).cv aK))).flatMap cellsT) := by exact aO.cast rfl (flat_setT D3 i _ _ zx rfl rfl rfl)
     refine zB (Q _ _ (zH (zG (zC aE rfl aU) (op_add (zA aE rfl) rfl (add64 zx) ?_))))
     skip
     refine zD (zA aE rfl) (zB ?_)
     -- round 26F 62T 70T 77F 82F 88T 99T
     obtain ⟨F9, ai⟩ := aD.join (d := (DTab.mk { (D3.getD i default).t with idx := (D3.getD i default).t.idx ++ [s.f.nm] } (D3.getD i default).cv aK)) zx rfl rfl (aH.cast (by simp) (by simp))
     exact zg _ aE aP ⟨(i + 1), (D3.set i (DTab.mk { (D3.getD i default).t with idx := (D3.getD i default).t.idx ++ [s.f.nm] } (D3.getD i default).cv aK)), _, rfl, (zL aE rfl aQ), (zL aE rfl aR), (zL aE rfl aS), (zL aE rfl aT), (zU aE rfl).trans (congrArg (Value.int .i64) zx), (by rw [List.length_set]; omega), (by rw [List.length_set]; exact ay), (by rw [if_neg (Nat.not_succ_le_self i)]; exact (idxT_set D3 i (DTab.mk { (D3.getD i default).t with idx := (D3.getD i default).t.idx ++ [s.f.nm] } (D3.getD i default).cv aK) _ _ (ixl_first hun ao (by rw [List.length_map]; omega) aB) zx aB rfl).trans (by rw [az])), (fun h => absurd h (Nat.not_succ_le_self i)), hb, zx, g, l, A, I, S, ae, (ai), (aO.cast (by simp) rfl)⟩ (by rw [List.length_set]; omega)
    have aB := of_decide_eq_false aB
    refine wp_skip (Q _ _ (zH (zG (zC T rfl ap) (op_add (zA T rfl) rfl (add64 zx) ?_))))
    skip
    refine zD (zA T rfl) (zB ?_)
    -- round 26F 62T 70T 77F 82F 88T 99F
    skip
    exact zg _ T au ⟨(i + 1), D3, _, rfl, (zL T rfl aq), (zL T rfl ar), (zL T rfl aw), (zL T rfl an), (zU T rfl).trans (congrArg (Value.int .i64) zx), zx, ay, (ixl_no ao (ixl_isnt ao am aB)), (fun h => ax zx), hb, zx, g, l, A, I, S, ae, ak, ag⟩ zx
   refine zB (Y _ _ (wp_cond_false (zA T rfl) (wp_exit (then_exit (then_exit (blk_hit (c _ _ (zF fun _ c => zH (zY agg30 rfl (zC T rfl an) S ?_)))))))))
   have ad := A
   refine zZ size30 (zC T rfl ar) (zA T rfl) rfl (by simp only [yA, yB, yC, yD, ag.one, I.one]; try rfl) A rfl ?_
   intro ai A ae
   have := ae.size
   have I := I.keepX ad ae zz
   have ak := ak.keepG (Gr.of ae) (Dj.one (ak.notBx ad zz zz))
   have ag := ag.keepX ad ae zz
   have hb := below_step1 hb ae hb.size zx
   refine zD rfl (zB (c _ _ (wp_ret (retD rfl au (zC T rfl ar) agg30 rfl A (zA T rfl) ⟨_, rfl, ?_⟩))))
   have hV' := hV.keep0 (zQ hb)
   have e9 : (addE (D.map DTab.t) (V.map DVw.nm) o s) = 0 := (addE_2 W).trans ((idxE_2 af.1).trans ((if_neg ah).trans (if_neg (of_decide_eq_false aj))))
   rw [e9]; exact ⟨hb, _, _, D3, V, rfl, TabsR.fr ak ag, ⟨I.rdw.mono hL (Nat.le_refl _), fun a ha => (hV'.2 a ha).mono (Nat.le_refl _) zx, hV'.3⟩, fun _ => ⟨by rw [ao, if_neg (by rw [List.length_map] at al; omega), addT_2 W], AddY.n zx⟩, fun h => absurd rfl h⟩
  rw [aa]
  refine zG (zA hN rfl) (op_not (zA hN rfl) (zB (Y _ _ (wp_cond_true (zA hN rfl) (zF fun _ Y => zH (zf (pv := []) (v := (Value.agg #[(.slice none 0 0), (.slice none 0 0)])) trivial zy (zZ size30 (zA hN rfl) (zA hN rfl) rfl rfl A rfl ?_)))))))
  intro ae A T
  have := T.size
  have hb := below_step1 hb T hb.size zx
  refine zD rfl (zB (Y _ _ (wp_ret (zO (zb (zO ( (retD rfl hd (zA hN rfl) agg30 rfl A (zA hN rfl) ⟨_, rfl, ?_⟩))))))))
  have e9 : (addE (D.map DTab.t) (V.map DVw.nm) o s) = 9 := (addE_2 W).trans (idxE_1 (tab_no9 aa))
  rw [e9]; exact ⟨hb, _, _, [], [], rfl, ⟨RdC.nil _ _ _ _, fun _ h => (by cases h)⟩, VsFr.nil _ _ _, fun h => absurd h zz, fun _ => ⟨rfl, rfl⟩⟩
 refine zD (zA hN rfl) (zB (Q _ _ (wp_cond_false (zA hN rfl) (seq_join1 (N := 186) (fun az_ w' => (Sl az_ 2 ow) ∧ (Sl az_ 3 (ptr t 0)) ∧ (Sl az_ 4 (ptr y 0)) ∧ (Sl az_ 6 (ptr C 0)) ∧ (Sl az_ 7 (.int .i64 0)) ∧ (Sl az_ 8 (ptr U 0)) ∧ (Sl az_ 115 (.bool (decide (s.f.kind = 3 ∨ s.f.kind = 4)))) ∧ (Below w.heap.size w w') ∧ (Z.heap.size ≤ w'.heap.size) ∧ (Bx w' t 30 [tv, vv]) ∧ (Bx w' y 37 [(.int .i64 s.f.kind), (.string (bs s.f.tb)), (.string (bs s.f.nm)), s.f.cv, s.f.gv, s.f.vv, s.f.iv, (.string (bs s.f.join)), s.f.ov, s.f.wv, s.f.rv, (.bool s.f.desc), s.nv]) ∧ (Bx w' C 30 [(.slice none 0 0), (.slice none 0 0)]) ∧ (Own w' w.heap.size 51 3 K P.length (P.flatMap cellsT)) ∧ (TabsR w' w.heap.size P O) ∧ (Own w' w.heap.size 68 15 M V.length (V.flatMap cellsW)) ∧ (Bx w' U 30 [K, M])) (fun T => ?_) ?_))))
 ·
  refine zF fun _ Q => zF fun _ Y => zH (op_eql (zA hN rfl) rfl (fun t => ?_) (fun t => ?_))
  ·
   refine zD (zA hN rfl) (zB (Y _ _ (wp_cond_true (zA hN rfl) (wp_skip (Q _ _ ?_)))))
   exact T _ _ _ hN hd ⟨(zL hN rfl p), (zU hN rfl), (zU hN rfl), (zU hN rfl), (zU hN rfl), (zU hN rfl), (zU hN rfl).trans (congrArg Value.bool (decide_eq_true zx).symm), hb, zx, g, l, A, J, z, I, S⟩
  refine zD (zA hN rfl) (zB (Y _ _ (wp_cond_false (zA hN rfl) (zH (op_eql (zA hN rfl) rfl (fun t => ?_) (fun t => ?_))))))
  ·
   refine zD (zA hN rfl) (zB (Q _ _ ?_))
   exact T _ _ _ hN hd ⟨(zL hN rfl p), (zU hN rfl), (zU hN rfl), (zU hN rfl), (zU hN rfl), (zU hN rfl), (zU hN rfl).trans (congrArg Value.bool (decide_eq_true zx).symm), hb, zx, g, l, A, J, z, I, S⟩
  refine zD (zA hN rfl) (zB (Q _ _ ?_))
  exact T _ _ _ hN hd ⟨(zL hN rfl p), (zU hN rfl), (zU hN rfl), (zU hN rfl), (zU hN rfl), (zU hN rfl), (zU hN rfl).trans (congrArg Value.bool (decide_eq_false zx).symm), hb, zx, g, l, A, J, z, I, S⟩
 rintro af ai p T ⟨ae, W, C, t, ag, Z, aa, hb, ah, g, l, A, J, z, I, S⟩
 have := hb.size
 refine wp_cond_split (zC p rfl aa) (fun af => ?_) (fun af => ?_)
 ·
  have af := of_decide_eq_true af
  refine zF fun _ Q => zH (zY agg30 rfl (zC p rfl W) g (zM fld37_2 (zC p rfl C) (zN one9 (zA p rfl) (l.cell rfl) ?_)))
  have hV' := hV.keep0 (zQ hb)
  refine zj ok30 (View9_ret (V := V) hV' zx) ⟨(zA p rfl), ⟨(zA p rfl), trivial⟩⟩ ?_
  rintro _ am ⟨aa, ak, al, aj, ai, rfl, ah, ag⟩
  have aa := zQ aa
  obtain ⟨hb, _⟩ := yE hb aa
  have z := z.kz aa
  have I := I.keep0 aa
  refine zG (zA p rfl) (zW (zA p rfl) rfl (zW (zA p rfl) rfl (op_alloc (cs := [(.string (bs [])), (.slice none 0 0), (.int .i64 0), (.string (bs [])), (.string (bs [])), (.slice none 0 0), (.slice none 0 0), (.slice none 0 0), (.slice none 0 0), (.string (bs [])), (.slice none 0 0), (.slice none 0 0), (.slice none 0 0), (.bool false), (.slice none 0 0)]) zero68 rfl ?_)))
  intro am ak al an aj ai
  have al : ¬ O ak := fun hf => by have := (z.lt _ hf).2; omega
  have O : M.ownBlock ≠ some ak := fun hh => by have := (I.lt _ hh).2; omega
  obtain ⟨hb, _⟩ := yE hb ai
  have g := (g.keep0 aa).keep0 ai
  have l := (l.keep0 aa).keep0 ai
  have A := (A.keep0 aa).keep0 ai
  have S := (S.keep0 aa).keep0 ai
  have ah := ah.keep0 ai
  have ag := ag.keep0 ai
  have ak := aj
  refine zZ size68 (zA p rfl) (zA p rfl) rfl (by simp only [yA, yB, yC, yD, ah.one, ag.ff.1.one, ag.ff.2.1.one, ag.ff.2.2.1.1.one, ag.ff.2.2.2.1.one, ag.ff.2.2.2.2.1.1.one, ag.ff.2.2.2.2.2.1.1.one, ag.ff.2.2.2.2.2.2.1.one, ag.nvr.one]; try rfl) aj rfl ?_
  intro ag aj ah
  have := ah.size
  have g := g.keep ah (sN g ak)
  have l := l.keep ah (sN l ak)
  have A := A.keep ah (sN A ak)
  have J := ((J.keep0 aa).keep0 ai).keepX ak ah zz
  have z := (z.kz ai).keepG (Gr.of ah) (Dj.one al)
  have I := (I.keep0 ai).keep ah (.inr O)
  have S := S.keep ah (sN S ak)
  have hb := below_step1 hb ah hb.size zx
  refine zD (zA p rfl) (zB (Q _ _ (zF fun _ Q => zF fun _ Y => zH ?_)))
  skip
  rcases Bool.eq_false_or_eq_true ((decide (s.f.nm ∈ V.map DVw.nm))) with O | O
  ·
   rw [O]
   refine zG (zA p rfl) ?_
   replace O := of_decide_eq_true O
   refine zB (Y _ _ (wp_cond_true (zA p rfl) (zF fun _ Y => zH (zf (pv := []) (v := (Value.agg #[(.slice none 0 0), (.slice none 0 0)])) trivial zy (zZ size30 (zC p rfl t) (zA p rfl) rfl rfl A rfl ?_)))))
   intro ah A aa
   have := aa.size
   have hb := below_step1 hb aa hb.size zx
   refine zD rfl (zB (Y _ _ (wp_ret (zO (zb (zO ( (retD rfl T (zC p rfl t) agg30 rfl A (zA p rfl) ⟨_, rfl, ?_⟩))))))))
   have e9 : (addE (D.map DTab.t) (V.map DVw.nm) o s) = 12 := (addE_v af).trans (by unfold viewE; rw [if_pos O])
   rw [e9]; exact ⟨hb, _, _, [], [], rfl, ⟨RdC.nil _ _ _ _, fun _ h => (by cases h)⟩, VsFr.nil _ _ _, fun h => absurd h zz, fun _ => ⟨rfl, rfl⟩⟩
  rw [O]
  refine zG (zA p rfl) ?_
  replace O := of_decide_eq_false O
  refine zB (Y _ _ (wp_cond_false (zA p rfl) (wp_skip (Q _ _ (zF fun _ Q => zF fun _ Y => zH (zM fld30_1 (zC p rfl W) (zN one28 (zA p rfl) (g.cell rfl) ?_)))))))
  have hVR' := hVR.keep0 (zQ hb)
  refine op_len_rd Tryz.underlying28 (zA p rfl) hVR' (op_geq (zA p rfl) rfl (fun g => ?_) (fun g => ?_))
  ·
   refine zB (Y _ _ (wp_cond_true (zA p rfl) (zF fun _ Y => zH (zf (pv := []) (v := (Value.agg #[(.slice none 0 0), (.slice none 0 0)])) trivial zy (zZ size30 (zC p rfl t) (zA p rfl) rfl rfl A rfl ?_)))))
   intro W A g
   have := g.size
   have hb := below_step1 hb g hb.size zx
   refine zD rfl (zB (Y _ _ (wp_ret (zO (zb (zO ( (retD rfl T (zC p rfl t) agg30 rfl A (zA p rfl) ⟨_, rfl, ?_⟩))))))))
   have e9 : (addE (D.map DTab.t) (V.map DVw.nm) o s) = 25 := (addE_v af).trans (by unfold viewE; rw [if_neg O, if_pos (by rw [List.length_map]; omega)])
   rw [e9]; exact ⟨hb, _, _, [], [], rfl, ⟨RdC.nil _ _ _ _, fun _ h => (by cases h)⟩, VsFr.nil _ _ _, fun h => absurd h zz, fun _ => ⟨rfl, rfl⟩⟩
  refine zB (Y _ _ (wp_cond_false (zA p rfl) (wp_skip (Q _ _ (zF fun _ Q => zH (zG (zC p rfl ae) (zM fld37_4 (zC p rfl C) (zN one23 (zA p rfl) (l.cell rfl) ?_))))))))
  have ho' := ho.keep0 (zQ hb)
  have hfg' := hfg.keep0 (zQ hb)
  refine zj ok31 (rownW_ret o s.f.tags _ _ _ (by first | assumption | omega | (simp only [List.length_append, List.length_cons, List.length_nil, List.length_drop, List.length_take]; omega) | (dsimp only; omega) | decide | (simp [keyV, be8_len]; done)) (by first | assumption | omega | (simp only [List.length_append, List.length_cons, List.length_nil, List.length_drop, List.length_take]; omega) | (dsimp only; omega) | decide | (simp [keyV, be8_len]; done)) (show RdC ag 0 ag.heap.size 1 ow o.length (o.map u16v) from by have hh : RdC ag 0 ag.heap.size 1 _ _ _ := (ho'.mono (L' := 0) (B' := ag.heap.size) (Nat.zero_le _) zx); first | exact hh | exact hh.cast (by first | omega | (simp; try omega)) (by first | rfl | simp [u16v])) (show RdC ag 0 ag.heap.size 1 s.f.gv s.f.tags.length (s.f.tags.map u16v) from by have hh : RdC ag 0 ag.heap.size 1 _ _ _ := (hfg'.mono (L' := 0) (B' := ag.heap.size) (Nat.zero_le _) zx); first | exact hh | exact hh.cast (by first | omega | (simp; try omega)) (by first | rfl | simp [u16v]))) ⟨(zA p rfl), ⟨(zA p rfl), trivial⟩⟩ ?_
  rintro _ W ⟨g, rfl⟩
  have g := zQ g
  obtain ⟨hb, _⟩ := yE hb g
  have J := J.keep0 g
  obtain ⟨l, A⟩ := kb2 g l A
  have z := z.kz g
  have I := I.keep0 g
  have S := S.keep0 g
  refine zD (zA p rfl) (zB (Q _ _ (zF fun _ Q => zF fun _ Y => zH (zG (zA p rfl) (op_neq (zA p rfl) rfl (fun g => ?_) (fun g => ?_))))))
  ·
   refine zB (Y _ _ (wp_cond_true (zA p rfl) (zF fun _ Y => zH (zf (pv := []) (v := (Value.agg #[(.slice none 0 0), (.slice none 0 0)])) trivial zy (zG (zA p rfl) (zZ size30 (zC p rfl t) (zA p rfl) rfl rfl A rfl ?_))))))
   intro aa A W
   have := W.size
   have hb := below_step1 hb W hb.size zx
   refine zD (zA p rfl) (zB (Y _ _ (wp_ret (zO (zb (zO ( (retD rfl T (zC p rfl t) agg30 rfl A (zA p rfl) ⟨_, rfl, ?_⟩))))))))
   have e9 : (addE (D.map DTab.t) (V.map DVw.nm) o s) = (ownE o s.f.tags) := (addE_v af).trans (by unfold viewE; rw [if_neg O, if_neg (by rw [List.length_map]; omega), if_pos g])
   rw [e9]; exact ⟨hb, _, _, [], [], rfl, ⟨RdC.nil _ _ _ _, fun _ h => (by cases h)⟩, VsFr.nil _ _ _, fun h => absurd h zx, fun _ => ⟨rfl, rfl⟩⟩
  refine zB (Y _ _ (wp_cond_false (zA p rfl) (wp_skip (Q _ _ (zF fun _ Q => zF fun _ Y => reg_from mixed ?_)))))
  intro aa W
  obtain ⟨hb, _⟩ := yE hb W
  have J := J.keep0 W
  obtain ⟨l, A⟩ := kb2 W l A
  have z := z.kz W
  have I := I.keep0 W
  have S := S.keep0 W
  refine from_still (m := 22) 22 (hd := [_, _, _, _, _, _, _, _, _, _, _, _, _, _, _, _, _, _, _, _, _, _]) zy rfl rfl (st_step rfl (fun _ h9 => zM fld37_12 (zC p rfl C) h9) (st_step rfl (fun _ h9 => zN one35 (zA p rfl) (l.cell rfl) h9) ?_))
  have hfnR' := hfnR.keep0 (zQ hb)
  refine st_step rfl (fun _ h9 => op_len_rd Tryz.underlying35 (zA p rfl) hfnR' h9) ?_
  by_cases W : ((s.inner.length : Nat) : Int) ≠ 1
  ·
   refine st_step rfl (fun _ h9 => op_cmp (b := true) (zA p rfl) rfl (b_neq (decide_eq_true W)) h9) (st_step rfl (fun _ h9 => zG (zA p rfl) h9) (st_g_false (j := 4) (dj := 144) (b := false) rfl rfl rfl (zA p rfl) rfl rfl (st_g_false (j := 4) (dj := 144) (b := false) rfl rfl rfl (zA p rfl) rfl rfl (st_g_false (j := 4) (dj := 144) (b := false) rfl rfl rfl (zA p rfl) rfl rfl (st_g_false (j := 4) (dj := 144) (b := false) rfl rfl rfl (zA p rfl) rfl rfl (st_g_false (j := 4) (dj := 144) (b := false) rfl rfl rfl (zA p rfl) rfl rfl (st_g_false (j := 4) (dj := 144) (b := false) rfl rfl rfl (zA p rfl) rfl rfl (st_g_false (j := 4) (dj := 144) (b := false) rfl rfl rfl (zA p rfl) rfl rfl ?_))))))))
   refine st_g_false (j := 4) (dj := 144) (b := false) rfl rfl rfl (zA p rfl) rfl rfl (st_g_false (j := 4) (dj := 144) (b := false) rfl rfl rfl (zA p rfl) rfl rfl (st_g_false (j := 4) (dj := 144) (b := false) rfl rfl rfl (zA p rfl) rfl rfl (st_step rfl (fun _ h9 => zc (zA p rfl) rfl h9) (st_step rfl (fun _ h9 => zG (zA p rfl) h9) (st_g_false (j := 16) (dj := 156) (b := false) rfl rfl rfl (zA p rfl) rfl rfl (st_g_false (j := 16) (dj := 156) (b := false) rfl rfl rfl (zA p rfl) rfl rfl (st_g_false (j := 16) (dj := 156) (b := false) rfl rfl rfl (zA p rfl) rfl rfl (st_g_false (j := 16) (dj := 156) (b := false) rfl rfl rfl (zA p rfl) rfl rfl (st_g_false (j := 16) (dj := 156) (b := false) rfl rfl rfl (zA p rfl) rfl rfl ?_)))))))))
   refine st_nil (from_seq (tl := [_, _, _]) zz zy rfl (zR (j := 16) (dj := 156) (b := false) rfl rfl rfl (zA p rfl) rfl rfl (zR (j := 16) (dj := 156) (b := false) rfl rfl rfl (zA p rfl) rfl rfl (zc (zA p rfl) rfl (zB (Y _ _ (wp_cond_true (zA p rfl) (zF fun _ Y => zH (zf (pv := []) (v := (Value.agg #[(.slice none 0 0), (.slice none 0 0)])) trivial zy (zZ size30 (zC p rfl t) (zA p rfl) rfl rfl A rfl ?_))))))))))
   intro ae A aa
   have := aa.size
   have hb := below_step1 hb aa hb.size zx
   refine zD rfl (zB (Y _ _ (wp_ret (zO (zb (zO ( (retD rfl T (zC p rfl t) agg30 rfl A (zA p rfl) ⟨_, rfl, ?_⟩))))))))
   have e9 : (addE (D.map DTab.t) (V.map DVw.nm) o s) = 1 := (addE_v af).trans (by unfold viewE; rw [if_neg O, if_neg (by rw [List.length_map]; omega), if_neg (fun h => h g), if_pos (.inl zx)])
   rw [e9]; exact ⟨hb, _, _, [], [], rfl, ⟨RdC.nil _ _ _ _, fun _ h => (by cases h)⟩, VsFr.nil _ _ _, fun h => absurd h zz, fun _ => ⟨rfl, rfl⟩⟩
  refine st_step rfl (fun _ h9 => op_cmp (b := false) (zA p rfl) rfl (b_neq (decide_eq_false W)) h9) (st_step rfl (fun _ h9 => zG (zA p rfl) h9) (st_g_true (j := 4) (dj := 144) (b := false) rfl rfl rfl (zA p rfl) (st_step rfl (fun _ h9 => zM fld37_12 (zC p rfl C) h9) (st_g_true (j := 4) (dj := 144) (b := false) rfl rfl rfl (zA p rfl) (st_step rfl (fun _ h9 => zN one35 (zA p rfl) (l.cell rfl) h9) (st_g_true (j := 4) (dj := 144) (b := false) rfl rfl rfl (zA p rfl) ?_))))))
  have hfnR' := hfnR.keep0 (zQ hb)
  refine st_index_rd slt35 (zA p rfl) hfnR' rfl zx zx ?_
  intro ae ag ah aa W
  refine st_g_true (j := 4) (dj := 144) (b := false) rfl rfl rfl (zA p rfl) (st_step rfl (fun _ h9 => zM fld37_0 (zA p rfl) h9) (st_g_true (j := 4) (dj := 144) (b := false) rfl rfl rfl (zA p rfl) (st_step rfl (fun _ h9 => zN (v := (Value.int .i64 (s.inner.getD 0 default).f.kind)) one3 (zA p rfl) (W 0 ((.int .i64 (s.inner.getD 0 default).f.kind)) zz ((el_xs (i := 0) zx zx) 0 ((.int .i64 (s.inner.getD 0 default).f.kind)) rfl)) h9) ?_)))
  refine st_g_true (j := 4) (dj := 144) (b := false) rfl rfl rfl (zA p rfl) (st_step rfl (fun _ h9 => op_cmp (b := (decide ((s.inner.getD 0 default).f.kind = 6))) (zA p rfl) rfl (b_eql rfl) h9) (st_g_true (j := 4) (dj := 144) (b := false) rfl rfl rfl (zA p rfl) (st_step rfl (fun _ h9 => zM fld37_0 (zC p rfl C) h9) (st_g_true (j := 4) (dj := 144) (b := false) rfl rfl rfl (zA p rfl) (st_step rfl (fun _ h9 => zN one3 (zA p rfl) (l.cell rfl) h9) (st_g_true (j := 4) (dj := 144) (b := false) rfl rfl rfl (zA p rfl) (st_step rfl (fun _ h9 => op_cmp (b := (decide (s.f.kind = 3))) (zA p rfl) rfl (b_eql rfl) h9) (st_g_true (j := 4) (dj := 144) (b := false) rfl rfl rfl (zA p rfl) (st_step rfl (fun _ h9 => op_neb Tryz.underlying4 (zA p rfl) (zA p rfl) h9) ?_)))))))))
  rcases Bool.eq_false_or_eq_true (((decide ((s.inner.getD 0 default).f.kind = 6)) != (decide (s.f.kind = 3)))) with W | W
  ·
   rw [W]
   refine st_step rfl (fun _ h9 => zd (zA p rfl) (zA p rfl) h9) (st_step rfl (fun _ h9 => zG (zA p rfl) h9) (st_g_false (j := 16) (dj := 156) (b := false) rfl rfl rfl (zA p rfl) rfl rfl (st_g_false (j := 16) (dj := 156) (b := false) rfl rfl rfl (zA p rfl) rfl rfl (st_g_false (j := 16) (dj := 156) (b := false) rfl rfl rfl (zA p rfl) rfl rfl (st_g_false (j := 16) (dj := 156) (b := false) rfl rfl rfl (zA p rfl) rfl rfl (st_g_false (j := 16) (dj := 156) (b := false) rfl rfl rfl (zA p rfl) rfl rfl ?_))))))
   refine st_nil (from_seq (tl := [_, _, _]) zz zy rfl (zR (j := 16) (dj := 156) (b := false) rfl rfl rfl (zA p rfl) rfl rfl (zR (j := 16) (dj := 156) (b := false) rfl rfl rfl (zA p rfl) rfl rfl (zc (zA p rfl) rfl (zB (Y _ _ (wp_cond_true (zA p rfl) (zF fun _ Y => zH (zf (pv := []) (v := (Value.agg #[(.slice none 0 0), (.slice none 0 0)])) trivial zy (zZ size30 (zC p rfl t) (zA p rfl) rfl rfl A rfl ?_))))))))))
   intro ae A aa
   have := aa.size
   have hb := below_step1 hb aa hb.size zx
   refine zD rfl (zB (Y _ _ (wp_ret (zO (zb (zO ( (retD rfl T (zC p rfl t) agg30 rfl A (zA p rfl) ⟨_, rfl, ?_⟩))))))))
   have e9 : (addE (D.map DTab.t) (V.map DVw.nm) o s) = 1 := (addE_v af).trans (by unfold viewE; rw [if_neg O, if_neg (by rw [List.length_map]; omega), if_neg (fun h => h g), if_pos (.inr (vkv_t af W))])
   rw [e9]; exact ⟨hb, _, _, [], [], rfl, ⟨RdC.nil _ _ _ _, fun _ h => (by cases h)⟩, VsFr.nil _ _ _, fun h => absurd h zz, fun _ => ⟨rfl, rfl⟩⟩
  rw [W]
  refine st_step rfl (fun _ h9 => zd (zA p rfl) (zA p rfl) h9) (st_step rfl (fun _ h9 => zG (zA p rfl) h9) (st_g_true (j := 16) (dj := 156) (b := false) rfl rfl rfl (zA p rfl) (st_step rfl (fun _ h9 => zM fld37_12 (zC p rfl C) h9) (st_g_true (j := 16) (dj := 156) (b := false) rfl rfl rfl (zA p rfl) (st_step rfl (fun _ h9 => zN one35 (zA p rfl) (l.cell rfl) h9) (st_g_true (j := 16) (dj := 156) (b := false) rfl rfl rfl (zA p rfl) ?_))))))
  have hfnR' := hfnR.keep0 (zQ hb)
  refine st_index_rd slt35 (zA p rfl) hfnR' rfl zx zx ?_
  intro ah ai ag ae aa
  refine st_g_true (j := 16) (dj := 156) (b := false) rfl rfl rfl (zA p rfl) (st_step rfl (fun _ h9 => zM fld37_0 (zA p rfl) h9) ?_)
  refine st_g_true (j := 16) (dj := 156) (b := false) rfl rfl rfl (zA p rfl) (st_step rfl (fun _ h9 => zN (v := (Value.int .i64 (s.inner.getD 0 default).f.kind)) one3 (zA p rfl) (aa 0 ((.int .i64 (s.inner.getD 0 default).f.kind)) zz ((el_xs (i := 0) zx zx) 0 ((.int .i64 (s.inner.getD 0 default).f.kind)) rfl)) h9) (st_nil (from_seq (tl := [_, _, _]) zz zy rfl (zS (j := 16) (dj := 156) (b := false) rfl rfl rfl (zA p rfl) (zj ok32 (data9_ret (k := (s.inner.getD 0 default).f.kind)) ⟨(zA p rfl), trivial⟩ ?_)))))
  rintro _ ae ⟨aa, rfl⟩
  have aa := zQ aa
  obtain ⟨hb, _⟩ := yE hb aa
  have J := J.keep0 aa
  obtain ⟨l, A⟩ := kb2 aa l A
  have z := z.kz aa
  have I := I.keep0 aa
  have S := S.keep0 aa
  rcases Bool.eq_false_or_eq_true ((decide (5 ≤ (s.inner.getD 0 default).f.kind ∧ (s.inner.getD 0 default).f.kind ≤ 8))) with aa | aa
  ·
   rw [aa]
   refine zS (j := 16) (dj := 156) (b := false) rfl rfl rfl (zA p rfl) (op_not (zA p rfl) (zd (zA p rfl) (zA p rfl) (zB (Y _ _ (wp_cond_false (zA p rfl) (wp_skip (Q _ _ (zF fun _ Q => zH (zM fld37_4 (zC p rfl C) (zN one23 (zA p rfl) (l.cell rfl) ?_))))))))))
   have hfg' := hfg.keep0 (zQ hb)
   refine zj ok33 (rnormW_ret s.f.tags _ _ (by first | assumption | omega | (simp only [List.length_append, List.length_cons, List.length_nil, List.length_drop, List.length_take]; omega) | (dsimp only; omega) | decide | (simp [keyV, be8_len]; done)) (show RdC ae 0 ae.heap.size 1 s.f.gv s.f.tags.length (s.f.tags.map u16v) from by have hh : RdC ae 0 ae.heap.size 1 _ _ _ := (hfg'.mono (L' := 0) (B' := ae.heap.size) (Nat.zero_le _) zx); first | exact hh | exact hh.cast (by first | omega | (simp; try omega)) (by first | rfl | simp [u16v]))) ⟨(zA p rfl), trivial⟩ ?_
   rintro _ ai ⟨ah, ag, rfl, ae⟩
   have ah := zQ ah
   obtain ⟨hb, _⟩ := yE hb ah
   have J := J.keep0 ah
   obtain ⟨l, A⟩ := kb2 ah l A
   have z := z.kz ah
   have I := I.keep0 ah
   have S := S.keep0 ah
   have ae := ae.mono (base' := w.heap.size) zx
   have ah := normL_len s.f.tags
   refine zG (zA p rfl) (zW (zA p rfl) rfl (zW (zA p rfl) rfl (zD (zA p rfl) (zD (zA p rfl) (zB (Q _ _ (reg_split (hd := [_, _, _, _, _, _, _, _, _, _, _, _]) (tl := _) 12 mixed zy rfl rfl (any_tree (φ := phiV [(fun uz => uz = (ptr U 1)), (fun uz => uz = M), (fun uz => uz = (ptr y 2)), (fun uz => uz = (.string (bs s.f.nm))), (fun uz => uz = ag), (fun uz => uz = (ptr y 12)), (fun uz => uz = s.nv), (fun _ => True), (fun _ => True), (fun _ => True), (fun _ => True), (fun _ => True)]) (G := fun w' => Bx w' U 30 [K, M] ∧ Bx w' y 37 [(.int .i64 s.f.kind), (.string (bs s.f.tb)), (.string (bs s.f.nm)), s.f.cv, s.f.gv, s.f.vv, s.f.iv, (.string (bs s.f.join)), s.f.ov, s.f.wv, s.f.rv, (.bool s.f.desc), s.nv]) [7, 8, 9, 10, 11] zy zy zy zy zy p (fun r w2 E h => by obtain ⟨h0, h1⟩ := h; exact ⟨h0.keep0 E, h1.keep0 E⟩) ⟨S, l⟩ (ObRs9.cons ?_ (ObRs9.cons ?_ (ObRs9.cons ?_ (ObRs9.cons ?_ (ObRs9.cons ?_ (ObRs9.cons ?_ (ObRs9.cons ?_ (ObRs9.pass rfl (ObRs9.pass rfl (ObRs9.pass rfl (ObRs9.pass rfl (ObRs9.pass rfl (ObRs9.nil))))))))))))) (by simp only [putsL_defers]) ?_))))))))
   ·
    intro eA aA wA hNA hGA hbsA hdpA
    have ab := (hbsA 8 rfl).trans (zL p rfl Z)
    refine zM fld30_1 (zC hNA rfl ab) ?_
    exact obT_end rfl rfl
   ·
    intro eA aA wA hNA hGA hbsA hdpA
    have r : Sl aA 172 (ptr U 1) := (hdpA 0 _ 172 zy rfl rfl).2 rfl
    obtain ⟨S, l⟩ := hGA
    refine zN one28 (zC hNA rfl r) (S.cell rfl) ?_
    exact obT_end rfl rfl
   ·
    intro eA aA wA hNA hGA hbsA hdpA
    have ac := (hbsA 4 rfl).trans (zL p rfl C)
    refine zM fld37_2 (zC hNA rfl ac) ?_
    exact obT_end rfl rfl
   ·
    intro eA aA wA hNA hGA hbsA hdpA
    have r : Sl aA 174 (ptr y 2) := (hdpA 2 _ 174 zy rfl rfl).2 rfl
    obtain ⟨S, l⟩ := hGA
    refine zN one9 (zC hNA rfl r) (l.cell rfl) ?_
    exact obT_end rfl rfl
   ·
    intro eA aA wA hNA hGA hbsA hdpA
    have r := (hbsA 18 rfl).trans (zU p rfl)
    refine zG (zC hNA rfl r) ?_
    exact obT_end rfl rfl
   ·
    intro eA aA wA hNA hGA hbsA hdpA
    have ac := (hbsA 4 rfl).trans (zL p rfl C)
    refine zM fld37_12 (zC hNA rfl ac) ?_
    exact obT_end rfl rfl
   ·
    intro eA aA wA hNA hGA hbsA hdpA
    have r : Sl aA 177 (ptr y 12) := (hdpA 5 _ 177 zy rfl rfl).2 rfl
    obtain ⟨S, l⟩ := hGA
    refine zN one35 (zC hNA rfl r) (l.cell rfl) ?_
    exact obT_end rfl rfl
   refine kt_step (rs := [7]) zy (one_mem ?_)
   intro C r _ ab y ac U o_ ho_; obtain rfl := zE ho_
   obtain ⟨hb, _⟩ := yE hb r
   have l := l.keep0 r
   have z := z.kz r
   have S := S.keep0 r
   have ac : Sl ab 178 s.nv := (U 6 _ 178 zy rfl rfl).2 rfl
   have hfnR' := hfnR.keep0 (zQ hb)
   refine zh slt35 (zC y rfl ac) hfnR' rfl zx zx ?_
   intro U y ac ah ab
   have ac : PtC C 0 w.heap.size U y [(.int .i64 (s.inner.getD 0 default).f.kind), (.string (bs (s.inner.getD 0 default).f.tb)), (.string (bs (s.inner.getD 0 default).f.nm)), (s.inner.getD 0 default).f.cv, (s.inner.getD 0 default).f.gv, (s.inner.getD 0 default).f.vv, (s.inner.getD 0 default).f.iv, (.string (bs (s.inner.getD 0 default).f.join)), (s.inner.getD 0 default).f.ov, (s.inner.getD 0 default).f.wv, (s.inner.getD 0 default).f.rv, (.bool (s.inner.getD 0 default).f.desc), (s.inner.getD 0 default).nv] := ⟨by omega, by omega, fun j u hu => ab j u (by have := (List.getElem?_eq_some_iff.1 hu).1; simpa using this) ((el_xs (i := 0) zx zx) j u hu)⟩
   refine kt_end rfl ⟨S, l⟩ (kt_step (rs := [8]) zy (one_mem ?_))
   intro ak C _ ab ah aj ai o_ ho_; obtain rfl := zE ho_
   obtain ⟨hb, _⟩ := yE hb C
   have l := l.keep0 C
   have z := z.kz C
   have S := S.keep0 C
   have ac := ac.keep0 C
   have aj : Sl ab 179 (ptr U y) := (zE ((ai 7 _ 179 zy rfl rfl).1 rfl)).symm
   refine zX (cs := [(.int .i64 (s.inner.getD 0 default).f.kind), (.string (bs (s.inner.getD 0 default).f.tb)), (.string (bs (s.inner.getD 0 default).f.nm)), (s.inner.getD 0 default).f.cv, (s.inner.getD 0 default).f.gv, (s.inner.getD 0 default).f.vv, (s.inner.getD 0 default).f.iv, (.string (bs (s.inner.getD 0 default).f.join)), (s.inner.getD 0 default).f.ov, (s.inner.getD 0 default).f.wv, (s.inner.getD 0 default).f.rv, (.bool (s.inner.getD 0 default).f.desc), (s.inner.getD 0 default).nv]) agg37 rfl (zC ah rfl aj) (fun j u hu => ac.2.2 j u hu) (kt_end rfl ⟨S, l⟩ (kt_step (rs := [9]) zy (one_mem ?_)))
   intro ai y _ ac ab ah U o_ ho_; obtain rfl := zE ho_
   obtain ⟨hb, _⟩ := yE hb y
   have l := l.keep0 y
   have z := z.kz y
   have S := S.keep0 y
   have ae := ((ae.keep0 r).keep0 C).keep0 y
   have ah : Sl ac 175 (.string (bs s.f.nm)) := (U 3 _ 175 zy rfl rfl).2 rfl
   have ai : Sl ac 176 ag := (U 4 _ 176 zy rfl rfl).2 rfl
   have aj : Sl ac 180 (.agg #[(.int .i64 (s.inner.getD 0 default).f.kind), (.string (bs (s.inner.getD 0 default).f.tb)), (.string (bs (s.inner.getD 0 default).f.nm)), (s.inner.getD 0 default).f.cv, (s.inner.getD 0 default).f.gv, (s.inner.getD 0 default).f.vv, (s.inner.getD 0 default).f.iv, (.string (bs (s.inner.getD 0 default).f.join)), (s.inner.getD 0 default).f.ov, (s.inner.getD 0 default).f.wv, (s.inner.getD 0 default).f.rv, (.bool (s.inner.getD 0 default).f.desc), (s.inner.getD 0 default).nv]) := (zE ((U 8 _ 180 zy rfl rfl).1 rfl)).symm
   refine zf (pv := [(0, (.string (bs s.f.nm))), (1, ag), (2, (.agg #[(.int .i64 (s.inner.getD 0 default).f.kind), (.string (bs (s.inner.getD 0 default).f.tb)), (.string (bs (s.inner.getD 0 default).f.nm)), (s.inner.getD 0 default).f.cv, (s.inner.getD 0 default).f.gv, (s.inner.getD 0 default).f.vv, (s.inner.getD 0 default).f.iv, (.string (bs (s.inner.getD 0 default).f.join)), (s.inner.getD 0 default).f.ov, (s.inner.getD 0 default).f.wv, (s.inner.getD 0 default).f.rv, (.bool (s.inner.getD 0 default).f.desc), (s.inner.getD 0 default).nv]))]) (v := (Value.agg #[(.string (bs s.f.nm)), ag, (.int .i64 (s.inner.getD 0 default).f.kind), (.string (bs (s.inner.getD 0 default).f.tb)), (.string (bs (s.inner.getD 0 default).f.nm)), (s.inner.getD 0 default).f.cv, (s.inner.getD 0 default).f.gv, (s.inner.getD 0 default).f.vv, (s.inner.getD 0 default).f.iv, (.string (bs (s.inner.getD 0 default).f.join)), (s.inner.getD 0 default).f.ov, (s.inner.getD 0 default).f.wv, (s.inner.getD 0 default).f.rv, (.bool (s.inner.getD 0 default).f.desc), (s.inner.getD 0 default).nv])) ⟨rfl, (zC ab rfl ah), ⟨rfl, (zC ab rfl ai), ⟨rfl, (zC ab rfl aj), trivial⟩⟩⟩ (by obtain ⟨_, _, _, rfl⟩ := ae.sl; kernel_rfl) (kt_end rfl ⟨S, l⟩ (kt_step (rs := [10]) zy (one_mem ?_)))
   intro aj U _ ah ab ai ac o_ ho_; obtain rfl := zE ho_
   obtain ⟨hb, _⟩ := yE hb U
   have z := z.kz U
   have ae := ae.keep0 U
   have ai : Sl ah 181 (.agg #[(.string (bs s.f.nm)), ag, (.int .i64 (s.inner.getD 0 default).f.kind), (.string (bs (s.inner.getD 0 default).f.tb)), (.string (bs (s.inner.getD 0 default).f.nm)), (s.inner.getD 0 default).f.cv, (s.inner.getD 0 default).f.gv, (s.inner.getD 0 default).f.vv, (s.inner.getD 0 default).f.iv, (.string (bs (s.inner.getD 0 default).f.join)), (s.inner.getD 0 default).f.ov, (s.inner.getD 0 default).f.wv, (s.inner.getD 0 default).f.rv, (.bool (s.inner.getD 0 default).f.desc), (s.inner.getD 0 default).nv]) := (zE ((ac 9 _ 181 zy rfl rfl).1 rfl)).symm
   refine op_bslice (e := 68) (pv := [(0, (.agg #[(.string (bs s.f.nm)), ag, (.int .i64 (s.inner.getD 0 default).f.kind), (.string (bs (s.inner.getD 0 default).f.tb)), (.string (bs (s.inner.getD 0 default).f.nm)), (s.inner.getD 0 default).f.cv, (s.inner.getD 0 default).f.gv, (s.inner.getD 0 default).f.vv, (s.inner.getD 0 default).f.iv, (.string (bs (s.inner.getD 0 default).f.join)), (s.inner.getD 0 default).f.ov, (s.inner.getD 0 default).f.wv, (s.inner.getD 0 default).f.rv, (.bool (s.inner.getD 0 default).f.desc), (s.inner.getD 0 default).nv]))]) (cs := [(.string (bs s.f.nm)), ag, (.int .i64 (s.inner.getD 0 default).f.kind), (.string (bs (s.inner.getD 0 default).f.tb)), (.string (bs (s.inner.getD 0 default).f.nm)), (s.inner.getD 0 default).f.cv, (s.inner.getD 0 default).f.gv, (s.inner.getD 0 default).f.vv, (s.inner.getD 0 default).f.iv, (.string (bs (s.inner.getD 0 default).f.join)), (s.inner.getD 0 default).f.ov, (s.inner.getD 0 default).f.wv, (s.inner.getD 0 default).f.rv, (.bool (s.inner.getD 0 default).f.desc), (s.inner.getD 0 default).nv]) ⟨rfl, (zC ab rfl ai), trivial⟩ (by obtain ⟨_, _, _, rfl⟩ := ae.sl; kernel_rfl) ?_
   intro ai ah ak aj ac ab
   obtain ⟨hb, _⟩ := yE hb ab
   have l := (l.keep0 U).keep0 ab
   have z := z.kz ab
   have S := (S.keep0 U).keep0 ab
   refine kt_end rfl ⟨S, l⟩ (kt_step (rs := [11]) zy (one_mem ?_))
   intro an ai _ aj ak am al o_ ho_; obtain rfl := zE ho_
   obtain ⟨hb, _⟩ := yE hb ai
   have z := z.kz ai
   have I := (((((I.keep0 r).keep0 C).keep0 y).keep0 U).keep0 ab).keep0 ai
   have ae := (ae.keep0 ab).keep0 ai
   have ac := ac.keep0 ai
   have am : Sl aj 173 M := (al 1 _ 173 zy rfl rfl).2 rfl
   have M : Sl aj 182 (.slice (some ⟨ah, 0, none⟩) 1 1) := (zE ((al 10 _ 182 zy rfl rfl).1 rfl)).symm
   have ah := I
   have hfn' := hfn.keep0 (zQ hb)
   refine op_append slt28 (zC ak rfl am) ah (zC ak rfl M) (Src.ofRd Tryz.underlying28 zz (RdC.ofBx (sz := 15) (n := 1) ac rfl zz) (by simp only [yA, yB, yC, yD, ae.one, (hfn'.2 (s.inner.getD 0 default) (getD_mem zx)).ff.1.one, (hfn'.2 (s.inner.getD 0 default) (getD_mem zx)).ff.2.1.one, (hfn'.2 (s.inner.getD 0 default) (getD_mem zx)).ff.2.2.1.1.one, (hfn'.2 (s.inner.getD 0 default) (getD_mem zx)).ff.2.2.2.1.one, (hfn'.2 (s.inner.getD 0 default) (getD_mem zx)).ff.2.2.2.2.1.1.one, (hfn'.2 (s.inner.getD 0 default) (getD_mem zx)).ff.2.2.2.2.2.1.1.one, (hfn'.2 (s.inner.getD 0 default) (getD_mem zx)).ff.2.2.2.2.2.2.1.one, (hfn'.2 (s.inner.getD 0 default) (getD_mem zx)).nvr.one]; try rfl)) (by unfold maxLen; omega) zx hb.size ?_
   intro ac aj I M ak
   have := M.size
   have l := (l.keep0 ai).keepO ah M zz
   have z := z.keepG (Gr.of M) (z.notOwn ah zz zz).symm
   have S := (S.keep0 ai).keepO ah M zz
   have hb := below_stepO hb ah M hb.size zx
   have I : Own aj w.heap.size 68 15 ac (V ++ [(DVw.mk s.f.nm ag (normL s.f.tags) (s.inner.getD 0 default))]).length (((V ++ [(DVw.mk s.f.nm ag (normL s.f.tags) (s.inner.getD 0 default))])).flatMap cellsW) := by exact I.cast (by simp) (by simp [cellsW])
   refine kt_end rfl ⟨S, l⟩ ?_
   intro ao aj an l ak al am
   have ak := ak.trans ((by simp only [putsL_defers] : _ = _).trans T)
   obtain ⟨hb, _⟩ := yE hb aj
   have S := S.keep0 aj
   have I := I.keep0 aj
   have ao := (al 6 rfl).trans (zL p rfl t)
   have ap := (al 8 rfl).trans (zL p rfl Z)
   have Z : Sl an 183 ac := (zE ((am 11 _ 183 rfl rfl).1 rfl)).symm
   refine split_end (from_seq (tl := [_, _]) zz zy rfl (zM fld30_1 (zC l rfl ap) ?_))
   have F := S
   refine za (vs := [ac]) (cs' := [K, ac]) size28 (zA l rfl) (zC l rfl Z) I.cl rfl (by simp only [yA, yB, yC, yD, I.one]; try rfl) S (zI rfl) rfl ?_
   intro Z S K
   have := K.size
   have A := ((((((((A.keep0 r).keep0 C).keep0 y).keep0 U).keep0 ab).keep0 ai).keepO ah M zz).keep0 aj).keep K sB
   have J := ((((((((J.keep0 r).keep0 C).keep0 y).keep0 U).keep0 ab).keep0 ai).keepT ah M zz).keep0 aj).keepX F K zz
   have I := I.keepX F K zz
   have hb := below_step1 hb K hb.size zx
   refine zB (c _ _ (zF fun _ c => zH (zY agg30 rfl (zC l rfl ap) S ?_)))
   have ad := A
   refine zZ size30 (zC l rfl ao) (zA l rfl) rfl (by simp only [yA, yB, yC, yD, J.one, I.one]; try rfl) A rfl ?_
   intro y A r
   have := r.size
   have J := J.keepX ad r zz
   have z := ((z.kz aj).keepG (Gr.of K) (Dj.one X)).keepG (Gr.of r) (Dj.one H)
   have ae := (((ae.keepT ah M zz).keep0 aj).keepX F K zz).keepX ad r zz
   have I := I.keepX ad r zz
   have hb := below_step1 hb r hb.size zx
   refine zD rfl (zB (c _ _ (wp_ret (retD rfl ak (zC l rfl ao) agg30 rfl A (zA l rfl) ⟨_, rfl, ?_⟩))))
   have hV' := hV.keep0 (zQ hb)
   have he' := he.keep0 (zQ hb)
   have e9 : (addE (D.map DTab.t) (V.map DVw.nm) o s) = 0 := (addE_v af).trans (by unfold viewE; rw [if_neg O, if_neg (by rw [List.length_map]; omega), if_neg (fun h => h g), if_neg (fun h => h.elim (fun q => by omega) fun q => q (vkv_ok af W aa))])
   rw [e9]; exact ⟨hb, _, _, P, (V ++ [(DVw.mk s.f.nm ag (normL s.f.tags) (s.inner.getD 0 default))]), rfl, TabsR.fr z J, (VsFr.snoc (w := y) (L := L) (B := y.heap.size) (v := vv) (V := V) (d := (DVw.mk s.f.nm ag (normL s.f.tags) (s.inner.getD 0 default))) (hV'.mono (Nat.le_refl _) zx) (I.rdw.mono hL (Nat.le_refl _)) ⟨ae.rdw.mono hL (Nat.le_refl _), (he'.all _ (getD_mem zx)).mono (Nat.le_refl _) zx, Nat.le_trans (normL_len s.f.tags) zz⟩ zx), fun _ => ⟨by rw [R, addT_v zx], AddY.v zx rfl rfl rfl⟩, fun h => absurd rfl h⟩
  rw [aa]
  refine zS (j := 16) (dj := 156) (b := false) rfl rfl rfl (zA p rfl) (op_not (zA p rfl) (zd (zA p rfl) (zA p rfl) (zB (Y _ _ (wp_cond_true (zA p rfl) (zF fun _ Y => zH (zf (pv := []) (v := (Value.agg #[(.slice none 0 0), (.slice none 0 0)])) trivial zy (zZ size30 (zC p rfl t) (zA p rfl) rfl rfl A rfl ?_))))))))
  intro l A c
  have := c.size
  have hb := below_step1 hb c hb.size zx
  refine zD rfl (zB (Y _ _ (wp_ret (zO (zb (zO ( (retD rfl T (zC p rfl t) agg30 rfl A (zA p rfl) ⟨_, rfl, ?_⟩))))))))
  have e9 : (addE (D.map DTab.t) (V.map DVw.nm) o s) = 1 := (addE_v af).trans (by unfold viewE; rw [if_neg O, if_neg (by rw [List.length_map]; omega), if_neg (fun h => h g), if_pos (.inr (vkv_d aa))])
  rw [e9]; exact ⟨hb, _, _, [], [], rfl, ⟨RdC.nil _ _ _ _, fun _ h => (by cases h)⟩, VsFr.nil _ _ _, fun h => absurd h zz, fun _ => ⟨rfl, rfl⟩⟩
 have af := of_decide_eq_false af
 refine zF fun _ Q => zH (zf (pv := []) (v := (Value.agg #[(.slice none 0 0), (.slice none 0 0)])) trivial zy (zZ size30 (zC p rfl t) (zA p rfl) rfl rfl A rfl ?_))
 intro g A c
 have := c.size
 have hb := below_step1 hb c hb.size zx
 refine zD rfl (zB (Q _ _ (wp_ret (zb (zO ( (retD rfl T (zC p rfl t) agg30 rfl A (zA p rfl) ⟨_, rfl, ?_⟩)))))))
 have e9 : (addE (D.map DTab.t) (V.map DVw.nm) o s) = 1 := addE_5 zx
 rw [e9]; exact ⟨hb, _, _, [], [], rfl, ⟨RdC.nil _ _ _ _, fun _ h => (by cases h)⟩, VsFr.nil _ _ _, fun h => absurd h zz, fun _ => ⟨rfl, rfl⟩⟩
def SameEP (a : XE) : Prop := ∀ ⦃b : XE⦄ ⦃w : World⦄, XSame a b → XFr w 0 w.heap.size a → XFr w 0 w.heap.size b → Ret Tryz.prog 84 #[(Value.agg #[(Value.int .i64 a.op), (Value.int .i64 a.vk), (Value.int .i64 a.vi), (Value.string (bs a.vt)), (Value.string (bs a.tb)), (Value.string (bs a.nm)), a.av]), (Value.agg #[(Value.int .i64 b.op), (Value.int .i64 b.vk), (Value.int .i64 b.vi), (Value.string (bs b.vt)), (Value.string (bs b.tb)), (Value.string (bs b.nm)), b.av])] w (fun v' w' => Below w.heap.size w w' ∧ v' = .bool true)

theorem SameExprs_ret {v u : Value} {E EB : List XE} {w : World} (ih : ∀ a ∈ E, SameEP a) (hX : XsFr w 0 w.heap.size v E) (hY : XsFr w 0 w.heap.size u EB) (hs : XsSame E EB) : Ret Tryz.prog 61 #[v, u] w (fun v' w' => Below w.heap.size w w' ∧ v' = .bool true) := by
 have hR := hX.1
 have c := hY.1
 have hlm := hX.3
 have hln := hs.1
 have hb := Below.refl w.heap.size w
 refine enter (N := 27) Tryz.func61 rfl rfl (by simp) fun e hN hd hA => ?_
 have g : e.tmps.getD 0 undef = v := hA 0 (by simp)
 have h : e.tmps.getD 1 undef = u := hA 1 (by simp)
 clear hA
 refine zF fun _ e => zH (zD rfl (zB (e _ _ (zF fun _ e => zF fun _ k => zH (zG (zC hN rfl g) ?_)))))
 have hR' := hR.keep0 (zQ hb)
 refine op_len_rd Tryz.underlying33 (zA hN rfl) hR' (zG (zC hN rfl h) ?_)
 have l := c.keep0 (zQ hb)
 refine op_len_rd Tryz.underlying33 (zA hN rfl) l (op_cmp (b := false) (zA hN rfl) (zA hN rfl) (b_neq (decide_eq_false zx)) (zB (k _ _ (wp_cond_false (zA hN rfl) (wp_skip (e _ _ (zF fun _ e => zF fun _ k => zH (zD rfl (zB (k _ _ (wp_block (loop_m (fun mz_ az_ w' => ∃ (i : Nat), mz_ = E.length - i ∧ (Sl az_ 0 v) ∧ (Sl az_ 1 u) ∧ (Sl az_ 5 (.int .i64 ((i : Nat) : Int))) ∧ (i ≤ E.length) ∧ (Below w.heap.size w w') ∧ (w.heap.size ≤ w'.heap.size)) _ hN hd ⟨0, rfl, (zL hN rfl g), (zL hN rfl h), (zU hN rfl), (Nat.zero_le _), hb, (Nat.le_refl _)⟩ ?_))))))))))))
 rintro _ r s g p ⟨i, rfl, o, q, h, hi, hb, t⟩
 have := hb.size
 refine zF fun _ k => zF fun _ r => zH (zG (zC g rfl h) (zG (zC g rfl o) ?_))
 have hR' := hR.keep0 (zQ hb)
 refine op_len_rd Tryz.underlying33 (zA g rfl) hR' (op_lss (zA g rfl) (zA g rfl) (fun s => ?_) (fun s => ?_))
 ·
  refine zB (r _ _ (wp_cond_true (zA g rfl) (wp_skip (k _ _ (zF fun _ k => wp_block (zF fun _ r => reg_from mixed ?_))))))
  intro t s
  obtain ⟨hb, _⟩ := yE hb s
  refine from_still (m := 8) 8 (hd := [_, _, _, _, _, _, _, _]) zy rfl rfl (st_step rfl (fun _ s => zG (zC g rfl o) s) (st_step rfl (fun _ s => zG (zC g rfl h) s) ?_))
  have hR' := hR.keep0 (zQ hb)
  refine st_index_rd slt33 (zA g rfl) hR' (zA g rfl) zx zx ?_
  intro A z y x t
  refine st_step rfl (fun _ s => zX (cs := [(.int .i64 (E.getD i default).op), (.int .i64 (E.getD i default).vk), (.int .i64 (E.getD i default).vi), (.string (bs (E.getD i default).vt)), (.string (bs (E.getD i default).tb)), (.string (bs (E.getD i default).nm)), (E.getD i default).av]) agg89 rfl (zA g rfl) (fun j u hu => t j u (by have := (List.getElem?_eq_some_iff.1 hu).1; simpa using this) ((el_xe (i := i) zx zx) j u hu)) s) (st_step rfl (fun _ s => zG (zC g rfl q) s) (st_step rfl (fun _ s => zG (zC g rfl h) s) ?_))
  have l := c.keep0 (zQ hb)
  refine st_index_rd slt33 (zA g rfl) l (zA g rfl) zx zx ?_
  intro t x y l c
  refine st_step rfl (fun _ s => zX (cs := [(.int .i64 (EB.getD i default).op), (.int .i64 (EB.getD i default).vk), (.int .i64 (EB.getD i default).vi), (.string (bs (EB.getD i default).vt)), (.string (bs (EB.getD i default).tb)), (.string (bs (EB.getD i default).nm)), (EB.getD i default).av]) agg89 rfl (zA g rfl) (fun j u hu => c j u (by have := (List.getElem?_eq_some_iff.1 hu).1; simpa using this) ((el_xe (i := i) zx zx) j u hu)) s) (st_nil (from_seq (tl := [_, _]) zz zy rfl ?_))
  have hX' := hX.keep0 (zQ hb)
  have hY' := hY.keep0 (zQ hb)
  refine zj ok84 (ih _ (getD_mem zx) (hs.2 i zx) ((hX'.2 _ (getD_mem zx)).mono (Nat.zero_le _) zx) ((hY'.2 _ (getD_mem zx)).mono (Nat.zero_le _) zx)) ⟨(zA g rfl), ⟨(zA g rfl), trivial⟩⟩ ?_
  rintro _ l ⟨c, rfl⟩
  have c := zQ c
  obtain ⟨hb, _⟩ := yE hb c
  refine op_not (zA g rfl) (zB (r _ _ (wp_cond_false (zA g rfl) (wp_skip (k _ _ (zH (zG (zC g rfl h) (op_add (zA g rfl) rfl (add64 zx) (zD (zA g rfl) (zB ?_))))))))))
  -- round 14T
  exact zg _ g p ⟨(i + 1), rfl, (zL g rfl o), (zL g rfl q), (zU g rfl).trans (congrArg (Value.int .i64) zx), zx, hb, zx⟩ zx
 refine zB (r _ _ (wp_cond_false (zA g rfl) (wp_exit (then_exit (then_exit (blk_hit (e _ _ (zF fun _ e => zH (zD rfl (zB (e _ _ (wp_ret (ret1 rfl p (zA g rfl) ⟨_, rfl, ?_⟩)))))))))))))
 exact ⟨hb, rfl⟩

theorem SameExpr_in (a : XE) {bv : Value} {EB : List XE} {w : World} (ih : ∀ x ∈ a.args, SameEP x) (hX : XsFr w 0 w.heap.size a.av a.args) (hY : XsFr w 0 w.heap.size bv EB) (hs : XsSame a.args EB) : Ret Tryz.prog 84 #[(.agg #[(.int .i64 a.op), (.int .i64 a.vk), (.int .i64 a.vi), (.string (bs a.vt)), (.string (bs a.tb)), (.string (bs a.nm)), a.av]), (.agg #[(.int .i64 a.op), (.int .i64 a.vk), (.int .i64 a.vi), (.string (bs a.vt)), (.string (bs a.tb)), (.string (bs a.nm)), bv])] w (fun v' w' => Below w.heap.size w w' ∧ v' = .bool true) := by
 have hR := hX.1
 have c := hY.1
 have hlm := hX.3
 have hln := hs.1
 have hb := Below.refl w.heap.size w
 refine enter (N := 45) Tryz.func84 rfl rfl (by simp) fun e hN hd hA => ?_
 have g : e.tmps.getD 0 undef = (.agg #[(.int .i64 a.op), (.int .i64 a.vk), (.int .i64 a.vi), (.string (bs a.vt)), (.string (bs a.tb)), (.string (bs a.nm)), a.av]) := hA 0 (by simp)
 have k : e.tmps.getD 1 undef = (.agg #[(.int .i64 a.op), (.int .i64 a.vk), (.int .i64 a.vi), (.string (bs a.vt)), (.string (bs a.tb)), (.string (bs a.nm)), bv]) := hA 1 (by simp)
 clear hA
 refine zF fun _ e => zH (op_box (cs := [(.int .i64 a.op), (.int .i64 a.vk), (.int .i64 a.vi), (.string (bs a.vt)), (.string (bs a.tb)), (.string (bs a.nm)), a.av]) (zC hN rfl g) rfl ?_)
 intro p q m o g l
 obtain ⟨hb, _⟩ := yE hb l
 refine op_box (cs := [(.int .i64 a.op), (.int .i64 a.vk), (.int .i64 a.vi), (.string (bs a.vt)), (.string (bs a.tb)), (.string (bs a.nm)), bv]) (zC hN rfl k) rfl ?_
 intro o m p q k l
 obtain ⟨hb, _⟩ := yE hb l
 have g := g.keep0 l
 refine zD rfl (zB ?_)
 refine e _ _ (zF fun _ e => zF fun _ l => zH (zM fld89_0 (zA hN rfl) (zN one3 (zA hN rfl) (g.cell rfl) (zM fld89_0 (zA hN rfl) (zN one3 (zA hN rfl) (k.cell rfl) (op_cmp (b := false) (zA hN rfl) (zA hN rfl) (b_neq (decide_eq_false (fun h => h rfl))) (zG (zA hN rfl) (zS (j := 5) (dj := 10) (b := false) rfl rfl rfl (zA hN rfl) ?_))))))))
 refine zM fld89_1 (zA hN rfl) (zS (j := 5) (dj := 10) (b := false) rfl rfl rfl (zA hN rfl) (zX (cs := [(.int .i64 a.vk), (.int .i64 a.vi), (.string (bs a.vt))]) agg87 rfl (zA hN rfl) (fun j u hu => g.cell (at_pre9 (pre := [(.int .i64 a.op)]) (suf := [(.string (bs a.tb)), (.string (bs a.nm)), a.av]) hu)) (zS (j := 5) (dj := 10) (b := false) rfl rfl rfl (zA hN rfl) (zM fld89_1 (zA hN rfl) (zS (j := 5) (dj := 10) (b := false) rfl rfl rfl (zA hN rfl) (zX (cs := [(.int .i64 a.vk), (.int .i64 a.vi), (.string (bs a.vt))]) agg87 rfl (zA hN rfl) (fun j u hu => k.cell (at_pre9 (pre := [(.int .i64 a.op)]) (suf := [(.string (bs a.tb)), (.string (bs a.nm)), bv]) hu)) (zS (j := 5) (dj := 10) (b := false) rfl rfl rfl (zA hN rfl) (op_aneq (xs := [(.int .i64 a.vk), (.int .i64 a.vi), (.string (bs a.vt))]) (ys := [(.int .i64 a.vk), (.int .i64 a.vi), (.string (bs a.vt))]) (b' := false) (zA hN rfl) (zA hN rfl) (eq87 a.vk a.vk a.vi a.vi a.vt a.vt) (by rw [decide_eq_true ⟨rfl, rfl, rfl⟩]; rfl) (zd (zA hN rfl) (zA hN rfl) ?_)))))))))
 refine zG (zA hN rfl) (zS (j := 12) (dj := 17) (b := false) rfl rfl rfl (zA hN rfl) (zM fld89_2 (zA hN rfl) (zS (j := 12) (dj := 17) (b := false) rfl rfl rfl (zA hN rfl) (zN one9 (zA hN rfl) (g.cell rfl) (zS (j := 12) (dj := 17) (b := false) rfl rfl rfl (zA hN rfl) (zM fld89_2 (zA hN rfl) (zS (j := 12) (dj := 17) (b := false) rfl rfl rfl (zA hN rfl) (zN one9 (zA hN rfl) (k.cell rfl) (zS (j := 12) (dj := 17) (b := false) rfl rfl rfl (zA hN rfl) ?_)))))))))
 refine op_sneqb (b := false) (zA hN rfl) (zA hN rfl) (decide_eq_false (fun h => h rfl)) (zd (zA hN rfl) (zA hN rfl) (zG (zA hN rfl) (zS (j := 19) (dj := 24) (b := false) rfl rfl rfl (zA hN rfl) (zM fld89_3 (zA hN rfl) (zS (j := 19) (dj := 24) (b := false) rfl rfl rfl (zA hN rfl) (zN one9 (zA hN rfl) (g.cell rfl) (zS (j := 19) (dj := 24) (b := false) rfl rfl rfl (zA hN rfl) (zM fld89_3 (zA hN rfl) (zS (j := 19) (dj := 24) (b := false) rfl rfl rfl (zA hN rfl) ?_)))))))))
 refine zN one9 (zA hN rfl) (k.cell rfl) (zS (j := 19) (dj := 24) (b := false) rfl rfl rfl (zA hN rfl) (op_sneqb (b := false) (zA hN rfl) (zA hN rfl) (decide_eq_false (fun h => h rfl)) (zd (zA hN rfl) (zA hN rfl) (zG (zA hN rfl) (zS (j := 26) (dj := 31) (b := false) rfl rfl rfl (zA hN rfl) (zM fld89_4 (zA hN rfl) (zS (j := 26) (dj := 31) (b := false) rfl rfl rfl (zA hN rfl) (zN one33 (zA hN rfl) (g.cell rfl) (zS (j := 26) (dj := 31) (b := false) rfl rfl rfl (zA hN rfl) ?_)))))))))
 have hR' := hR.keep0 (zQ hb)
 refine op_len_rd Tryz.underlying33 (zA hN rfl) hR' (zS (j := 26) (dj := 31) (b := false) rfl rfl rfl (zA hN rfl) (zM fld89_4 (zA hN rfl) (zS (j := 26) (dj := 31) (b := false) rfl rfl rfl (zA hN rfl) (zN one33 (zA hN rfl) (k.cell rfl) (zS (j := 26) (dj := 31) (b := false) rfl rfl rfl (zA hN rfl) ?_)))))
 have m := c.keep0 (zQ hb)
 refine op_len_rd Tryz.underlying33 (zA hN rfl) m ?_
 refine zS (j := 26) (dj := 31) (b := false) rfl rfl rfl (zA hN rfl) (op_cmp (b := false) (zA hN rfl) (zA hN rfl) (b_neq (decide_eq_false zx)) (zd (zA hN rfl) (zA hN rfl) (zB (l _ _ (wp_cond_false (zA hN rfl) (wp_skip (e _ _ (zF fun _ e => zH (zM fld89_4 (zA hN rfl) (zN one33 (zA hN rfl) (g.cell rfl) (zM fld89_4 (zA hN rfl) (zN one33 (zA hN rfl) (k.cell rfl) ?_))))))))))))
 have hX' := hX.keep0 (zQ hb)
 have hY' := hY.keep0 (zQ hb)
 refine zj ok61 (SameExprs_ret ih (hX'.mono (Nat.zero_le _) zx) (hY'.mono (Nat.zero_le _) zx) hs) ⟨(zA hN rfl), ⟨(zA hN rfl), trivial⟩⟩ ?_
 rintro _ g ⟨c, rfl⟩
 have c := zQ c
 obtain ⟨hb, _⟩ := yE hb c
 refine zD (zA hN rfl) (zB (e _ _ (wp_ret (ret1 rfl hd (zA hN rfl) ⟨_, rfl, ?_⟩))))
 exact ⟨hb, rfl⟩

theorem SameE_all : ∀ a, SameEP a := XE.ind fun a ih b w h hx hy => by
  cases h with | mk h hl hs =>
    obtain ⟨h1, h2, h3, h4, h5, h6⟩ := h
    have := SameExpr_in a ih hx.list hy.list ⟨hl, hs⟩
    rw [← h1, ← h2, ← h3, ← h4, ← h5, ← h6]; exact this
def SameSP (s : XS) : Prop := ∀ ⦃t : XS⦄ ⦃w : World⦄, SSame s t → SFr w 0 w.heap.size s → SFr w 0 w.heap.size t → Ret Tryz.prog 36 #[(Value.agg #[(Value.int .i64 s.f.kind), (Value.string (bs s.f.tb)), (Value.string (bs s.f.nm)), s.f.cv, s.f.gv, s.f.vv, s.f.iv, (Value.string (bs s.f.join)), s.f.ov, s.f.wv, s.f.rv, (Value.bool s.f.desc), s.nv]), (Value.agg #[(Value.int .i64 t.f.kind), (Value.string (bs t.f.tb)), (Value.string (bs t.f.nm)), t.f.cv, t.f.gv, t.f.vv, t.f.iv, (Value.string (bs t.f.join)), t.f.ov, t.f.wv, t.f.rv, (Value.bool t.f.desc), t.nv])] w (fun v' w' => Below w.heap.size w w' ∧ v' = .bool true)

theorem SameStmt_in (s t : XS) {w : World} (ih : ∀ a ∈ s.inner, SameSP a) (hx : SFr w 0 w.heap.size s) (hy : SFr w 0 w.heap.size t) (hF : FSame s.f t.f) (hl : s.inner.length = t.inner.length) (hs : ∀ i, i < s.inner.length → SSame (s.inner.getD i default) (t.inner.getD i default)) : Ret Tryz.prog 36 #[(.agg #[(.int .i64 s.f.kind), (.string (bs s.f.tb)), (.string (bs s.f.nm)), s.f.cv, s.f.gv, s.f.vv, s.f.iv, (.string (bs s.f.join)), s.f.ov, s.f.wv, s.f.rv, (.bool s.f.desc), s.nv]), (.agg #[(.int .i64 s.f.kind), (.string (bs s.f.tb)), (.string (bs s.f.nm)), t.f.cv, t.f.gv, t.f.vv, t.f.iv, (.string (bs s.f.join)), t.f.ov, t.f.wv, t.f.rv, (.bool s.f.desc), t.nv])] w (fun v' w' => Below w.heap.size w w' ∧ v' = .bool true) := by
 obtain ⟨hfc, hfg, hfv, hfi, hfo, hfw, hfr⟩ := hx.ff
 have hfn := hx.inn
 obtain ⟨⟨e, k, g⟩, c⟩ := hx.sm
 obtain ⟨hgc, hgg, hgv, hgi, hgo, hgw, hgr⟩ := hy.ff
 have hgn := hy.inn
 have hgnR := hgn.1
 have hfnR := hfn.1
 obtain ⟨_, _, _, g, e, hqv, c, _, hqo, hqw, hqr, _⟩ := hF
 rw [← g] at hgc
 rw [← e] at hgg
 rw [← c] at hgi
 have hb := Below.refl w.heap.size w
 refine enter (N := 177) Tryz.func36 rfl rfl (by simp) fun c hN hd hA => ?_
 have e : c.tmps.getD 0 undef = (.agg #[(.int .i64 s.f.kind), (.string (bs s.f.tb)), (.string (bs s.f.nm)), s.f.cv, s.f.gv, s.f.vv, s.f.iv, (.string (bs s.f.join)), s.f.ov, s.f.wv, s.f.rv, (.bool s.f.desc), s.nv]) := hA 0 (by simp)
 have g : c.tmps.getD 1 undef = (.agg #[(.int .i64 s.f.kind), (.string (bs s.f.tb)), (.string (bs s.f.nm)), t.f.cv, t.f.gv, t.f.vv, t.f.iv, (.string (bs s.f.join)), t.f.ov, t.f.wv, t.f.rv, (.bool s.f.desc), t.nv]) := hA 1 (by simp)
 clear hA
 refine zF fun _ c => zH (op_box (cs := [(.int .i64 s.f.kind), (.string (bs s.f.tb)), (.string (bs s.f.nm)), s.f.cv, s.f.gv, s.f.vv, s.f.iv, (.string (bs s.f.join)), s.f.ov, s.f.wv, s.f.rv, (.bool s.f.desc), s.nv]) (zC hN rfl e) rfl ?_)
 intro o k p q e l
 obtain ⟨hb, _⟩ := yE hb l
 refine op_box (cs := [(.int .i64 s.f.kind), (.string (bs s.f.tb)), (.string (bs s.f.nm)), t.f.cv, t.f.gv, t.f.vv, t.f.iv, (.string (bs s.f.join)), t.f.ov, t.f.wv, t.f.rv, (.bool s.f.desc), t.nv]) (zC hN rfl g) rfl ?_
 intro p l q r g o
 obtain ⟨hb, _⟩ := yE hb o
 have e := e.keep0 o
 refine zD rfl (zB (c _ _ (zF fun _ c => zF fun _ o => zH (zM fld37_0 (zA hN rfl) (zN one3 (zA hN rfl) (e.cell rfl) ?_)))))
 refine zM fld37_0 (zA hN rfl) (zN one3 (zA hN rfl) (g.cell rfl) (op_cmp (b := false) (zA hN rfl) (zA hN rfl) (b_neq (decide_eq_false (fun h => h rfl))) (zG (zA hN rfl) (zS (j := 5) (dj := 14) (b := false) rfl rfl rfl (zA hN rfl) (zM fld37_1 (zA hN rfl) (zS (j := 5) (dj := 14) (b := false) rfl rfl rfl (zA hN rfl) (zN one9 (zA hN rfl) (e.cell rfl) (zS (j := 5) (dj := 14) (b := false) rfl rfl rfl (zA hN rfl) (zM fld37_1 (zA hN rfl) ?_)))))))))
 refine zS (j := 5) (dj := 14) (b := false) rfl rfl rfl (zA hN rfl) (zN one9 (zA hN rfl) (g.cell rfl) (zS (j := 5) (dj := 14) (b := false) rfl rfl rfl (zA hN rfl) (op_sneqb (b := false) (zA hN rfl) (zA hN rfl) (decide_eq_false (fun h => h rfl)) (zd (zA hN rfl) (zA hN rfl) (zG (zA hN rfl) (zS (j := 12) (dj := 21) (b := false) rfl rfl rfl (zA hN rfl) (zM fld37_2 (zA hN rfl) (zS (j := 12) (dj := 21) (b := false) rfl rfl rfl (zA hN rfl) (zN one9 (zA hN rfl) (e.cell rfl) ?_)))))))))
 refine zS (j := 12) (dj := 21) (b := false) rfl rfl rfl (zA hN rfl) (zM fld37_2 (zA hN rfl) (zS (j := 12) (dj := 21) (b := false) rfl rfl rfl (zA hN rfl) (zN one9 (zA hN rfl) (g.cell rfl) (zS (j := 12) (dj := 21) (b := false) rfl rfl rfl (zA hN rfl) (op_sneqb (b := false) (zA hN rfl) (zA hN rfl) (decide_eq_false (fun h => h rfl)) (zd (zA hN rfl) (zA hN rfl) (zG (zA hN rfl) (zS (j := 19) (dj := 28) (b := false) rfl rfl rfl (zA hN rfl) (zM fld37_7 (zA hN rfl) ?_)))))))))
 refine zS (j := 19) (dj := 28) (b := false) rfl rfl rfl (zA hN rfl) (zN one9 (zA hN rfl) (e.cell rfl) (zS (j := 19) (dj := 28) (b := false) rfl rfl rfl (zA hN rfl) (zM fld37_7 (zA hN rfl) (zS (j := 19) (dj := 28) (b := false) rfl rfl rfl (zA hN rfl) (zN one9 (zA hN rfl) (g.cell rfl) (zS (j := 19) (dj := 28) (b := false) rfl rfl rfl (zA hN rfl) (op_sneqb (b := false) (zA hN rfl) (zA hN rfl) (decide_eq_false (fun h => h rfl)) (zd (zA hN rfl) (zA hN rfl) (zG (zA hN rfl) ?_)))))))))
 refine zS (j := 26) (dj := 35) (b := false) rfl rfl rfl (zA hN rfl) (zM fld37_11 (zA hN rfl) (zS (j := 26) (dj := 35) (b := false) rfl rfl rfl (zA hN rfl) (zN one4 (zA hN rfl) (e.cell rfl) (zS (j := 26) (dj := 35) (b := false) rfl rfl rfl (zA hN rfl) (zM fld37_11 (zA hN rfl) (zS (j := 26) (dj := 35) (b := false) rfl rfl rfl (zA hN rfl) (zN one4 (zA hN rfl) (g.cell rfl) (zS (j := 26) (dj := 35) (b := false) rfl rfl rfl (zA hN rfl) (op_neb Tryz.underlying4 (zA hN rfl) (zA hN rfl) ?_)))))))))
 rw [show (s.f.desc != s.f.desc) = false from bne_self_eq_false _]
 refine zd (zA hN rfl) (zA hN rfl) (zG (zA hN rfl) (zS (j := 33) (dj := 42) (b := false) rfl rfl rfl (zA hN rfl) (zM fld37_3 (zA hN rfl) (zS (j := 33) (dj := 42) (b := false) rfl rfl rfl (zA hN rfl) (zN one32 (zA hN rfl) (e.cell rfl) (zS (j := 33) (dj := 42) (b := false) rfl rfl rfl (zA hN rfl) ?_))))))
 have hfc' := hfc.keep0 (zQ hb)
 refine op_len_rd Tryz.underlying32 (zA hN rfl) hfc' (zS (j := 33) (dj := 42) (b := false) rfl rfl rfl (zA hN rfl) (zM fld37_3 (zA hN rfl) (zS (j := 33) (dj := 42) (b := false) rfl rfl rfl (zA hN rfl) (zN one32 (zA hN rfl) (g.cell rfl) (zS (j := 33) (dj := 42) (b := false) rfl rfl rfl (zA hN rfl) ?_)))))
 have hgc' := hgc.keep0 (zQ hb)
 refine op_len_rd Tryz.underlying32 (zA hN rfl) hgc' (zS (j := 33) (dj := 42) (b := false) rfl rfl rfl (zA hN rfl) (op_cmp (b := false) (zA hN rfl) (zA hN rfl) (b_neq (decide_eq_false (fun h => h rfl))) (zd (zA hN rfl) (zA hN rfl) (zG (zA hN rfl) (zS (j := 42) (dj := 51) (b := false) rfl rfl rfl (zA hN rfl) (zM fld37_4 (zA hN rfl) (zS (j := 42) (dj := 51) (b := false) rfl rfl rfl (zA hN rfl) (zN one23 (zA hN rfl) (e.cell rfl) (zS (j := 42) (dj := 51) (b := false) rfl rfl rfl (zA hN rfl) ?_)))))))))
 have hfg' := hfg.keep0 (zQ hb)
 refine op_len_rd Tryz.underlying23 (zA hN rfl) hfg' (zS (j := 42) (dj := 51) (b := false) rfl rfl rfl (zA hN rfl) (zM fld37_4 (zA hN rfl) (zS (j := 42) (dj := 51) (b := false) rfl rfl rfl (zA hN rfl) (zN one23 (zA hN rfl) (g.cell rfl) (zS (j := 42) (dj := 51) (b := false) rfl rfl rfl (zA hN rfl) ?_)))))
 have hgg' := hgg.keep0 (zQ hb)
 refine op_len_rd Tryz.underlying23 (zA hN rfl) hgg' (zS (j := 42) (dj := 51) (b := false) rfl rfl rfl (zA hN rfl) (op_cmp (b := false) (zA hN rfl) (zA hN rfl) (b_neq (decide_eq_false (fun h => h rfl))) (zd (zA hN rfl) (zA hN rfl) (zG (zA hN rfl) (zS (j := 51) (dj := 60) (b := false) rfl rfl rfl (zA hN rfl) (zM fld37_6 (zA hN rfl) (zS (j := 51) (dj := 60) (b := false) rfl rfl rfl (zA hN rfl) (zN one34 (zA hN rfl) (e.cell rfl) (zS (j := 51) (dj := 60) (b := false) rfl rfl rfl (zA hN rfl) ?_)))))))))
 have hfi' := hfi.keep0 (zQ hb)
 refine op_len_rd Tryz.underlying34 (zA hN rfl) hfi' (zS (j := 51) (dj := 60) (b := false) rfl rfl rfl (zA hN rfl) (zM fld37_6 (zA hN rfl) (zS (j := 51) (dj := 60) (b := false) rfl rfl rfl (zA hN rfl) (zN one34 (zA hN rfl) (g.cell rfl) (zS (j := 51) (dj := 60) (b := false) rfl rfl rfl (zA hN rfl) ?_)))))
 have hgi' := hgi.keep0 (zQ hb)
 refine op_len_rd Tryz.underlying34 (zA hN rfl) hgi' (zS (j := 51) (dj := 60) (b := false) rfl rfl rfl (zA hN rfl) (op_cmp (b := false) (zA hN rfl) (zA hN rfl) (b_neq (decide_eq_false (fun h => h rfl))) (zd (zA hN rfl) (zA hN rfl) (zG (zA hN rfl) (zS (j := 60) (dj := 69) (b := false) rfl rfl rfl (zA hN rfl) (zM fld37_12 (zA hN rfl) (zS (j := 60) (dj := 69) (b := false) rfl rfl rfl (zA hN rfl) (zN one35 (zA hN rfl) (e.cell rfl) (zS (j := 60) (dj := 69) (b := false) rfl rfl rfl (zA hN rfl) ?_)))))))))
 have hfnR' := hfnR.keep0 (zQ hb)
 refine op_len_rd Tryz.underlying35 (zA hN rfl) hfnR' (zS (j := 60) (dj := 69) (b := false) rfl rfl rfl (zA hN rfl) (zM fld37_12 (zA hN rfl) (zS (j := 60) (dj := 69) (b := false) rfl rfl rfl (zA hN rfl) (zN one35 (zA hN rfl) (g.cell rfl) (zS (j := 60) (dj := 69) (b := false) rfl rfl rfl (zA hN rfl) ?_)))))
 have hgnR' := hgnR.keep0 (zQ hb)
 refine op_len_rd Tryz.underlying35 (zA hN rfl) hgnR' (zS (j := 60) (dj := 69) (b := false) rfl rfl rfl (zA hN rfl) ?_)
 refine op_cmp (b := false) (zA hN rfl) (zA hN rfl) (b_neq (decide_eq_false zx)) (zd (zA hN rfl) (zA hN rfl) (zB (o _ _ (wp_cond_false (zA hN rfl) (wp_skip (c _ _ (zF fun _ c => zF fun _ o => zH (zD rfl (zB (o _ _ (wp_block (loop_m (fun mz_ az_ w' => ∃ (q : Nat), mz_ = s.f.cols.length - q ∧ (Sl az_ 2 (ptr k 0)) ∧ (Sl az_ 3 (ptr l 0)) ∧ (Sl az_ 5 (.int .i64 ((q : Nat) : Int))) ∧ (q ≤ s.f.cols.length) ∧ (Below w.heap.size w w') ∧ (p.heap.size ≤ w'.heap.size) ∧ (Bx w' k 37 [(.int .i64 s.f.kind), (.string (bs s.f.tb)), (.string (bs s.f.nm)), s.f.cv, s.f.gv, s.f.vv, s.f.iv, (.string (bs s.f.join)), s.f.ov, s.f.wv, s.f.rv, (.bool s.f.desc), s.nv]) ∧ (Bx w' l 37 [(.int .i64 s.f.kind), (.string (bs s.f.tb)), (.string (bs s.f.nm)), t.f.cv, t.f.gv, t.f.vv, t.f.iv, (.string (bs s.f.join)), t.f.ov, t.f.wv, t.f.rv, (.bool s.f.desc), t.nv])) _ hN hd ⟨0, rfl, (zU hN rfl), (zU hN rfl), (zU hN rfl), (Nat.zero_le _), hb, (Nat.le_refl _), e, g⟩ ?_))))))))))))
 rintro _ D A p z ⟨q, rfl, x, y, r, B, hb, C, e, g⟩
 have := hb.size
 refine zF fun _ o => zF fun _ B => zH (zG (zC p rfl r) (zM fld37_3 (zC p rfl x) (zN one32 (zA p rfl) (e.cell rfl) ?_)))
 have hfc' := hfc.keep0 (zQ hb)
 refine op_len_rd Tryz.underlying32 (zA p rfl) hfc' (op_lss (zA p rfl) (zA p rfl) (fun C => ?_) (fun C => ?_))
 ·
  refine zB (B _ _ (wp_cond_true (zA p rfl) (wp_skip (o _ _ (zF fun _ o => wp_block (zF fun _ B => reg_still mixed zy ?_))))))
  intro D C
  obtain ⟨hb, _⟩ := yE hb C
  obtain ⟨e, g⟩ := kb2 C e g
  refine st_step rfl (fun _ C => zM fld37_3 (zC p rfl x) C) (st_step rfl (fun _ C => zN one32 (zA p rfl) (e.cell rfl) C) (st_step rfl (fun _ C => zG (zC p rfl r) C) ?_))
  have hfc' := hfc.keep0 (zQ hb)
  refine st_index_rd slt32 (zA p rfl) hfc' (zA p rfl) zx zx ?_
  intro G H E F D
  refine st_step rfl (fun _ C => zX (cs := [(.string (bs (s.f.cols.getD q default).nm)), (.int .i64 (s.f.cols.getD q default).kind), (.string (bs (s.f.cols.getD q default).ref))]) agg48 rfl (zA p rfl) (fun j u hu => D j u (by have := (List.getElem?_eq_some_iff.1 hu).1; simpa using this) ((el_pc (i := q) zx zx) j u hu)) C) (st_step rfl (fun _ C => zM fld37_3 (zC p rfl y) C) (st_step rfl (fun _ C => zN one32 (zA p rfl) (g.cell rfl) C) (st_step rfl (fun _ C => zG (zC p rfl r) C) ?_)))
  have hgc' := hgc.keep0 (zQ hb)
  refine st_index_rd slt32 (zA p rfl) hgc' (zA p rfl) zx zx ?_
  intro F G E H D
  refine st_step rfl (fun _ C => zX (cs := [(.string (bs (s.f.cols.getD q default).nm)), (.int .i64 (s.f.cols.getD q default).kind), (.string (bs (s.f.cols.getD q default).ref))]) agg48 rfl (zA p rfl) (fun j u hu => D j u (by have := (List.getElem?_eq_some_iff.1 hu).1; simpa using this) ((el_pc (i := q) zx zx) j u hu)) C) (st_step rfl (fun _ C => op_aneq (xs := [(.string (bs (s.f.cols.getD q default).nm)), (.int .i64 (s.f.cols.getD q default).kind), (.string (bs (s.f.cols.getD q default).ref))]) (ys := [(.string (bs (s.f.cols.getD q default).nm)), (.int .i64 (s.f.cols.getD q default).kind), (.string (bs (s.f.cols.getD q default).ref))]) (b' := false) (zA p rfl) (zA p rfl) (eq48 (s.f.cols.getD q default).nm (s.f.cols.getD q default).nm (s.f.cols.getD q default).kind (s.f.cols.getD q default).kind (s.f.cols.getD q default).ref (s.f.cols.getD q default).ref) (by rw [decide_eq_true ⟨rfl, rfl, rfl⟩]; rfl) C) (st_nil (B _ _ (wp_cond_false (zA p rfl) (wp_skip (o _ _ (zH (zG (zC p rfl r) (op_add (zA p rfl) rfl (add64 zx) (zD (zA p rfl) (zB ?_)))))))))))
  -- round 82T
  exact zg _ p z ⟨(q + 1), rfl, (zL p rfl x), (zL p rfl y), (zU p rfl).trans (congrArg (Value.int .i64) zx), zx, hb, zx, e, g⟩ zx
 refine zB (B _ _ (wp_cond_false (zA p rfl) (wp_exit (then_exit (then_exit (blk_hit (c _ _ (zF fun _ c => zF fun _ o => zH (zD rfl (zB (o _ _ (wp_block (loop_m (fun mz_ az_ w' => ∃ (q : Nat), mz_ = s.f.tags.length - q ∧ (Sl az_ 2 (ptr k 0)) ∧ (Sl az_ 3 (ptr l 0)) ∧ (Sl az_ 6 (.int .i64 ((q : Nat) : Int))) ∧ (q ≤ s.f.tags.length) ∧ (Below w.heap.size w w') ∧ (A.heap.size ≤ w'.heap.size) ∧ (Bx w' k 37 [(.int .i64 s.f.kind), (.string (bs s.f.tb)), (.string (bs s.f.nm)), s.f.cv, s.f.gv, s.f.vv, s.f.iv, (.string (bs s.f.join)), s.f.ov, s.f.wv, s.f.rv, (.bool s.f.desc), s.nv]) ∧ (Bx w' l 37 [(.int .i64 s.f.kind), (.string (bs s.f.tb)), (.string (bs s.f.nm)), t.f.cv, t.f.gv, t.f.vv, t.f.iv, (.string (bs s.f.join)), t.f.ov, t.f.wv, t.f.rv, (.bool s.f.desc), t.nv])) _ p z ⟨0, rfl, (zL p rfl x), (zL p rfl y), (zU p rfl), (Nat.zero_le _), hb, (Nat.le_refl _), e, g⟩ ?_)))))))))))))
 rintro _ E A p z ⟨q, rfl, x, y, r, F, hb, D, e, g⟩
 have := hb.size
 refine zF fun _ o => zF fun _ B => zH (zG (zC p rfl r) (zM fld37_4 (zC p rfl x) (zN one23 (zA p rfl) (e.cell rfl) ?_)))
 have hfg' := hfg.keep0 (zQ hb)
 refine op_len_rd Tryz.underlying23 (zA p rfl) hfg' (op_lss (zA p rfl) (zA p rfl) (fun D => ?_) (fun D => ?_))
 ·
  refine zB (B _ _ (wp_cond_true (zA p rfl) (wp_skip (o _ _ (zF fun _ o => wp_block (zF fun _ B => reg_still mixed zy ?_))))))
  intro E D
  obtain ⟨hb, _⟩ := yE hb D
  obtain ⟨e, g⟩ := kb2 D e g
  refine st_step rfl (fun _ C => zM fld37_4 (zC p rfl x) C) (st_step rfl (fun _ C => zN one23 (zA p rfl) (e.cell rfl) C) (st_step rfl (fun _ C => zG (zC p rfl r) C) ?_))
  have hfg' := hfg.keep0 (zQ hb)
  refine st_index_rd slt23 (zA p rfl) hfg' (zA p rfl) zx zx ?_
  intro F E G H D
  refine st_step rfl (fun _ C => zN (v := (Value.int .u16 ((s.f.tags.getD q 0).toNat : Int))) one56 (zA p rfl) (by have := D 0 (.int .u16 ((s.f.tags.getD q 0).toNat : Int)) zz (el_u16 (i := q) zx zx); simpa using this) C) (st_step rfl (fun _ C => zM fld37_4 (zC p rfl y) C) (st_step rfl (fun _ C => zN one23 (zA p rfl) (g.cell rfl) C) (st_step rfl (fun _ C => zG (zC p rfl r) C) ?_)))
  have hgg' := hgg.keep0 (zQ hb)
  refine st_index_rd slt23 (zA p rfl) hgg' (zA p rfl) zx zx ?_
  intro F G H E D
  refine st_step rfl (fun _ C => zN (v := (Value.int .u16 ((s.f.tags.getD q 0).toNat : Int))) one56 (zA p rfl) (by have := D 0 (.int .u16 ((s.f.tags.getD q 0).toNat : Int)) zz (el_u16 (i := q) zx zx); simpa using this) C) (st_step rfl (fun _ C => op_cmp (b := false) (zA p rfl) (zA p rfl) (b_neq (decide_eq_false (fun h => h rfl))) C) (st_nil (B _ _ (wp_cond_false (zA p rfl) (wp_skip (o _ _ (zH (zG (zC p rfl r) (op_add (zA p rfl) rfl (add64 zx) (zD (zA p rfl) (zB ?_)))))))))))
  -- round 82F 100T
  exact zg _ p z ⟨(q + 1), rfl, (zL p rfl x), (zL p rfl y), (zU p rfl).trans (congrArg (Value.int .i64) zx), zx, hb, zx, e, g⟩ zx
 refine zB (B _ _ (wp_cond_false (zA p rfl) (wp_exit (then_exit (then_exit (blk_hit (c _ _ (zF fun _ c => zF fun _ o => zH (zD rfl (zB (o _ _ (wp_block (loop_m (fun mz_ az_ w' => ∃ (q : Nat), mz_ = s.f.items.length - q ∧ (Sl az_ 2 (ptr k 0)) ∧ (Sl az_ 3 (ptr l 0)) ∧ (Sl az_ 7 (.int .i64 ((q : Nat) : Int))) ∧ (q ≤ s.f.items.length) ∧ (Below w.heap.size w w') ∧ (A.heap.size ≤ w'.heap.size) ∧ (Bx w' k 37 [(.int .i64 s.f.kind), (.string (bs s.f.tb)), (.string (bs s.f.nm)), s.f.cv, s.f.gv, s.f.vv, s.f.iv, (.string (bs s.f.join)), s.f.ov, s.f.wv, s.f.rv, (.bool s.f.desc), s.nv]) ∧ (Bx w' l 37 [(.int .i64 s.f.kind), (.string (bs s.f.tb)), (.string (bs s.f.nm)), t.f.cv, t.f.gv, t.f.vv, t.f.iv, (.string (bs s.f.join)), t.f.ov, t.f.wv, t.f.rv, (.bool s.f.desc), t.nv])) _ p z ⟨0, rfl, (zL p rfl x), (zL p rfl y), (zU p rfl), (Nat.zero_le _), hb, (Nat.le_refl _), e, g⟩ ?_)))))))))))))
 rintro _ E A p z ⟨q, rfl, x, y, r, D, hb, F, e, g⟩
 have := hb.size
 refine zF fun _ o => zF fun _ B => zH (zG (zC p rfl r) (zM fld37_6 (zC p rfl x) (zN one34 (zA p rfl) (e.cell rfl) ?_)))
 have hfi' := hfi.keep0 (zQ hb)
 refine op_len_rd Tryz.underlying34 (zA p rfl) hfi' (op_lss (zA p rfl) (zA p rfl) (fun D => ?_) (fun D => ?_))
 ·
  refine zB (B _ _ (wp_cond_true (zA p rfl) (wp_skip (o _ _ (zF fun _ o => wp_block (zF fun _ B => reg_still mixed zy ?_))))))
  intro E D
  obtain ⟨hb, _⟩ := yE hb D
  obtain ⟨e, g⟩ := kb2 D e g
  refine st_step rfl (fun _ C => zM fld37_6 (zC p rfl x) C) (st_step rfl (fun _ C => zN one34 (zA p rfl) (e.cell rfl) C) (st_step rfl (fun _ C => zG (zC p rfl r) C) ?_))
  have hfi' := hfi.keep0 (zQ hb)
  refine st_index_rd slt34 (zA p rfl) hfi' (zA p rfl) zx zx ?_
  intro H E G F D
  refine st_step rfl (fun _ C => zX (cs := [(.int .i64 (s.f.items.getD q default).agg), (.string (bs (s.f.items.getD q default).tb)), (.string (bs (s.f.items.getD q default).nm))]) agg94 rfl (zA p rfl) (fun j u hu => D j u (by have := (List.getElem?_eq_some_iff.1 hu).1; simpa using this) ((el_pi (i := q) zx zx) j u hu)) C) (st_step rfl (fun _ C => zM fld37_6 (zC p rfl y) C) (st_step rfl (fun _ C => zN one34 (zA p rfl) (g.cell rfl) C) (st_step rfl (fun _ C => zG (zC p rfl r) C) ?_)))
  have hgi' := hgi.keep0 (zQ hb)
  refine st_index_rd slt34 (zA p rfl) hgi' (zA p rfl) zx zx ?_
  intro F H G E D
  refine st_step rfl (fun _ C => zX (cs := [(.int .i64 (s.f.items.getD q default).agg), (.string (bs (s.f.items.getD q default).tb)), (.string (bs (s.f.items.getD q default).nm))]) agg94 rfl (zA p rfl) (fun j u hu => D j u (by have := (List.getElem?_eq_some_iff.1 hu).1; simpa using this) ((el_pi (i := q) zx zx) j u hu)) C) (st_step rfl (fun _ C => op_aneq (xs := [(.int .i64 (s.f.items.getD q default).agg), (.string (bs (s.f.items.getD q default).tb)), (.string (bs (s.f.items.getD q default).nm))]) (ys := [(.int .i64 (s.f.items.getD q default).agg), (.string (bs (s.f.items.getD q default).tb)), (.string (bs (s.f.items.getD q default).nm))]) (b' := false) (zA p rfl) (zA p rfl) (eq94 (s.f.items.getD q default).agg (s.f.items.getD q default).agg (s.f.items.getD q default).tb (s.f.items.getD q default).tb (s.f.items.getD q default).nm (s.f.items.getD q default).nm) (by rw [decide_eq_true ⟨rfl, rfl, rfl⟩]; rfl) C) (st_nil (B _ _ (wp_cond_false (zA p rfl) (wp_skip (o _ _ (zH (zG (zC p rfl r) (op_add (zA p rfl) rfl (add64 zx) (zD (zA p rfl) (zB ?_)))))))))))
  -- round 82F 100F 118T
  exact zg _ p z ⟨(q + 1), rfl, (zL p rfl x), (zL p rfl y), (zU p rfl).trans (congrArg (Value.int .i64) zx), zx, hb, zx, e, g⟩ zx
 refine zB (B _ _ (wp_cond_false (zA p rfl) (wp_exit (then_exit (then_exit (blk_hit (c _ _ (zF fun _ c => zF fun _ o => zH (zD rfl (zB (o _ _ (wp_block (loop_m (fun mz_ az_ w' => ∃ (q : Nat), mz_ = s.inner.length - q ∧ (Sl az_ 2 (ptr k 0)) ∧ (Sl az_ 3 (ptr l 0)) ∧ (Sl az_ 8 (.int .i64 ((q : Nat) : Int))) ∧ (q ≤ s.inner.length) ∧ (Below w.heap.size w w') ∧ (A.heap.size ≤ w'.heap.size) ∧ (Bx w' k 37 [(.int .i64 s.f.kind), (.string (bs s.f.tb)), (.string (bs s.f.nm)), s.f.cv, s.f.gv, s.f.vv, s.f.iv, (.string (bs s.f.join)), s.f.ov, s.f.wv, s.f.rv, (.bool s.f.desc), s.nv]) ∧ (Bx w' l 37 [(.int .i64 s.f.kind), (.string (bs s.f.tb)), (.string (bs s.f.nm)), t.f.cv, t.f.gv, t.f.vv, t.f.iv, (.string (bs s.f.join)), t.f.ov, t.f.wv, t.f.rv, (.bool s.f.desc), t.nv])) _ p z ⟨0, rfl, (zL p rfl x), (zL p rfl y), (zU p rfl), (Nat.zero_le _), hb, (Nat.le_refl _), e, g⟩ ?_)))))))))))))
 rintro _ y D k x ⟨q, rfl, l, p, r, A, hb, z, e, g⟩
 have := hb.size
 refine zF fun _ o => zF fun _ B => zH (zG (zC k rfl r) (zM fld37_12 (zC k rfl l) (zN one35 (zA k rfl) (e.cell rfl) ?_)))
 have hfnR' := hfnR.keep0 (zQ hb)
 refine op_len_rd Tryz.underlying35 (zA k rfl) hfnR' (op_lss (zA k rfl) (zA k rfl) (fun y => ?_) (fun y => ?_))
 ·
  refine zB (B _ _ (wp_cond_true (zA k rfl) (wp_skip (o _ _ (zF fun _ o => wp_block (zF fun _ B => reg_from mixed ?_))))))
  intro z y
  obtain ⟨hb, _⟩ := yE hb y
  obtain ⟨e, g⟩ := kb2 y e g
  refine from_still (m := 10) 10 (hd := [_, _, _, _, _, _, _, _, _, _]) zy rfl rfl (st_step rfl (fun _ C => zM fld37_12 (zC k rfl l) C) (st_step rfl (fun _ C => zN one35 (zA k rfl) (e.cell rfl) C) (st_step rfl (fun _ C => zG (zC k rfl r) C) ?_)))
  have hfnR' := hfnR.keep0 (zQ hb)
  refine st_index_rd slt35 (zA k rfl) hfnR' (zA k rfl) zx zx ?_
  intro E z D A y
  refine st_step rfl (fun _ C => zX (cs := [(.int .i64 (s.inner.getD q default).f.kind), (.string (bs (s.inner.getD q default).f.tb)), (.string (bs (s.inner.getD q default).f.nm)), (s.inner.getD q default).f.cv, (s.inner.getD q default).f.gv, (s.inner.getD q default).f.vv, (s.inner.getD q default).f.iv, (.string (bs (s.inner.getD q default).f.join)), (s.inner.getD q default).f.ov, (s.inner.getD q default).f.wv, (s.inner.getD q default).f.rv, (.bool (s.inner.getD q default).f.desc), (s.inner.getD q default).nv]) agg37 rfl (zA k rfl) (fun j u hu => y j u (by have := (List.getElem?_eq_some_iff.1 hu).1; simpa using this) ((el_xs (i := q) zx zx) j u hu)) C) (st_step rfl (fun _ C => zM fld37_12 (zC k rfl p) C) (st_step rfl (fun _ C => zN one35 (zA k rfl) (g.cell rfl) C) (st_step rfl (fun _ C => zG (zC k rfl r) C) ?_)))
  have hgnR' := hgnR.keep0 (zQ hb)
  refine st_index_rd slt35 (zA k rfl) hgnR' (zA k rfl) zx zx ?_
  intro z A D E y
  refine st_step rfl (fun _ C => zX (cs := [(.int .i64 (t.inner.getD q default).f.kind), (.string (bs (t.inner.getD q default).f.tb)), (.string (bs (t.inner.getD q default).f.nm)), (t.inner.getD q default).f.cv, (t.inner.getD q default).f.gv, (t.inner.getD q default).f.vv, (t.inner.getD q default).f.iv, (.string (bs (t.inner.getD q default).f.join)), (t.inner.getD q default).f.ov, (t.inner.getD q default).f.wv, (t.inner.getD q default).f.rv, (.bool (t.inner.getD q default).f.desc), (t.inner.getD q default).nv]) agg37 rfl (zA k rfl) (fun j u hu => y j u (by have := (List.getElem?_eq_some_iff.1 hu).1; simpa using this) ((el_xs (i := q) zx zx) j u hu)) C) (st_nil (from_seq (tl := [_, _]) zz zy rfl ?_))
  have hfn' := hfn.keep0 (zQ hb)
  have hgn' := hgn.keep0 (zQ hb)
  refine zj ok36 (ih _ (getD_mem zx) (hs q zx) ((hfn'.2 _ (getD_mem zx)).mono (Nat.zero_le _) zx) ((hgn'.2 _ (getD_mem zx)).mono (Nat.zero_le _) zx)) ⟨(zA k rfl), ⟨(zA k rfl), trivial⟩⟩ ?_
  rintro _ z ⟨y, rfl⟩
  have y := zQ y
  obtain ⟨hb, _⟩ := yE hb y
  obtain ⟨e, g⟩ := kb2 y e g
  refine op_not (zA k rfl) (zB (B _ _ (wp_cond_false (zA k rfl) (wp_skip (o _ _ (zH (zG (zC k rfl r) (op_add (zA k rfl) rfl (add64 zx) (zD (zA k rfl) (zB ?_))))))))))
  -- round 82F 100F 118F 136T
  exact zg _ k x ⟨(q + 1), rfl, (zL k rfl l), (zL k rfl p), (zU k rfl).trans (congrArg (Value.int .i64) zx), zx, hb, zx, e, g⟩ zx
 refine zB (B _ _ (wp_cond_false (zA k rfl) (wp_exit (then_exit (then_exit (blk_hit (c _ _ (zF fun _ c => zH (zM fld37_5 (zC k rfl l) (zN one33 (zA k rfl) (e.cell rfl) (zM fld37_5 (zC k rfl p) (zN one33 (zA k rfl) (g.cell rfl) ?_))))))))))))
 have hfv' := hfv.keep0 (zQ hb)
 have hgv' := hgv.keep0 (zQ hb)
 refine zj ok61 (SameExprs_ret (fun a _ => SameE_all a) (hfv'.mono (Nat.zero_le _) zx) (hgv'.mono (Nat.zero_le _) zx) hqv) ⟨(zA k rfl), ⟨(zA k rfl), trivial⟩⟩ ?_
 rintro _ q ⟨o, rfl⟩
 have o := zQ o
 obtain ⟨hb, _⟩ := yE hb o
 obtain ⟨e, g⟩ := kb2 o e g
 refine zG (zA k rfl) (zS (j := 5) (dj := 156) (b := true) rfl rfl rfl (zA k rfl) (zM fld37_8 (zC k rfl l) (zS (j := 5) (dj := 156) (b := true) rfl rfl rfl (zA k rfl) (zN one33 (zA k rfl) (e.cell rfl) (zS (j := 5) (dj := 156) (b := true) rfl rfl rfl (zA k rfl) (zM fld37_8 (zC k rfl p) (zS (j := 5) (dj := 156) (b := true) rfl rfl rfl (zA k rfl) (zN one33 (zA k rfl) (g.cell rfl) (zS (j := 5) (dj := 156) (b := true) rfl rfl rfl (zA k rfl) ?_)))))))))
 have hfo' := hfo.keep0 (zQ hb)
 have hgo' := hgo.keep0 (zQ hb)
 refine zj ok61 (SameExprs_ret (fun a _ => SameE_all a) (hfo'.mono (Nat.zero_le _) zx) (hgo'.mono (Nat.zero_le _) zx) hqo) ⟨(zA k rfl), ⟨(zA k rfl), trivial⟩⟩ ?_
 rintro _ q ⟨o, rfl⟩
 have o := zQ o
 obtain ⟨hb, _⟩ := yE hb o
 obtain ⟨e, g⟩ := kb2 o e g
 refine zc (zA k rfl) (zA k rfl) ?_
 refine zG (zA k rfl) (zS (j := 12) (dj := 163) (b := true) rfl rfl rfl (zA k rfl) (zM fld37_9 (zC k rfl l) (zS (j := 12) (dj := 163) (b := true) rfl rfl rfl (zA k rfl) (zN one33 (zA k rfl) (e.cell rfl) (zS (j := 12) (dj := 163) (b := true) rfl rfl rfl (zA k rfl) (zM fld37_9 (zC k rfl p) (zS (j := 12) (dj := 163) (b := true) rfl rfl rfl (zA k rfl) (zN one33 (zA k rfl) (g.cell rfl) (zS (j := 12) (dj := 163) (b := true) rfl rfl rfl (zA k rfl) ?_)))))))))
 have hfw' := hfw.keep0 (zQ hb)
 have hgw' := hgw.keep0 (zQ hb)
 refine zj ok61 (SameExprs_ret (fun a _ => SameE_all a) (hfw'.mono (Nat.zero_le _) zx) (hgw'.mono (Nat.zero_le _) zx) hqw) ⟨(zA k rfl), ⟨(zA k rfl), trivial⟩⟩ ?_
 rintro _ q ⟨o, rfl⟩
 have o := zQ o
 obtain ⟨hb, _⟩ := yE hb o
 obtain ⟨e, g⟩ := kb2 o e g
 refine zc (zA k rfl) (zA k rfl) ?_
 refine zG (zA k rfl) (zS (j := 19) (dj := 170) (b := true) rfl rfl rfl (zA k rfl) (zM fld37_10 (zC k rfl l) (zS (j := 19) (dj := 170) (b := true) rfl rfl rfl (zA k rfl) (zN one33 (zA k rfl) (e.cell rfl) (zS (j := 19) (dj := 170) (b := true) rfl rfl rfl (zA k rfl) (zM fld37_10 (zC k rfl p) (zS (j := 19) (dj := 170) (b := true) rfl rfl rfl (zA k rfl) (zN one33 (zA k rfl) (g.cell rfl) (zS (j := 19) (dj := 170) (b := true) rfl rfl rfl (zA k rfl) ?_)))))))))
 have hfr' := hfr.keep0 (zQ hb)
 have hgr' := hgr.keep0 (zQ hb)
 refine zj ok61 (SameExprs_ret (fun a _ => SameE_all a) (hfr'.mono (Nat.zero_le _) zx) (hgr'.mono (Nat.zero_le _) zx) hqr) ⟨(zA k rfl), ⟨(zA k rfl), trivial⟩⟩ ?_
 rintro _ g ⟨e, rfl⟩
 have e := zQ e
 obtain ⟨hb, _⟩ := yE hb e
 refine zc (zA k rfl) (zA k rfl) (zD (zA k rfl) (zB (c _ _ (wp_ret (ret1 rfl x (zA k rfl) ⟨_, rfl, ?_⟩)))))
 exact ⟨hb, rfl⟩

theorem SameS_all : ∀ s, SameSP s := XS.ind fun s ih t w h hx hy => by
  cases h with | mk h hl hs =>
    have := SameStmt_in s t ih hx hy h hl hs
    obtain ⟨h1, h2, h3, _, _, _, _, h4, _, _, _, h5⟩ := h
    rw [← h1, ← h2, ← h3, ← h4, ← h5]; exact this

theorem SameTable_in {nm : List UInt8} {l : List PCol} {ix : List (List UInt8)} {cv iv cu iu : Value} {w : World} (h1 : RdC w 0 w.heap.size 3 cv l.length (l.flatMap cellsC)) (h2 : RdC w 0 w.heap.size 1 iv ix.length (ix.map sv)) (h3 : RdC w 0 w.heap.size 3 cu l.length (l.flatMap cellsC)) (h4 : RdC w 0 w.heap.size 1 iu ix.length (ix.map sv)) : Ret Tryz.prog 34 #[(.agg #[(.string (bs nm)), cv, iv]), (.agg #[(.string (bs nm)), cu, iu])] w (fun v' w' => Below w.heap.size w w' ∧ v' = .bool true) := by
 have hlm := rd_len h1
 have hln := rd_len h2
 have hb := Below.refl w.heap.size w
 refine enter (N := 66) Tryz.func34 rfl rfl (by simp) fun a hN hd hA => ?_
 have c : a.tmps.getD 0 undef = (.agg #[(.string (bs nm)), cv, iv]) := hA 0 (by simp)
 have e : a.tmps.getD 1 undef = (.agg #[(.string (bs nm)), cu, iu]) := hA 1 (by simp)
 clear hA
 refine zF fun _ a => zH (op_box (cs := [(.string (bs nm)), cv, iv]) (zC hN rfl c) rfl ?_)
 intro o g p m c k
 obtain ⟨hb, _⟩ := yE hb k
 refine op_box (cs := [(.string (bs nm)), cu, iu]) (zC hN rfl e) rfl ?_
 intro o k p q e m
 obtain ⟨hb, _⟩ := yE hb m
 have c := c.keep0 m
 refine zD rfl (zB (a _ _ (zF fun _ a => zF fun _ m => zH (zM fld51_0 (zA hN rfl) ?_))))
 refine zN one9 (zA hN rfl) (c.cell rfl) (zM fld51_0 (zA hN rfl) (zN one9 (zA hN rfl) (e.cell rfl) (op_sneqb (b := false) (zA hN rfl) (zA hN rfl) (decide_eq_false (fun h => h rfl)) (zG (zA hN rfl) (zS (j := 5) (dj := 12) (b := false) rfl rfl rfl (zA hN rfl) (zM fld51_1 (zA hN rfl) (zS (j := 5) (dj := 12) (b := false) rfl rfl rfl (zA hN rfl) (zN one32 (zA hN rfl) (c.cell rfl) (zS (j := 5) (dj := 12) (b := false) rfl rfl rfl (zA hN rfl) ?_)))))))))
 have p := h1.keep0 (zQ hb)
 refine op_len_rd Tryz.underlying32 (zA hN rfl) p (zS (j := 5) (dj := 12) (b := false) rfl rfl rfl (zA hN rfl) (zM fld51_1 (zA hN rfl) (zS (j := 5) (dj := 12) (b := false) rfl rfl rfl (zA hN rfl) (zN one32 (zA hN rfl) (e.cell rfl) (zS (j := 5) (dj := 12) (b := false) rfl rfl rfl (zA hN rfl) ?_)))))
 have q := h3.keep0 (zQ hb)
 refine op_len_rd Tryz.underlying32 (zA hN rfl) q (zS (j := 5) (dj := 12) (b := false) rfl rfl rfl (zA hN rfl) (op_cmp (b := false) (zA hN rfl) (zA hN rfl) (b_neq (decide_eq_false (fun h => h rfl))) (zd (zA hN rfl) (zA hN rfl) (zG (zA hN rfl) (zS (j := 14) (dj := 21) (b := false) rfl rfl rfl (zA hN rfl) (zM fld51_2 (zA hN rfl) (zS (j := 14) (dj := 21) (b := false) rfl rfl rfl (zA hN rfl) (zN one49 (zA hN rfl) (c.cell rfl) (zS (j := 14) (dj := 21) (b := false) rfl rfl rfl (zA hN rfl) ?_)))))))))
 have r := h2.keep0 (zQ hb)
 refine op_len_rd Tryz.underlying49 (zA hN rfl) r (zS (j := 14) (dj := 21) (b := false) rfl rfl rfl (zA hN rfl) (zM fld51_2 (zA hN rfl) (zS (j := 14) (dj := 21) (b := false) rfl rfl rfl (zA hN rfl) (zN one49 (zA hN rfl) (e.cell rfl) (zS (j := 14) (dj := 21) (b := false) rfl rfl rfl (zA hN rfl) ?_)))))
 have s := h4.keep0 (zQ hb)
 refine op_len_rd Tryz.underlying49 (zA hN rfl) s (zS (j := 14) (dj := 21) (b := false) rfl rfl rfl (zA hN rfl) ?_)
 refine op_cmp (b := false) (zA hN rfl) (zA hN rfl) (b_neq (decide_eq_false (fun h => h rfl))) (zd (zA hN rfl) (zA hN rfl) (zB (m _ _ (wp_cond_false (zA hN rfl) (wp_skip (a _ _ (zF fun _ a => zF fun _ m => zH (zD rfl (zB (m _ _ (wp_block (loop_m (fun mz_ az_ w' => ∃ (t : Nat), mz_ = l.length - t ∧ (Sl az_ 2 (ptr g 0)) ∧ (Sl az_ 3 (ptr k 0)) ∧ (Sl az_ 5 (.int .i64 ((t : Nat) : Int))) ∧ (t ≤ l.length) ∧ (Below w.heap.size w w') ∧ (o.heap.size ≤ w'.heap.size) ∧ (Bx w' g 51 [(.string (bs nm)), cv, iv]) ∧ (Bx w' k 51 [(.string (bs nm)), cu, iu])) _ hN hd ⟨0, rfl, (zU hN rfl), (zU hN rfl), (zU hN rfl), (Nat.zero_le _), hb, (Nat.le_refl _), c, e⟩ ?_))))))))))))
 rintro _ E B o A ⟨t, rfl, y, z, x, D, hb, C, c, e⟩
 have := hb.size
 refine zF fun _ m => zF fun _ C => zH (zG (zC o rfl x) (zM fld51_1 (zC o rfl y) (zN one32 (zA o rfl) (c.cell rfl) ?_)))
 have p := h1.keep0 (zQ hb)
 refine op_len_rd Tryz.underlying32 (zA o rfl) p (op_lss (zA o rfl) (zA o rfl) (fun D => ?_) (fun D => ?_))
 ·
  refine zB (C _ _ (wp_cond_true (zA o rfl) (wp_skip (m _ _ (zF fun _ m => wp_block (zF fun _ C => reg_still mixed zy ?_))))))
  intro E D
  obtain ⟨hb, _⟩ := yE hb D
  obtain ⟨c, e⟩ := kb2 D c e
  refine st_step rfl (fun _ D => zM fld51_1 (zC o rfl y) D) (st_step rfl (fun _ D => zN one32 (zA o rfl) (c.cell rfl) D) (st_step rfl (fun _ D => zG (zC o rfl x) D) ?_))
  have p := h1.keep0 (zQ hb)
  refine st_index_rd slt32 (zA o rfl) p (zA o rfl) zx zx ?_
  intro F G H E p
  refine st_step rfl (fun _ D => zX (cs := [(.string (bs (l.getD t default).nm)), (.int .i64 (l.getD t default).kind), (.string (bs (l.getD t default).ref))]) agg48 rfl (zA o rfl) (fun j u hu => p j u (by have := (List.getElem?_eq_some_iff.1 hu).1; simpa using this) ((el_pc (i := t) zx zx) j u hu)) D) (st_step rfl (fun _ D => zM fld51_1 (zC o rfl z) D) (st_step rfl (fun _ D => zN one32 (zA o rfl) (e.cell rfl) D) (st_step rfl (fun _ D => zG (zC o rfl x) D) ?_)))
  have q := h3.keep0 (zQ hb)
  refine st_index_rd slt32 (zA o rfl) q (zA o rfl) zx zx ?_
  intro E F q G p
  refine st_step rfl (fun _ D => zX (cs := [(.string (bs (l.getD t default).nm)), (.int .i64 (l.getD t default).kind), (.string (bs (l.getD t default).ref))]) agg48 rfl (zA o rfl) (fun j u hu => p j u (by have := (List.getElem?_eq_some_iff.1 hu).1; simpa using this) ((el_pc (i := t) zx zx) j u hu)) D) (st_step rfl (fun _ D => op_aneq (xs := [(.string (bs (l.getD t default).nm)), (.int .i64 (l.getD t default).kind), (.string (bs (l.getD t default).ref))]) (ys := [(.string (bs (l.getD t default).nm)), (.int .i64 (l.getD t default).kind), (.string (bs (l.getD t default).ref))]) (b' := false) (zA o rfl) (zA o rfl) (eq48 (l.getD t default).nm (l.getD t default).nm (l.getD t default).kind (l.getD t default).kind (l.getD t default).ref (l.getD t default).ref) (by rw [decide_eq_true ⟨rfl, rfl, rfl⟩]; rfl) D) (st_nil (C _ _ (wp_cond_false (zA o rfl) (wp_skip (m _ _ (zH (zG (zC o rfl x) (op_add (zA o rfl) rfl (add64 zx) (zD (zA o rfl) (zB ?_)))))))))))
  -- round 34T
  exact zg _ o A ⟨(t + 1), rfl, (zL o rfl y), (zL o rfl z), (zU o rfl).trans (congrArg (Value.int .i64) zx), zx, hb, zx, c, e⟩ zx
 refine zB (C _ _ (wp_cond_false (zA o rfl) (wp_exit (then_exit (then_exit (blk_hit (a _ _ (zF fun _ a => zF fun _ m => zH (zD rfl (zB (m _ _ (wp_block (loop_m (fun mz_ az_ w' => ∃ (p : Nat), mz_ = ix.length - p ∧ (Sl az_ 2 (ptr g 0)) ∧ (Sl az_ 3 (ptr k 0)) ∧ (Sl az_ 6 (.int .i64 ((p : Nat) : Int))) ∧ (p ≤ ix.length) ∧ (Below w.heap.size w w') ∧ (B.heap.size ≤ w'.heap.size) ∧ (Bx w' g 51 [(.string (bs nm)), cv, iv]) ∧ (Bx w' k 51 [(.string (bs nm)), cu, iu])) _ o A ⟨0, rfl, (zL o rfl y), (zL o rfl z), (zU o rfl), (Nat.zero_le _), hb, (Nat.le_refl _), c, e⟩ ?_)))))))))))))
 rintro _ A y g t ⟨p, rfl, o, q, k, z, hb, x, c, e⟩
 have := hb.size
 refine zF fun _ m => zF fun _ C => zH (zG (zC g rfl k) (zM fld51_2 (zC g rfl o) (zN one49 (zA g rfl) (c.cell rfl) ?_)))
 have r := h2.keep0 (zQ hb)
 refine op_len_rd Tryz.underlying49 (zA g rfl) r (op_lss (zA g rfl) (zA g rfl) (fun x => ?_) (fun x => ?_))
 ·
  refine zB (C _ _ (wp_cond_true (zA g rfl) (wp_skip (m _ _ (zF fun _ m => wp_block (zF fun _ C => reg_still mixed zy ?_))))))
  intro y x
  obtain ⟨hb, _⟩ := yE hb x
  obtain ⟨c, e⟩ := kb2 x c e
  refine st_step rfl (fun _ D => zM fld51_2 (zC g rfl o) D) (st_step rfl (fun _ D => zN one49 (zA g rfl) (c.cell rfl) D) (st_step rfl (fun _ D => zG (zC g rfl k) D) ?_))
  have r := h2.keep0 (zQ hb)
  refine st_index_rd slt49 (zA g rfl) r (zA g rfl) zx zx ?_
  intro A z y x r
  refine st_step rfl (fun _ D => zN (v := (Value.string (bs (ix.getD p [])))) one9 (zA g rfl) (by have := r 0 (.string (bs (ix.getD p []))) zz (el_sv (i := p) zx zx); simpa using this) D) (st_step rfl (fun _ D => zM fld51_2 (zC g rfl q) D) (st_step rfl (fun _ D => zN one49 (zA g rfl) (e.cell rfl) D) (st_step rfl (fun _ D => zG (zC g rfl k) D) ?_)))
  have s := h4.keep0 (zQ hb)
  refine st_index_rd slt49 (zA g rfl) s (zA g rfl) zx zx ?_
  intro z s y x r
  refine st_step rfl (fun _ D => zN (v := (Value.string (bs (ix.getD p [])))) one9 (zA g rfl) (by have := r 0 (.string (bs (ix.getD p []))) zz (el_sv (i := p) zx zx); simpa using this) D) (st_step rfl (fun _ D => op_sneqb (b := false) (zA g rfl) (zA g rfl) (decide_eq_false (fun h => h rfl)) D) (st_nil (C _ _ (wp_cond_false (zA g rfl) (wp_skip (m _ _ (zH (zG (zC g rfl k) (op_add (zA g rfl) rfl (add64 zx) (zD (zA g rfl) (zB ?_)))))))))))
  -- round 34F 52T
  exact zg _ g t ⟨(p + 1), rfl, (zL g rfl o), (zL g rfl q), (zU g rfl).trans (congrArg (Value.int .i64) zx), zx, hb, zx, c, e⟩ zx
 refine zB (C _ _ (wp_cond_false (zA g rfl) (wp_exit (then_exit (then_exit (blk_hit (a _ _ (zF fun _ a => zH (zD rfl (zB (a _ _ (wp_ret (ret1 rfl t (zA g rfl) ⟨_, rfl, ?_⟩)))))))))))))
 exact ⟨hb, rfl⟩

theorem SameTable_ret {t t2 : PTab} {cv iv cu iu : Value} {w : World} (he : t = t2) (h1 : RdC w 0 w.heap.size 3 cv t.cols.length (t.cols.flatMap cellsC)) (h2 : RdC w 0 w.heap.size 1 iv t.idx.length (t.idx.map sv)) (h3 : RdC w 0 w.heap.size 3 cu t2.cols.length (t2.cols.flatMap cellsC)) (h4 : RdC w 0 w.heap.size 1 iu t2.idx.length (t2.idx.map sv)) : Ret Tryz.prog 34 #[.agg #[.string (bs t.nm), cv, iv], .agg #[.string (bs t2.nm), cu, iu]] w (fun v' w' => Below w.heap.size w w' ∧ v' = .bool true) := by
  subst he; exact SameTable_in h1 h2 h3 h4
theorem same_ret {l m : Lb} {v u : Value} {w : World} (he : l = m) (hz : l.length ≤ 1000) (h1 : RdC w 0 w.heap.size 1 v l.length (l.map u16v)) (h2 : RdC w 0 w.heap.size 1 u m.length (m.map u16v)) : Ret Tryz.prog 35 #[v, u] w (fun v' w' => Below w.heap.size w w' ∧ v' = .bool true) :=
  (sameL_ret l m v u w zx (by rw [← he]; omega) h1 h2).mono fun _ _ h => ⟨h.1, h.2.trans (congrArg Value.bool (decide_eq_true he))⟩

theorem SameSchema_ret {tv vv tu vu : Value} {D D2 : List DTab} {V V2 : List DVw} {w : World} (hT : TsRd w w.heap.size tv D) (hT2 : TsRd w w.heap.size tu D2) (hM : D.map DTab.t = D2.map DTab.t) (hD : D.length ≤ 1000000) (hV : VsFr w 0 w.heap.size vv V) (hV2 : VsFr w 0 w.heap.size vu V2) (hVS : VsSame V V2) : Ret Tryz.prog 11 #[(.agg #[tv, vv]), (.agg #[tu, vu])] w (fun v' w' => Below w.heap.size w w' ∧ v' = .bool true) := by
 have hR := hT.1
 have hVR := hV.1
 have a := hT2.1
 have c := hV2.1
 have hVz := hV.3
 have hDl := congrArg List.length hM
 rw [List.length_map, List.length_map] at hDl
 have hVl := hVS.1
 have hb := Below.refl w.heap.size w
 refine enter (N := 82) Tryz.func11 rfl rfl (by simp) fun e hN hd hA => ?_
 have g : e.tmps.getD 0 undef = (.agg #[tv, vv]) := hA 0 (by simp)
 have k : e.tmps.getD 1 undef = (.agg #[tu, vu]) := hA 1 (by simp)
 clear hA
 refine zF fun _ e => zH (op_box (cs := [tv, vv]) (zC hN rfl g) rfl ?_)
 intro o l q r g p
 obtain ⟨hb, _⟩ := yE hb p
 refine op_box (cs := [tu, vu]) (zC hN rfl k) rfl ?_
 intro r p s x k q
 obtain ⟨hb, _⟩ := yE hb q
 have g := g.keep0 q
 refine zD rfl (zB (e _ _ (zF fun _ e => zF fun _ q => zH (zM fld30_0 (zA hN rfl) (zN one27 (zA hN rfl) (g.cell rfl) ?_)))))
 have hR' := hR.keep0 (zQ hb)
 refine op_len_rd Tryz.underlying27 (zA hN rfl) hR' (zM fld30_0 (zA hN rfl) (zN one27 (zA hN rfl) (k.cell rfl) ?_))
 have s := a.keep0 (zQ hb)
 refine op_len_rd Tryz.underlying27 (zA hN rfl) s (op_cmp (b := false) (zA hN rfl) (zA hN rfl) (b_neq (decide_eq_false zx)) (zG (zA hN rfl) (zS (j := 7) (dj := 16) (b := false) rfl rfl rfl (zA hN rfl) (zM fld30_1 (zA hN rfl) (zS (j := 7) (dj := 16) (b := false) rfl rfl rfl (zA hN rfl) (zN one28 (zA hN rfl) (g.cell rfl) (zS (j := 7) (dj := 16) (b := false) rfl rfl rfl (zA hN rfl) ?_)))))))
 have hVR' := hVR.keep0 (zQ hb)
 refine op_len_rd Tryz.underlying28 (zA hN rfl) hVR' (zS (j := 7) (dj := 16) (b := false) rfl rfl rfl (zA hN rfl) (zM fld30_1 (zA hN rfl) (zS (j := 7) (dj := 16) (b := false) rfl rfl rfl (zA hN rfl) (zN one28 (zA hN rfl) (k.cell rfl) (zS (j := 7) (dj := 16) (b := false) rfl rfl rfl (zA hN rfl) ?_)))))
 have x := c.keep0 (zQ hb)
 refine op_len_rd Tryz.underlying28 (zA hN rfl) x (zS (j := 7) (dj := 16) (b := false) rfl rfl rfl (zA hN rfl) ?_)
 refine op_cmp (b := false) (zA hN rfl) (zA hN rfl) (b_neq (decide_eq_false zx)) (zd (zA hN rfl) (zA hN rfl) (zB (q _ _ (wp_cond_false (zA hN rfl) (wp_skip (e _ _ (zF fun _ e => zF fun _ q => zH (zD rfl (zB (q _ _ (wp_block (loop_m (fun mz_ az_ w' => ∃ (y : Nat), mz_ = D.length - y ∧ (Sl az_ 2 (ptr l 0)) ∧ (Sl az_ 3 (ptr p 0)) ∧ (Sl az_ 5 (.int .i64 ((y : Nat) : Int))) ∧ (y ≤ D.length) ∧ (Below w.heap.size w w') ∧ (r.heap.size ≤ w'.heap.size) ∧ (Bx w' l 30 [tv, vv]) ∧ (Bx w' p 30 [tu, vu])) _ hN hd ⟨0, rfl, (zU hN rfl), (zU hN rfl), (zU hN rfl), (Nat.zero_le _), hb, (Nat.le_refl _), g, k⟩ ?_))))))))))))
 rintro _ J F r C ⟨y, rfl, A, B, z, H, hb, I, g, k⟩
 have := hb.size
 refine zF fun _ q => zF fun _ H => zH (zG (zC r rfl z) (zM fld30_0 (zC r rfl A) (zN one27 (zA r rfl) (g.cell rfl) ?_)))
 have hR' := hR.keep0 (zQ hb)
 refine op_len_rd Tryz.underlying27 (zA r rfl) hR' (op_lss (zA r rfl) (zA r rfl) (fun I => ?_) (fun I => ?_))
 ·
  refine zB (H _ _ (wp_cond_true (zA r rfl) (wp_skip (q _ _ (zF fun _ q => wp_block (zF fun _ H => reg_from mixed ?_))))))
  intro J I
  obtain ⟨hb, _⟩ := yE hb I
  obtain ⟨g, k⟩ := kb2 I g k
  refine from_still (m := 10) 10 (hd := [_, _, _, _, _, _, _, _, _, _]) zy rfl rfl (st_step rfl (fun _ I => zM fld30_0 (zC r rfl A) I) (st_step rfl (fun _ I => zN one27 (zA r rfl) (g.cell rfl) I) (st_step rfl (fun _ I => zG (zC r rfl z) I) ?_)))
  have hR' := hR.keep0 (zQ hb)
  refine st_index_rd slt27 (zA r rfl) hR' (zA r rfl) zx zx ?_
  intro M O K L J
  refine st_step rfl (fun _ I => zX (cs := [(.string (bs (D.getD y default).t.nm)), (D.getD y default).cv, (D.getD y default).iv]) agg51 rfl (zA r rfl) (fun j u hu => J j u (by have := (List.getElem?_eq_some_iff.1 hu).1; simpa using this) ((el_dt (i := y) zx zx) j u hu)) I) (st_step rfl (fun _ I => zM fld30_0 (zC r rfl B) I) (st_step rfl (fun _ I => zN one27 (zA r rfl) (k.cell rfl) I) (st_step rfl (fun _ I => zG (zC r rfl z) I) ?_)))
  have s := a.keep0 (zQ hb)
  refine st_index_rd slt27 (zA r rfl) s (zA r rfl) zx zx ?_
  intro J L s K a
  refine st_step rfl (fun _ I => zX (cs := [(.string (bs (D2.getD y default).t.nm)), (D2.getD y default).cv, (D2.getD y default).iv]) agg51 rfl (zA r rfl) (fun j u hu => a j u (by have := (List.getElem?_eq_some_iff.1 hu).1; simpa using this) ((el_dt (i := y) zx zx) j u hu)) I) (st_nil (from_seq (tl := [_, _]) zz zy rfl ?_))
  have hT' := hT.keep0 (zQ hb)
  have a := hT2.keep0 (zQ hb)
  refine zj ok34 (SameTable_ret (t := (D.getD y default).t) (t2 := (D2.getD y default).t) (by rw [← map_t, ← map_t, hM]) ((hT'.2 _ (getD_mem zx)).1.mono (Nat.zero_le _) zx) ((hT'.2 _ (getD_mem zx)).2.mono (Nat.zero_le _) zx) ((a.2 _ (getD_mem zx)).1.mono (Nat.zero_le _) zx) ((a.2 _ (getD_mem zx)).2.mono (Nat.zero_le _) zx)) ⟨(zA r rfl), ⟨(zA r rfl), trivial⟩⟩ ?_
  rintro _ s ⟨a, rfl⟩
  have a := zQ a
  obtain ⟨hb, _⟩ := yE hb a
  obtain ⟨g, k⟩ := kb2 a g k
  refine op_not (zA r rfl) (zB (H _ _ (wp_cond_false (zA r rfl) (wp_skip (q _ _ (zH (zG (zC r rfl z) (op_add (zA r rfl) rfl (add64 zx) (zD (zA r rfl) (zB ?_))))))))))
  -- round 29T
  exact zg _ r C ⟨(y + 1), rfl, (zL r rfl A), (zL r rfl B), (zU r rfl).trans (congrArg (Value.int .i64) zx), zx, hb, zx, g, k⟩ zx
 refine zB (H _ _ (wp_cond_false (zA r rfl) (wp_exit (then_exit (then_exit (blk_hit (e _ _ (zF fun _ e => zF fun _ q => zH (zD rfl (zB (q _ _ (wp_block (loop_m (fun mz_ az_ w' => ∃ (a : Nat), mz_ = V.length - a ∧ (Sl az_ 2 (ptr l 0)) ∧ (Sl az_ 3 (ptr p 0)) ∧ (Sl az_ 6 (.int .i64 ((a : Nat) : Int))) ∧ (a ≤ V.length) ∧ (Below w.heap.size w w') ∧ (F.heap.size ≤ w'.heap.size) ∧ (Bx w' l 30 [tv, vv]) ∧ (Bx w' p 30 [tu, vu])) _ r C ⟨0, rfl, (zL r rfl A), (zL r rfl B), (zU r rfl), (Nat.zero_le _), hb, (Nat.le_refl _), g, k⟩ ?_)))))))))))))
 rintro _ C B r z ⟨a, rfl, y, A, s, I, hb, F, g, k⟩
 have := hb.size
 refine zF fun _ q => zF fun _ H => zH (zG (zC r rfl s) (zM fld30_1 (zC r rfl y) (zN one28 (zA r rfl) (g.cell rfl) ?_)))
 have hVR' := hVR.keep0 (zQ hb)
 refine op_len_rd Tryz.underlying28 (zA r rfl) hVR' (op_lss (zA r rfl) (zA r rfl) (fun B => ?_) (fun B => ?_))
 ·
  refine zB (H _ _ (wp_cond_true (zA r rfl) (wp_skip (q _ _ (zF fun _ q => wp_block (zF fun _ H => ?_))))))
  obtain ⟨C, B, F⟩ := hVR'.atV (i := a) zz zx
  have x := c.keep0 (zQ hb)
  obtain ⟨I, J, c⟩ := x.atV (i := a) zz zx
  have K := hVR'
  have L := x
  refine reg_split (hd := [_, _, _, _, _, _, _, _, _, _, _, _, _]) (tl := _) 13 mixed zy rfl rfl ?_
  refine any_tree (φ := phiV [(fun uz => uz = (ptr l 1)), (fun uz => uz = vv), (fun uz => uz = (.int .i64 ((a : Nat) : Int))), (fun uz => uz = (ptr C B)), (fun uz => uz = (.agg #[(.string (bs (V.getD a default).nm)), (V.getD a default).sv, (.int .i64 (V.getD a default).act.f.kind), (.string (bs (V.getD a default).act.f.tb)), (.string (bs (V.getD a default).act.f.nm)), (V.getD a default).act.f.cv, (V.getD a default).act.f.gv, (V.getD a default).act.f.vv, (V.getD a default).act.f.iv, (.string (bs (V.getD a default).act.f.join)), (V.getD a default).act.f.ov, (V.getD a default).act.f.wv, (V.getD a default).act.f.rv, (.bool (V.getD a default).act.f.desc), (V.getD a default).act.nv])), (fun uz => uz = (ptr p 1)), (fun uz => uz = vu), (fun uz => uz = (.int .i64 ((a : Nat) : Int))), (fun uz => uz = (ptr I J)), (fun uz => uz = (.agg #[(.string (bs (V2.getD a default).nm)), (V2.getD a default).sv, (.int .i64 (V2.getD a default).act.f.kind), (.string (bs (V2.getD a default).act.f.tb)), (.string (bs (V2.getD a default).act.f.nm)), (V2.getD a default).act.f.cv, (V2.getD a default).act.f.gv, (V2.getD a default).act.f.vv, (V2.getD a default).act.f.iv, (.string (bs (V2.getD a default).act.f.join)), (V2.getD a default).act.f.ov, (V2.getD a default).act.f.wv, (V2.getD a default).act.f.rv, (.bool (V2.getD a default).act.f.desc), (V2.getD a default).act.nv])), (fun _ => True), (fun _ => True), (fun _ => True)]) (G := fun w' => RdC w' 0 w.heap.size 15 vv V.length (V.flatMap cellsW) ∧ RdC w' 0 w.heap.size 15 vu V2.length (V2.flatMap cellsW) ∧ Bx w' l 30 [tv, vv] ∧ Bx w' p 30 [tu, vu]) [10, 11, 12] zy zy zy zy zy r (fun o Q E h => by obtain ⟨x, P, M, O⟩ := h; exact ⟨x.keep0 E, P.keep0 E, M.keep0 E, O.keep0 E⟩) ⟨K, L, g, k⟩ (ObRs9.cons ?_ (ObRs9.cons ?_ (ObRs9.cons ?_ (ObRs9.cons ?_ (ObRs9.cons ?_ (ObRs9.cons ?_ (ObRs9.cons ?_ (ObRs9.cons ?_ (ObRs9.cons ?_ (ObRs9.cons ?_ (ObRs9.pass rfl (ObRs9.pass rfl (ObRs9.pass rfl (ObRs9.nil)))))))))))))) (by simp only [putsL_defers]) ?_
  ·
   intro eA aA wA hNA hGA hbsA hdpA
   have o := (hbsA 2 rfl).trans (zL r rfl y)
   refine zM fld30_1 (zC hNA rfl o) ?_
   exact obT_end rfl rfl
  ·
   intro eA aA wA hNA hGA hbsA hdpA
   have o : Sl aA 51 (ptr l 1) := (hdpA 0 _ 51 zy rfl rfl).2 rfl
   obtain ⟨K, L, g, k⟩ := hGA
   refine zN one28 (zC hNA rfl o) (g.cell rfl) ?_
   exact obT_end rfl rfl
  ·
   intro eA aA wA hNA hGA hbsA hdpA
   have l := (hbsA 6 rfl).trans (zL r rfl s)
   refine zG (zC hNA rfl l) ?_
   exact obT_end rfl rfl
  ·
   intro eA aA wA hNA hGA hbsA hdpA
   have o : Sl aA 52 vv := (hdpA 1 _ 52 zy rfl rfl).2 rfl
   have x : Sl aA 53 (.int .i64 ((a : Nat) : Int)) := (hdpA 2 _ 53 zy rfl rfl).2 rfl
   obtain ⟨K, L, g, k⟩ := hGA
   refine op_index_atR (i := a) slt28 (zC hNA rfl o) K zz (zC hNA rfl x) zx zx F ?_
   exact obT_end rfl rfl
  ·
   intro eA aA wA hNA hGA hbsA hdpA
   have o : Sl aA 54 (ptr C B) := (hdpA 3 _ 54 zy rfl rfl).2 rfl
   obtain ⟨K, L, g, k⟩ := hGA
   refine zX (cs := [(.string (bs (V.getD a default).nm)), (V.getD a default).sv, (.int .i64 (V.getD a default).act.f.kind), (.string (bs (V.getD a default).act.f.tb)), (.string (bs (V.getD a default).act.f.nm)), (V.getD a default).act.f.cv, (V.getD a default).act.f.gv, (V.getD a default).act.f.vv, (V.getD a default).act.f.iv, (.string (bs (V.getD a default).act.f.join)), (V.getD a default).act.f.ov, (V.getD a default).act.f.wv, (V.getD a default).act.f.rv, (.bool (V.getD a default).act.f.desc), (V.getD a default).act.nv]) agg68 rfl (zC hNA rfl o) (fun j u hu => K.cellAt F j u ((el_dv (i := a) rfl zx) j u hu)) ?_
   exact obT_end rfl rfl
  ·
   intro eA aA wA hNA hGA hbsA hdpA
   have o := (hbsA 3 rfl).trans (zL r rfl A)
   refine zM fld30_1 (zC hNA rfl o) ?_
   exact obT_end rfl rfl
  ·
   intro eA aA wA hNA hGA hbsA hdpA
   have o : Sl aA 56 (ptr p 1) := (hdpA 5 _ 56 zy rfl rfl).2 rfl
   obtain ⟨K, L, g, k⟩ := hGA
   refine zN one28 (zC hNA rfl o) (k.cell rfl) ?_
   exact obT_end rfl rfl
  ·
   intro eA aA wA hNA hGA hbsA hdpA
   have l := (hbsA 6 rfl).trans (zL r rfl s)
   refine zG (zC hNA rfl l) ?_
   exact obT_end rfl rfl
  ·
   intro eA aA wA hNA hGA hbsA hdpA
   have l : Sl aA 57 vu := (hdpA 6 _ 57 zy rfl rfl).2 rfl
   have o : Sl aA 58 (.int .i64 ((a : Nat) : Int)) := (hdpA 7 _ 58 zy rfl rfl).2 rfl
   obtain ⟨K, L, g, k⟩ := hGA
   refine op_index_atR (i := a) slt28 (zC hNA rfl l) L zz (zC hNA rfl o) zx zx c ?_
   exact obT_end rfl rfl
  ·
   intro eA aA wA hNA hGA hbsA hdpA
   have l : Sl aA 59 (ptr I J) := (hdpA 8 _ 59 zy rfl rfl).2 rfl
   obtain ⟨K, L, g, k⟩ := hGA
   refine zX (cs := [(.string (bs (V2.getD a default).nm)), (V2.getD a default).sv, (.int .i64 (V2.getD a default).act.f.kind), (.string (bs (V2.getD a default).act.f.tb)), (.string (bs (V2.getD a default).act.f.nm)), (V2.getD a default).act.f.cv, (V2.getD a default).act.f.gv, (V2.getD a default).act.f.vv, (V2.getD a default).act.f.iv, (.string (bs (V2.getD a default).act.f.join)), (V2.getD a default).act.f.ov, (V2.getD a default).act.f.wv, (V2.getD a default).act.f.rv, (.bool (V2.getD a default).act.f.desc), (V2.getD a default).act.nv]) agg68 rfl (zC hNA rfl l) (fun j u hu => L.cellAt c j u ((el_dv (i := a) rfl zx) j u hu)) ?_
   exact obT_end rfl rfl
  refine kt_step (rs := [10, 11]) zy (more_mem ?_ ?_)
  ·
   intro p c _ o B l x o_ ho_; obtain rfl := zE ho_
   obtain ⟨hb, _⟩ := yE hb c
   refine op_alloc (cs := [(.string (bs [])), (.slice none 0 0), (.int .i64 0), (.string (bs [])), (.string (bs [])), (.slice none 0 0), (.slice none 0 0), (.slice none 0 0), (.slice none 0 0), (.string (bs [])), (.slice none 0 0), (.slice none 0 0), (.slice none 0 0), (.bool false), (.slice none 0 0)]) zero68 rfl ?_
   intro C p x B l o
   obtain ⟨hb, _⟩ := yE hb o
   have g := (g.keep0 c).keep0 o
   have k := (k.keep0 c).keep0 o
   have K := (K.keep0 c).keep0 o
   have L := (L.keep0 c).keep0 o
   refine kt_end rfl ⟨K, L, g, k⟩ (kt_step (rs := [11]) zy (one_mem ?_))
   intro F c _ o x C B o_ ho_; obtain rfl := zE ho_
   obtain ⟨hb, _⟩ := yE hb c
   refine op_alloc (cs := [(.string (bs [])), (.slice none 0 0), (.int .i64 0), (.string (bs [])), (.string (bs [])), (.slice none 0 0), (.slice none 0 0), (.slice none 0 0), (.slice none 0 0), (.string (bs [])), (.slice none 0 0), (.slice none 0 0), (.slice none 0 0), (.bool false), (.slice none 0 0)]) zero68 rfl ?_
   intro C B F I o x
   obtain ⟨hb, _⟩ := yE hb x
   have g := (g.keep0 c).keep0 x
   have k := (k.keep0 c).keep0 x
   have K := (K.keep0 c).keep0 x
   have L := (L.keep0 c).keep0 x
   refine kt_end rfl ⟨K, L, g, k⟩ (kt_step (rs := [12]) zy (one_mem ?_))
   intro O C _ J I M F o_ ho_; obtain rfl := zE ho_
   obtain ⟨hb, _⟩ := yE hb C
   obtain ⟨g, k⟩ := kb2 C g k
   have l := ((l.keep0 c).keep0 x).keep0 C
   have c : Sl J 7 (ptr p 0) := (zE ((F 10 _ 7 zy rfl rfl).1 rfl)).symm
   have x : Sl J 55 (.agg #[(.string (bs (V.getD a default).nm)), (V.getD a default).sv, (.int .i64 (V.getD a default).act.f.kind), (.string (bs (V.getD a default).act.f.tb)), (.string (bs (V.getD a default).act.f.nm)), (V.getD a default).act.f.cv, (V.getD a default).act.f.gv, (V.getD a default).act.f.vv, (V.getD a default).act.f.iv, (.string (bs (V.getD a default).act.f.join)), (V.getD a default).act.f.ov, (V.getD a default).act.f.wv, (V.getD a default).act.f.rv, (.bool (V.getD a default).act.f.desc), (V.getD a default).act.nv]) := (F 4 _ 55 zy rfl rfl).2 rfl
   have F := l
   have hV' := hV.keep0 (zQ hb)
   refine zZ size68 (zC I rfl c) (zC I rfl x) rfl (by simp only [yA, yB, yC, yD, (hV'.2 (V.getD a default) (getD_mem zx)).1.one, (hV'.2 (V.getD a default) (getD_mem zx)).2.1.ff.1.one, (hV'.2 (V.getD a default) (getD_mem zx)).2.1.ff.2.1.one, (hV'.2 (V.getD a default) (getD_mem zx)).2.1.ff.2.2.1.1.one, (hV'.2 (V.getD a default) (getD_mem zx)).2.1.ff.2.2.2.1.one, (hV'.2 (V.getD a default) (getD_mem zx)).2.1.ff.2.2.2.2.1.1.one, (hV'.2 (V.getD a default) (getD_mem zx)).2.1.ff.2.2.2.2.2.1.1.one, (hV'.2 (V.getD a default) (getD_mem zx)).2.1.ff.2.2.2.2.2.2.1.one, (hV'.2 (V.getD a default) (getD_mem zx)).2.1.nvr.one]; try rfl) l rfl ?_
   intro x l c
   have := c.size
   have g := g.keep c (sN g F)
   have k := k.keep c (sN k F)
   have K := (K.keep0 C).keep c sR
   have L := (L.keep0 C).keep c sR
   have hb := below_step1 hb c hb.size zx
   refine kt_end0 rfl ⟨K, L, g, k⟩ ?_
   intro P F O x I J M
   have I := I.trans ((by simp only [putsL_defers] : _ = _).trans z)
   obtain ⟨hb, _⟩ := yE hb F
   obtain ⟨g, k⟩ := kb2 F g k
   have o := ((o.keep0 C).keep c sB).keep0 F
   have c := (J 2 rfl).trans (zL r rfl y)
   have C := (J 3 rfl).trans (zL r rfl A)
   have P := (J 6 rfl).trans (zL r rfl s)
   have J : Sl O 7 (ptr p 0) := (zE ((M 10 _ 7 rfl rfl).1 rfl)).symm
   have p : Sl O 8 (ptr B 0) := (zE ((M 11 _ 8 rfl rfl).1 rfl)).symm
   have B : Sl O 60 (.agg #[(.string (bs (V2.getD a default).nm)), (V2.getD a default).sv, (.int .i64 (V2.getD a default).act.f.kind), (.string (bs (V2.getD a default).act.f.tb)), (.string (bs (V2.getD a default).act.f.nm)), (V2.getD a default).act.f.cv, (V2.getD a default).act.f.gv, (V2.getD a default).act.f.vv, (V2.getD a default).act.f.iv, (.string (bs (V2.getD a default).act.f.join)), (V2.getD a default).act.f.ov, (V2.getD a default).act.f.wv, (V2.getD a default).act.f.rv, (.bool (V2.getD a default).act.f.desc), (V2.getD a default).act.nv]) := (M 9 _ 60 rfl rfl).2 rfl
   refine split_end (from_seq (tl := [_]) zz zy rfl ?_)
   have M := o
   have O := hV2.keep0 (zQ hb)
   refine zZ size68 (zC x rfl p) (zC x rfl B) rfl (by simp only [yA, yB, yC, yD, (O.2 (V2.getD a default) (getD_mem zx)).1.one, (O.2 (V2.getD a default) (getD_mem zx)).2.1.ff.1.one, (O.2 (V2.getD a default) (getD_mem zx)).2.1.ff.2.1.one, (O.2 (V2.getD a default) (getD_mem zx)).2.1.ff.2.2.1.1.one, (O.2 (V2.getD a default) (getD_mem zx)).2.1.ff.2.2.2.1.one, (O.2 (V2.getD a default) (getD_mem zx)).2.1.ff.2.2.2.2.1.1.one, (O.2 (V2.getD a default) (getD_mem zx)).2.1.ff.2.2.2.2.2.1.1.one, (O.2 (V2.getD a default) (getD_mem zx)).2.1.ff.2.2.2.2.2.2.1.one, (O.2 (V2.getD a default) (getD_mem zx)).2.1.nvr.one]; try rfl) o rfl ?_
   intro Q o B
   have := B.size
   have g := g.keep B (sN g M)
   have k := k.keep B (sN k M)
   have l := (l.keep0 F).keep B sB
   have hb := below_step1 hb B hb.size zx
   refine zB (H _ _ (zF fun _ H => zH (zM fld68_0 (zC x rfl J) (zN one9 (zA x rfl) (l.cell rfl) (zM fld68_0 (zC x rfl p) (zN one9 (zA x rfl) (o.cell rfl) (op_sneqb (b := false) (zA x rfl) (zA x rfl) (decide_eq_false (fun h => h (hVS.2 a zx).1)) ?_)))))))
   refine zG (zA x rfl) (zS (j := 5) (dj := 66) (b := false) rfl rfl rfl (zA x rfl) (zM fld68_1 (zC x rfl J) (zS (j := 5) (dj := 66) (b := false) rfl rfl rfl (zA x rfl) (zN one24 (zA x rfl) (l.cell rfl) (zS (j := 5) (dj := 66) (b := false) rfl rfl rfl (zA x rfl) (zM fld68_1 (zC x rfl p) (zS (j := 5) (dj := 66) (b := false) rfl rfl rfl (zA x rfl) (zN one24 (zA x rfl) (o.cell rfl) (zS (j := 5) (dj := 66) (b := false) rfl rfl rfl (zA x rfl) ?_)))))))))
   have hV' := hV.keep0 (zQ hb)
   have O := hV2.keep0 (zQ hb)
   refine zj ok35 (same_ret (hVS.2 a zx).2.1 (hV'.2 _ (getD_mem zx)).2.2 ((hV'.2 _ (getD_mem zx)).1.mono (Nat.zero_le _) zx) ((O.2 _ (getD_mem zx)).1.mono (Nat.zero_le _) zx)) ⟨(zA x rfl), ⟨(zA x rfl), trivial⟩⟩ ?_
   rintro _ F ⟨B, rfl⟩
   have B := zQ B
   obtain ⟨hb, _⟩ := yE hb B
   obtain ⟨l, o⟩ := kb2 B l o
   refine zS (j := 5) (dj := 66) (b := false) rfl rfl rfl (zA x rfl) (op_not (zA x rfl) (zd (zA x rfl) (zA x rfl) ?_))
   refine zG (zA x rfl) (zS (j := 13) (dj := 74) (b := false) rfl rfl rfl (zA x rfl) (zM fld68_2 (zC x rfl J) (zS (j := 13) (dj := 74) (b := false) rfl rfl rfl (zA x rfl) (zX (cs := [(.int .i64 (V.getD a default).act.f.kind), (.string (bs (V.getD a default).act.f.tb)), (.string (bs (V.getD a default).act.f.nm)), (V.getD a default).act.f.cv, (V.getD a default).act.f.gv, (V.getD a default).act.f.vv, (V.getD a default).act.f.iv, (.string (bs (V.getD a default).act.f.join)), (V.getD a default).act.f.ov, (V.getD a default).act.f.wv, (V.getD a default).act.f.rv, (.bool (V.getD a default).act.f.desc), (V.getD a default).act.nv]) agg37 rfl (zA x rfl) (fun j u hu => l.cell (at_pre9 (pre := [(.string (bs (V.getD a default).nm)), (V.getD a default).sv]) (suf := []) hu)) (zS (j := 13) (dj := 74) (b := false) rfl rfl rfl (zA x rfl) (zM fld68_2 (zC x rfl p) (zS (j := 13) (dj := 74) (b := false) rfl rfl rfl (zA x rfl) (zX (cs := [(.int .i64 (V2.getD a default).act.f.kind), (.string (bs (V2.getD a default).act.f.tb)), (.string (bs (V2.getD a default).act.f.nm)), (V2.getD a default).act.f.cv, (V2.getD a default).act.f.gv, (V2.getD a default).act.f.vv, (V2.getD a default).act.f.iv, (.string (bs (V2.getD a default).act.f.join)), (V2.getD a default).act.f.ov, (V2.getD a default).act.f.wv, (V2.getD a default).act.f.rv, (.bool (V2.getD a default).act.f.desc), (V2.getD a default).act.nv]) agg37 rfl (zA x rfl) (fun j u hu => o.cell (at_pre9 (pre := [(.string (bs (V2.getD a default).nm)), (V2.getD a default).sv]) (suf := []) hu)) (zS (j := 13) (dj := 74) (b := false) rfl rfl rfl (zA x rfl) ?_)))))))))
   have hV' := hV.keep0 (zQ hb)
   have O := hV2.keep0 (zQ hb)
   refine zj ok36 (SameS_all _ (hVS.2 a zx).2.2 ((hV'.2 _ (getD_mem zx)).2.1.mono (Nat.zero_le _) zx) ((O.2 _ (getD_mem zx)).2.1.mono (Nat.zero_le _) zx)) ⟨(zA x rfl), ⟨(zA x rfl), trivial⟩⟩ ?_
   rintro _ o ⟨l, rfl⟩
   have l := zQ l
   obtain ⟨hb, _⟩ := yE hb l
   have g := (g.keep0 B).keep0 l
   have k := (k.keep0 B).keep0 l
   refine zS (j := 13) (dj := 74) (b := false) rfl rfl rfl (zA x rfl) (op_not (zA x rfl) (zd (zA x rfl) (zA x rfl) (zB (H _ _ (wp_cond_false (zA x rfl) (wp_skip (q _ _ (zH (zG (zC x rfl P) (op_add (zA x rfl) rfl (add64 zx) (zD (zA x rfl) (zB ?_))))))))))))
   -- round 29F 48T
   exact zg _ x I ⟨(a + 1), rfl, (zL x rfl c), (zL x rfl C), (zU x rfl).trans (congrArg (Value.int .i64) zx), zx, hb, zx, g, k⟩ zx
  refine one_mem ?_
  intro l c _ p B x o o_ ho_; obtain rfl := zE ho_
  obtain ⟨hb, _⟩ := yE hb c
  refine op_alloc (cs := [(.string (bs [])), (.slice none 0 0), (.int .i64 0), (.string (bs [])), (.string (bs [])), (.slice none 0 0), (.slice none 0 0), (.slice none 0 0), (.slice none 0 0), (.string (bs [])), (.slice none 0 0), (.slice none 0 0), (.slice none 0 0), (.bool false), (.slice none 0 0)]) zero68 rfl ?_
  intro B p C x l o
  obtain ⟨hb, _⟩ := yE hb o
  have g := (g.keep0 c).keep0 o
  have k := (k.keep0 c).keep0 o
  have K := (K.keep0 c).keep0 o
  have L := (L.keep0 c).keep0 o
  refine kt_end rfl ⟨K, L, g, k⟩ (kt_step (rs := [10]) zy (one_mem ?_))
  intro F c _ x C o B o_ ho_; obtain rfl := zE ho_
  obtain ⟨hb, _⟩ := yE hb c
  refine op_alloc (cs := [(.string (bs [])), (.slice none 0 0), (.int .i64 0), (.string (bs [])), (.string (bs [])), (.slice none 0 0), (.slice none 0 0), (.slice none 0 0), (.slice none 0 0), (.string (bs [])), (.slice none 0 0), (.slice none 0 0), (.slice none 0 0), (.bool false), (.slice none 0 0)]) zero68 rfl ?_
  intro F B I C o x
  obtain ⟨hb, _⟩ := yE hb x
  have g := (g.keep0 c).keep0 x
  have k := (k.keep0 c).keep0 x
  have K := (K.keep0 c).keep0 x
  have L := (L.keep0 c).keep0 x
  refine kt_end rfl ⟨K, L, g, k⟩ (kt_step (rs := [12]) zy (one_mem ?_))
  intro P C _ I J M F o_ ho_; obtain rfl := zE ho_
  obtain ⟨hb, _⟩ := yE hb C
  obtain ⟨g, k, o⟩ := kb3 C g k o
  have M : Sl I 7 (ptr B 0) := (zE ((F 10 _ 7 zy rfl rfl).1 rfl)).symm
  have P : Sl I 55 (.agg #[(.string (bs (V.getD a default).nm)), (V.getD a default).sv, (.int .i64 (V.getD a default).act.f.kind), (.string (bs (V.getD a default).act.f.tb)), (.string (bs (V.getD a default).act.f.nm)), (V.getD a default).act.f.cv, (V.getD a default).act.f.gv, (V.getD a default).act.f.vv, (V.getD a default).act.f.iv, (.string (bs (V.getD a default).act.f.join)), (V.getD a default).act.f.ov, (V.getD a default).act.f.wv, (V.getD a default).act.f.rv, (.bool (V.getD a default).act.f.desc), (V.getD a default).act.nv]) := (F 4 _ 55 zy rfl rfl).2 rfl
  have F := o
  have hV' := hV.keep0 (zQ hb)
  refine zZ size68 (zC J rfl M) (zC J rfl P) rfl (by simp only [yA, yB, yC, yD, (hV'.2 (V.getD a default) (getD_mem zx)).1.one, (hV'.2 (V.getD a default) (getD_mem zx)).2.1.ff.1.one, (hV'.2 (V.getD a default) (getD_mem zx)).2.1.ff.2.1.one, (hV'.2 (V.getD a default) (getD_mem zx)).2.1.ff.2.2.1.1.one, (hV'.2 (V.getD a default) (getD_mem zx)).2.1.ff.2.2.2.1.one, (hV'.2 (V.getD a default) (getD_mem zx)).2.1.ff.2.2.2.2.1.1.one, (hV'.2 (V.getD a default) (getD_mem zx)).2.1.ff.2.2.2.2.2.1.1.one, (hV'.2 (V.getD a default) (getD_mem zx)).2.1.ff.2.2.2.2.2.2.1.one, (hV'.2 (V.getD a default) (getD_mem zx)).2.1.nvr.one]; try rfl) o rfl ?_
  intro J o I
  have := I.size
  have g := g.keep I (sN g F)
  have k := k.keep I (sN k F)
  have K := (K.keep0 C).keep I sR
  have L := (L.keep0 C).keep I sR
  have hb := below_step1 hb I hb.size zx
  refine kt_end0 rfl ⟨K, L, g, k⟩ ?_
  intro Q J M F L K P
  have L := L.trans ((by simp only [putsL_defers] : _ = _).trans z)
  obtain ⟨hb, _⟩ := yE hb J
  obtain ⟨g, k⟩ := kb2 J g k
  have l := ((((l.keep0 c).keep0 x).keep0 C).keep I sB).keep0 J
  have c := (K 2 rfl).trans (zL r rfl y)
  have x := (K 3 rfl).trans (zL r rfl A)
  have y := (K 6 rfl).trans (zL r rfl s)
  have s : Sl M 7 (ptr B 0) := (zE ((P 10 _ 7 rfl rfl).1 rfl)).symm
  have A : Sl M 8 (ptr p 0) := (zE ((P 11 _ 8 rfl rfl).1 rfl)).symm
  have p : Sl M 60 (.agg #[(.string (bs (V2.getD a default).nm)), (V2.getD a default).sv, (.int .i64 (V2.getD a default).act.f.kind), (.string (bs (V2.getD a default).act.f.tb)), (.string (bs (V2.getD a default).act.f.nm)), (V2.getD a default).act.f.cv, (V2.getD a default).act.f.gv, (V2.getD a default).act.f.vv, (V2.getD a default).act.f.iv, (.string (bs (V2.getD a default).act.f.join)), (V2.getD a default).act.f.ov, (V2.getD a default).act.f.wv, (V2.getD a default).act.f.rv, (.bool (V2.getD a default).act.f.desc), (V2.getD a default).act.nv]) := (P 9 _ 60 rfl rfl).2 rfl
  refine split_end (from_seq (tl := [_]) zz zy rfl ?_)
  have B := l
  have O := hV2.keep0 (zQ hb)
  refine zZ size68 (zC F rfl A) (zC F rfl p) rfl (by simp only [yA, yB, yC, yD, (O.2 (V2.getD a default) (getD_mem zx)).1.one, (O.2 (V2.getD a default) (getD_mem zx)).2.1.ff.1.one, (O.2 (V2.getD a default) (getD_mem zx)).2.1.ff.2.1.one, (O.2 (V2.getD a default) (getD_mem zx)).2.1.ff.2.2.1.1.one, (O.2 (V2.getD a default) (getD_mem zx)).2.1.ff.2.2.2.1.one, (O.2 (V2.getD a default) (getD_mem zx)).2.1.ff.2.2.2.2.1.1.one, (O.2 (V2.getD a default) (getD_mem zx)).2.1.ff.2.2.2.2.2.1.1.one, (O.2 (V2.getD a default) (getD_mem zx)).2.1.ff.2.2.2.2.2.2.1.one, (O.2 (V2.getD a default) (getD_mem zx)).2.1.nvr.one]; try rfl) l rfl ?_
  intro C l p
  have := p.size
  have g := g.keep p (sN g B)
  have k := k.keep p (sN k B)
  have o := (o.keep0 J).keep p sB
  have hb := below_step1 hb p hb.size zx
  refine zB (H _ _ (zF fun _ H => zH (zM fld68_0 (zC F rfl s) (zN one9 (zA F rfl) (o.cell rfl) (zM fld68_0 (zC F rfl A) (zN one9 (zA F rfl) (l.cell rfl) (op_sneqb (b := false) (zA F rfl) (zA F rfl) (decide_eq_false (fun h => h (hVS.2 a zx).1)) ?_)))))))
  refine zG (zA F rfl) (zS (j := 5) (dj := 66) (b := false) rfl rfl rfl (zA F rfl) (zM fld68_1 (zC F rfl s) (zS (j := 5) (dj := 66) (b := false) rfl rfl rfl (zA F rfl) (zN one24 (zA F rfl) (o.cell rfl) (zS (j := 5) (dj := 66) (b := false) rfl rfl rfl (zA F rfl) (zM fld68_1 (zC F rfl A) (zS (j := 5) (dj := 66) (b := false) rfl rfl rfl (zA F rfl) (zN one24 (zA F rfl) (l.cell rfl) (zS (j := 5) (dj := 66) (b := false) rfl rfl rfl (zA F rfl) ?_)))))))))
  have hV' := hV.keep0 (zQ hb)
  have O := hV2.keep0 (zQ hb)
  refine zj ok35 (same_ret (hVS.2 a zx).2.1 (hV'.2 _ (getD_mem zx)).2.2 ((hV'.2 _ (getD_mem zx)).1.mono (Nat.zero_le _) zx) ((O.2 _ (getD_mem zx)).1.mono (Nat.zero_le _) zx)) ⟨(zA F rfl), ⟨(zA F rfl), trivial⟩⟩ ?_
  rintro _ B ⟨p, rfl⟩
  have p := zQ p
  obtain ⟨hb, _⟩ := yE hb p
  obtain ⟨o, l⟩ := kb2 p o l
  refine zS (j := 5) (dj := 66) (b := false) rfl rfl rfl (zA F rfl) (op_not (zA F rfl) (zd (zA F rfl) (zA F rfl) ?_))
  refine zG (zA F rfl) (zS (j := 13) (dj := 74) (b := false) rfl rfl rfl (zA F rfl) (zM fld68_2 (zC F rfl s) (zS (j := 13) (dj := 74) (b := false) rfl rfl rfl (zA F rfl) (zX (cs := [(.int .i64 (V.getD a default).act.f.kind), (.string (bs (V.getD a default).act.f.tb)), (.string (bs (V.getD a default).act.f.nm)), (V.getD a default).act.f.cv, (V.getD a default).act.f.gv, (V.getD a default).act.f.vv, (V.getD a default).act.f.iv, (.string (bs (V.getD a default).act.f.join)), (V.getD a default).act.f.ov, (V.getD a default).act.f.wv, (V.getD a default).act.f.rv, (.bool (V.getD a default).act.f.desc), (V.getD a default).act.nv]) agg37 rfl (zA F rfl) (fun j u hu => o.cell (at_pre9 (pre := [(.string (bs (V.getD a default).nm)), (V.getD a default).sv]) (suf := []) hu)) (zS (j := 13) (dj := 74) (b := false) rfl rfl rfl (zA F rfl) (zM fld68_2 (zC F rfl A) (zS (j := 13) (dj := 74) (b := false) rfl rfl rfl (zA F rfl) (zX (cs := [(.int .i64 (V2.getD a default).act.f.kind), (.string (bs (V2.getD a default).act.f.tb)), (.string (bs (V2.getD a default).act.f.nm)), (V2.getD a default).act.f.cv, (V2.getD a default).act.f.gv, (V2.getD a default).act.f.vv, (V2.getD a default).act.f.iv, (.string (bs (V2.getD a default).act.f.join)), (V2.getD a default).act.f.ov, (V2.getD a default).act.f.wv, (V2.getD a default).act.f.rv, (.bool (V2.getD a default).act.f.desc), (V2.getD a default).act.nv]) agg37 rfl (zA F rfl) (fun j u hu => l.cell (at_pre9 (pre := [(.string (bs (V2.getD a default).nm)), (V2.getD a default).sv]) (suf := []) hu)) (zS (j := 13) (dj := 74) (b := false) rfl rfl rfl (zA F rfl) ?_)))))))))
  have hV' := hV.keep0 (zQ hb)
  have O := hV2.keep0 (zQ hb)
  refine zj ok36 (SameS_all _ (hVS.2 a zx).2.2 ((hV'.2 _ (getD_mem zx)).2.1.mono (Nat.zero_le _) zx) ((O.2 _ (getD_mem zx)).2.1.mono (Nat.zero_le _) zx)) ⟨(zA F rfl), ⟨(zA F rfl), trivial⟩⟩ ?_
  rintro _ o ⟨l, rfl⟩
  have l := zQ l
  obtain ⟨hb, _⟩ := yE hb l
  have g := (g.keep0 p).keep0 l
  have k := (k.keep0 p).keep0 l
  refine zS (j := 13) (dj := 74) (b := false) rfl rfl rfl (zA F rfl) (op_not (zA F rfl) (zd (zA F rfl) (zA F rfl) (zB (H _ _ (wp_cond_false (zA F rfl) (wp_skip (q _ _ (zH (zG (zC F rfl y) (op_add (zA F rfl) rfl (add64 zx) (zD (zA F rfl) (zB ?_))))))))))))
  -- round 29F 48T
  exact zg _ F L ⟨(a + 1), rfl, (zL F rfl c), (zL F rfl x), (zU F rfl).trans (congrArg (Value.int .i64) zx), zx, hb, zx, g, k⟩ zx
 refine zB (H _ _ (wp_cond_false (zA r rfl) (wp_exit (then_exit (then_exit (blk_hit (e _ _ (zF fun _ e => zH (zD rfl (zB (e _ _ (wp_ret (ret1 rfl z (zA r rfl) ⟨_, rfl, ?_⟩)))))))))))))
 exact ⟨hb, rfl⟩

theorem begun9_ret {w : World} : Ret Tryz.prog 4 #[] w (fun v' w' => Below w.heap.size w w' ∧ v' = .bool true) := by
 have hb := Below.refl w.heap.size w
 refine enter (N := 37) Tryz.func4 rfl rfl (by simp) fun a hN hd hA => ?_
 clear hA
 refine zF fun _ a => zH (zD rfl (zB (a _ _ (zF fun _ a => zH (zf (pv := []) (v := (Value.agg #[(.slice none 0 0), (.slice none 0 0)])) trivial zy (zf (pv := [(0, (.string (bs [107]))), (1, (.int .i64 1))]) (v := (Value.agg #[(.string (bs [107])), (.int .i64 1), (.string (bs []))])) ⟨rfl, rfl, ⟨rfl, rfl, trivial⟩⟩ zy (op_bslice (e := 48) (pv := [(0, (.agg #[(.string (bs [107])), (.int .i64 1), (.string (bs []))]))]) (cs := [(.string (bs [107])), (.int .i64 1), (.string (bs []))]) ⟨rfl, (zA hN rfl), trivial⟩ zy ?_)))))))
 intro m c p l g k
 obtain ⟨hb, _⟩ := yE hb k
 refine zf (pv := [(0, (.int .i64 1)), (2, (.string (bs [116]))), (3, (.slice (some ⟨c, 0, none⟩) 1 1))]) (v := (Value.agg #[(.int .i64 1), (.string (bs [])), (.string (bs [116])), (.slice (some ⟨c, 0, none⟩) 1 1), (.slice none 0 0), (.slice none 0 0), (.slice none 0 0), (.string (bs [])), (.slice none 0 0), (.slice none 0 0), (.slice none 0 0), (.bool false), (.slice none 0 0)])) ⟨rfl, rfl, ⟨rfl, rfl, ⟨rfl, (zA hN rfl), trivial⟩⟩⟩ zy (zj ok9 (AddN_ret (D := ([] : List DTab)) (V := ([] : List DVw)) (o := ([] : Lb)) (s := (XS.mk (StF.mk 1 [] ([116]) (.slice (some ⟨c, 0, none⟩) 1 1) ([(PCol.mk ([107]) 1 [])]) (.slice none 0 0) [] (.slice none 0 0) [] (.slice none 0 0) [] [] (.slice none 0 0) [] (.slice none 0 0) [] (.slice none 0 0) [] false) (.slice none 0 0) [])) ⟨RdC.nil _ _ _ _, fun _ h => (by cases h)⟩ zz (fun _ h => (by cases h)) (VsFr.nil _ _ _) (SFr.flat (s := (XS.mk (StF.mk 1 [] ([116]) (.slice (some ⟨c, 0, none⟩) 1 1) ([(PCol.mk ([107]) 1 [])]) (.slice none 0 0) [] (.slice none 0 0) [] (.slice none 0 0) [] [] (.slice none 0 0) [] (.slice none 0 0) [] (.slice none 0 0) [] false) (.slice none 0 0) [])) ⟨(((RdC.ofBx (sz := 3) (n := 1) g rfl zz).mono (Nat.zero_le _) g.lt).cast rfl rfl), (RdC.nil _ _ _ _), XsFr.nil _ _ _, (RdC.nil _ _ _ _), XsFr.nil _ _ _, XsFr.nil _ _ _, XsFr.nil _ _ _⟩ ⟨(zI rfl), (zI rfl), (zI rfl)⟩ rfl rfl) (zI rfl) (RdC.nil _ _ _ _) (show (1 : Int) ≠ 2 by decide)) ⟨(zA hN rfl), ⟨(zA hN rfl), ⟨rfl, trivial⟩⟩⟩ ?_)
 rintro _ r ⟨l, u, q, k, t, rfl, g, c, m, p⟩
 have p := g.1
 have q := c.1
 have l := zQ l
 obtain ⟨hb, _⟩ := yE hb l
 refine zG (zA hN rfl) (zW (zA hN rfl) rfl (zW (zA hN rfl) rfl (op_alloc (cs := [(.slice none 0 0), (.slice none 0 0)]) zero30 rfl ?_)))
 intro t u x r q l
 obtain ⟨hb, _⟩ := yE hb l
 have p := p.keep0 l
 have c := c.keep0 l
 refine zZ size30 (zA hN rfl) (zA hN rfl) rfl (by simp only [yA, yB, yC, yD, p.one, c.rdc.one]; try rfl) q rfl ?_
 intro r q p
 have := p.size
 have g := (g.keep0 l).keep p sO
 have c := c.keep p sO
 have hb := below_step1 hb p hb.size zx
 refine zD (zA hN rfl) (zB (a _ _ (zF fun _ a => zH ?_)))
 obtain ⟨l, _⟩ := m rfl
 have m : k.map DTab.t = [PTab.mk [116] [PCol.mk [107] 1 []] []] := l.trans rfl
 have hDz := SzT.d (D := k) (by rw [m]; exact ⟨by decide, by decide⟩)
 refine zY agg30 rfl (zA hN rfl) q ?_
 rcases Bool.eq_false_or_eq_true ((tabAt (k.map DTab.t) ([116])).isSome) with l | l
 ·
  refine zj ok12 (Table2T l (g.rd.mono zx) hDz.1 hDz.2 (c.mono (Nat.zero_le _) zx)) ⟨(zA hN rfl), ⟨rfl, trivial⟩⟩ ?_
  rintro _ r ⟨p, k, rfl, q, c, g⟩
  have p := zQ p
  obtain ⟨hb, _⟩ := yE hb p
  have c := c.mono (base' := w.heap.size) zx
  have g := g.mono (base' := w.heap.size) zx
  refine zG (zA hN rfl) (zW (zA hN rfl) rfl (zW (zA hN rfl) rfl (op_alloc (cs := [(.string (bs [])), (.slice none 0 0), (.slice none 0 0)]) zero51 rfl ?_)))
  intro t x u y p r
  obtain ⟨hb, _⟩ := yE hb r
  have c := c.keep0 r
  have g := g.keep0 r
  have r := p
  refine zZ size51 (zA hN rfl) (zA hN rfl) rfl (by simp only [yA, yB, yC, yD, c.one, g.one]; try rfl) p rfl ?_
  intro u p t
  have := t.size
  have c := c.keepX r t zz
  have g := g.keepX r t zz
  have hb := below_step1 hb t hb.size zx
  refine zD (zA hN rfl) (zB (a _ _ (zF fun _ a => zH ?_)))
  have r : k.t = PTab.mk [116] [PCol.mk [107] 1 []] [] := by rw [m] at q; exact (zE q).symm
  refine zG (zA hN rfl) (op_eql (zA hN rfl) rfl (fun q => ?_) (fun q => ?_))
  ·
   refine zG (zA hN rfl) (zS (j := 2) (dj := 20) (b := true) rfl rfl rfl (zA hN rfl) (zG (zA hN rfl) ?_))
   refine zc (zA hN rfl) (zA hN rfl) (zG (zA hN rfl) (zS (j := 5) (dj := 23) (b := true) rfl rfl rfl (zA hN rfl) (zY agg51 rfl (zA hN rfl) p (zS (j := 5) (dj := 23) (b := true) rfl rfl rfl (zA hN rfl) (zj ok13 (Column_ret k.t.nm k.t.cols _ k.iv ([107]) _ (c.rdw.mono (Nat.zero_le _) zx)) ⟨(zA hN rfl), ⟨rfl, trivial⟩⟩ ?_)))))
   rintro _ u ⟨t, rfl⟩
   have t := zQ t
   obtain ⟨hb, _⟩ := yE hb t
   have c := c.keep0 t
   have g := g.keep0 t
   have p := p.keep0 t
   refine zS (j := 5) (dj := 23) (b := true) rfl rfl rfl (zA hN rfl) (op_eql (zA hN rfl) rfl (fun t => ?_) (fun t => ?_))
   ·
    refine zc (zA hN rfl) (zA hN rfl) (zG (zA hN rfl) (zS (j := 10) (dj := 28) (b := true) rfl rfl rfl (zA hN rfl) (zY agg51 rfl (zA hN rfl) p (zS (j := 10) (dj := 28) (b := true) rfl rfl rfl (zA hN rfl) (zj ok13 (Column_ret k.t.nm k.t.cols _ k.iv ([113]) _ (c.rdw.mono (Nat.zero_le _) zx)) ⟨(zA hN rfl), ⟨rfl, trivial⟩⟩ ?_)))))
    rintro _ x ⟨u, rfl⟩
    have u := zQ u
    obtain ⟨hb, _⟩ := yE hb u
    have c := c.keep0 u
    have g := g.keep0 u
    have p := p.keep0 u
    refine zS (j := 10) (dj := 28) (b := true) rfl rfl rfl (zA hN rfl) (op_eql (zA hN rfl) rfl (fun u => ?_) (fun u => ?_))
    ·
     refine zc (zA hN rfl) (zA hN rfl) (zG (zA hN rfl) (zS (j := 15) (dj := 33) (b := true) rfl rfl rfl (zA hN rfl) (zY agg51 rfl (zA hN rfl) p (zS (j := 15) (dj := 33) (b := true) rfl rfl rfl (zA hN rfl) (zj ok14 (Indexed_ret ([107]) (c.rdw.mono (Nat.zero_le _) zx) (g.rdw.mono (Nat.zero_le _) zx)) ⟨(zA hN rfl), ⟨rfl, trivial⟩⟩ ?_)))))
     rintro _ g ⟨c, rfl⟩
     have c := zQ c
     obtain ⟨hb, _⟩ := yE hb c
     rcases Bool.eq_false_or_eq_true ((decide ((colIx k.t.cols ([107])) = 0 ∨ [107] ∈ k.t.idx))) with c | c
     ·
      rw [c]
      refine zc (zA hN rfl) (zA hN rfl) (zD (zA hN rfl) (zB (a _ _ (wp_ret (ret1 rfl hd (zA hN rfl) ⟨_, rfl, ?_⟩)))))
      exact ⟨hb, rfl⟩
     exact absurd (.inl (by rw [r]; rfl)) (of_decide_eq_false c)
    exact absurd (by rw [r]; rfl) u
   exact absurd (by rw [r]; rfl) t
  exact absurd rfl q
 exact absurd (show (tabAt [PTab.mk [116] [PCol.mk [107] 1 []] []] [116]).isSome = true from rfl) (by rw [m] at l; rw [l]; decide)

theorem Num_ret {base p n Bp : Nat} {lv : Value} {bl : List UInt8} {m : Nat} {w : World} (hpk : PickR w base p lv bl n (fun k => k = p)) (hBp : Bp ≤ p) (hbl : RdC w 0 Bp 1 lv bl.length (bl.map u8v)) (hm : 0 < m) (hm2 : m ≤ 1000000) : Ret Tryz.prog 15 #[(ptr p 0), (.int .i64 ((m : Nat) : Int))] w (fun v' w' => Gr w w' (fun k => k = p) ∧ ∃ r : Nat, v' = .int .i64 ((r : Nat) : Int) ∧ r < m ∧ ∃ n' : Nat, PickR w' base p lv bl n' (fun k => k = p) ∧ n ≤ n' ∧ (n < bl.length → n < n')) := by
 have hi_p : p < w.heap.size := (hpk.lt p rfl).2
 obtain ⟨_, a, e, c, hx⟩ := hpk
 have hb := Gr.refl w (fun k => k = p)
 refine enter (N := 36) Tryz.func15 rfl rfl (by simp) fun g hN hd hA => ?_
 have j : g.tmps.getD 0 undef = (ptr p 0) := hA 0 (by simp)
 have l : g.tmps.getD 1 undef = (.int .i64 ((m : Nat) : Int)) := hA 1 (by simp)
 clear hA
 refine zF fun _ g => zH (zD rfl (zB (g _ _ (zF fun _ g => zF fun _ o => reg_still mixed zy ?_))))
 intro s q
 obtain ⟨hb, _⟩ := yG hb q
 have hx := hx.keep0 q
 have hbl := hbl.keep0 q
 refine st_step rfl (fun _ q => zG (zC hN rfl j) q) (st_step rfl (fun _ q => op_nil (zA hN rfl) q) ?_)
 refine st_step rfl (fun _ q => zM fld58_1 (zA hN rfl) q) (st_step rfl (fun _ q => zN one3 (zA hN rfl) (hx.cell rfl) q) (st_step rfl (fun _ q => zG (zC hN rfl j) q) (st_step rfl (fun _ q => op_nil (zA hN rfl) q) (st_step rfl (fun _ q => zM fld58_0 (zA hN rfl) q) (st_step rfl (fun _ q => zN one31 (zA hN rfl) (hx.cell rfl) q) (st_step rfl (fun _ q => op_len_rd Tryz.underlying31 (zA hN rfl) hbl q) (st_step rfl (fun _ q => op_cmp (b := (decide (((bl.length : Nat) : Int) ≤ ((n : Nat) : Int)))) (zA hN rfl) (zA hN rfl) (b_geq rfl) q) (st_nil (o _ _ (wp_cond_split (zA hN rfl) (fun s => ?_) (fun s => ?_)))))))))))
 ·
  have s := of_decide_eq_true s
  refine zF fun _ o => zH (zD rfl (zB (o _ _ (wp_ret (zO ( (ret1 rfl hd (zA hN rfl) ⟨_, rfl, ?_⟩)))))))
  exact ⟨hb, 0, rfl, hm, n, ⟨rfl, a, e, c, hx⟩, Nat.le_refl _, fun h => absurd h zx⟩
 have s := of_decide_eq_false s
 refine wp_skip (g _ _ (zF fun _ g => zH (zG (zC hN rfl j) (op_nil (zA hN rfl) (zM fld58_1 (zA hN rfl) (zN one3 (zA hN rfl) (hx.cell rfl) (op_add (r := ((n + 1 : Nat) : Int)) (zA hN rfl) rfl ((add64 zx).trans zx) (op_nil (zA hN rfl) (zM fld58_1 (zA hN rfl) (za (vs := [(.int .i64 ((n + 1 : Nat) : Int))]) (cs' := [lv, (.int .i64 ((n + 1 : Nat) : Int))]) size3 (zA hN rfl) (zA hN rfl) rfl rfl rfl hx (zI rfl) rfl ?_))))))))))
 intro o hx e
 have := e.size
 have hb := hb.stepB e rfl
 refine zB (g _ _ (zF fun _ g => reg_still mixed zy ?_))
 intro s o
 obtain ⟨hb, _⟩ := yG hb o
 have hbl := (hbl.keep e sR).keep0 o
 have hx := hx.keep0 o
 refine st_step rfl (fun _ q => zG (zC hN rfl j) q) (st_step rfl (fun _ q => op_nil (zA hN rfl) q) (st_step rfl (fun _ q => zM fld58_0 (zA hN rfl) q) (st_step rfl (fun _ q => zN one31 (zA hN rfl) (hx.cell rfl) q) (st_step rfl (fun _ q => zG (zC hN rfl j) q) (st_step rfl (fun _ q => op_nil (zA hN rfl) q) (st_step rfl (fun _ q => zM fld58_1 (zA hN rfl) q) (st_step rfl (fun _ q => zN one3 (zA hN rfl) (hx.cell rfl) q) (st_step rfl (fun _ q => op_sub (r := ((n : Nat) : Int)) (zA hN rfl) rfl ((sub64 zx).trans zx) q) (st_index_rd slt31 (zA hN rfl) hbl (zA hN rfl) zx zx ?_)))))))))
 intro t s j o e
 refine st_step rfl (fun _ q => zN (v := (Value.int .u8 ((bl.getD n 0).toNat : Int))) one5 (zA hN rfl) (by have := e 0 (.int .u8 ((bl.getD n 0).toNat : Int)) zz (el_u8 (i := n) zx zx); simpa using this) q) (st_step rfl (fun _ q => op_conv (r := ((bl.getD n 0).toNat : Int)) (zA hN rfl) us5 Tryz.underlying3 (wrap_i64 (by have := ((bl.getD n 0)).toNat_lt; omega)) q) (st_step rfl (fun _ q => zG (zC hN rfl l) q) (st_step rfl (fun _ q => op_rem (r := (((bl.getD n 0).toNat % m : Nat) : Int)) (zA hN rfl) (zA hN rfl) zx (by rw [Int.tmod_eq_emod_of_nonneg zx]; omega) q) (st_step rfl (fun _ q => zD (zA hN rfl) q) (st_nil (g _ _ (wp_ret (ret1 rfl hd (zA hN rfl) ⟨_, rfl, ?_⟩))))))))
 exact ⟨hb, _, rfl, Nat.mod_lt _ zx, n + 1, ⟨rfl, a, by omega, c, hx⟩, by omega, fun _ => by omega⟩

theorem Over_ret {base p n Bp : Nat} {lv : Value} {bl : List UInt8} {w : World} (hpk : PickR w base p lv bl n (fun k => k = p)) (hBp : Bp ≤ p) (hbl : RdC w 0 Bp 1 lv bl.length (bl.map u8v)) : Ret Tryz.prog 21 #[(ptr p 0)] w (fun v' w' => Gr w w' (fun k => k = p) ∧ v' = .bool (decide (bl.length ≤ n)) ∧ PickR w' base p lv bl n (fun k => k = p)) := by
 have hi_p : p < w.heap.size := (hpk.lt p rfl).2
 obtain ⟨_, e, c, a, hx⟩ := hpk
 have hb := Gr.refl w (fun k => k = p)
 refine enter (N := 13) Tryz.func21 rfl rfl (by simp) fun g hN hd hA => ?_
 have h : g.tmps.getD 0 undef = (ptr p 0) := hA 0 (by simp)
 clear hA
 refine zF fun _ g => zH (zD rfl (zB (g _ _ (zF fun _ g => reg_still mixed zy ?_))))
 intro l j
 obtain ⟨hb, _⟩ := yG hb j
 have hx := hx.keep0 j
 have hbl := hbl.keep0 j
 refine st_step rfl (fun _ j => zG (zC hN rfl h) j) (st_step rfl (fun _ j => op_nil (zA hN rfl) j) (st_step rfl (fun _ j => zM fld58_1 (zA hN rfl) j) (st_step rfl (fun _ j => zN one3 (zA hN rfl) (hx.cell rfl) j) ?_)))
 refine st_step rfl (fun _ j => zG (zC hN rfl h) j) (st_step rfl (fun _ j => op_nil (zA hN rfl) j) (st_step rfl (fun _ j => zM fld58_0 (zA hN rfl) j) (st_step rfl (fun _ j => zN one31 (zA hN rfl) (hx.cell rfl) j) (st_step rfl (fun _ j => op_len_rd Tryz.underlying31 (zA hN rfl) hbl j) (st_step rfl (fun _ j => op_cmp (b := (decide (((bl.length : Nat) : Int) ≤ ((n : Nat) : Int)))) (zA hN rfl) (zA hN rfl) (b_geq rfl) j) (st_step rfl (fun _ j => zD (zA hN rfl) j) (st_nil (g _ _ (wp_ret (ret1 rfl hd (zA hN rfl) ⟨_, rfl, ?_⟩))))))))))
 exact ⟨hb, congrArg Value.bool (decide_eq_decide.2 zx), rfl, e, c, a, hx⟩

theorem Value_ret {base p n Bp : Nat} {lv : Value} {bl : List UInt8} {kd : Int} {w : World} (hpk : PickR w base p lv bl n (fun k => k = p)) (hBp : Bp ≤ p) (hbl : RdC w 0 Bp 1 lv bl.length (bl.map u8v)) : Ret Tryz.prog 46 #[(ptr p 0), (.int .i64 kd)] w (fun v' w' => Gr w w' (fun k => k = p) ∧ ∃ (i : Int) (s : List UInt8), v' = .agg #[.int .i64 (if kd = 2 then (2 : Int) else 1), .int .i64 i, .string (bs s)] ∧ ∃ n' : Nat, PickR w' base p lv bl n' (fun k => k = p) ∧ n ≤ n') := by
 have hi_p : p < w.heap.size := (hpk.lt p rfl).2
 have hb := Gr.refl w (fun k => k = p)
 refine enter (N := 21) Tryz.func46 rfl rfl (by simp) fun a hN hd hA => ?_
 have b : a.tmps.getD 0 undef = (ptr p 0) := hA 0 (by simp)
 have c : a.tmps.getD 1 undef = (.int .i64 kd) := hA 1 (by simp)
 clear hA
 have c_hbl : ∀ k, (fun k => k = p) k → k < 0 ∨ Bp ≤ k := fun k hk => .inr (by have := hpk.lt k hk; omega)
 refine zF fun _ a => zH (op_alloc (cs := [(.int .i64 0), (.int .i64 0), (.string (bs []))]) zero87 rfl ?_)
 intro r o t q g j
 have q : ¬ (fun k => k = p) o := fun hf => by have := (hpk.lt _ hf).2; omega
 obtain ⟨hb, _⟩ := yG hb j
 have hpk := hpk.kz j
 refine zB (a _ _ (zF fun _ a => zF fun _ j => zH (zG (zC hN rfl c) (op_eql (zA hN rfl) rfl (fun o => ?_) (fun o => ?_)))))
 ·
  refine zB (j _ _ (wp_cond_true (zA hN rfl) (zF fun _ j => zH (op_bslice (e := 9) (pv := [(0, (.string (bs [97]))), (1, (.string (bs [98]))), (2, (.string (bs []))), (3, (.string (bs [105, 116, 39, 115]))), (4, (.string (bs [122, 122])))]) (cs := [(.string (bs [97])), (.string (bs [98])), (.string (bs [])), (.string (bs [105, 116, 39, 115])), (.string (bs [122, 122]))]) ⟨rfl, rfl, ⟨rfl, rfl, ⟨rfl, rfl, ⟨rfl, rfl, ⟨rfl, rfl, trivial⟩⟩⟩⟩⟩ zy ?_))))
  intro u r t y c o
  have t : ¬ (fun k => k = p) r := fun hf => by have := (hpk.lt _ hf).2; omega
  obtain ⟨hb, _⟩ := yG hb o
  have hpk := hpk.kz o
  refine zG (zC hN rfl b) ?_
  have hbl' := hbl.keepG hb c_hbl
  refine zj ok15 (Num_ret (m := 5) hpk zx hbl' zx zx) ⟨(zA hN rfl), ⟨rfl, trivial⟩⟩ ?_
  rintro _ B ⟨u, r, rfl, C, z, y, A, D⟩
  have := u.size
  have g := (g.keep0 o).keepG u q
  have c := c.keepG u t
  have hb := hb.stepF u (fun _ _ h => h)
  refine zh slt49 (zA hN rfl) (RdC.ofBx (sz := 1) (n := 5) c rfl zz) (zA hN rfl) zx zx ?_
  intro A o t u c
  refine zN (v := (Value.string (bs (([[97], [98], [], [105, 116, 39, 115], [122, 122]] : List (List UInt8)).getD r [])))) one9 (zA hN rfl) (by have := c 0 (.string (bs (([[97], [98], [], [105, 116, 39, 115], [122, 122]] : List (List UInt8)).getD r []))) zz (el_sv (l := ([[97], [98], [], [105, 116, 39, 115], [122, 122]] : List (List UInt8))) (i := r) rfl (show _ < 5 by omega)); simpa using this) (zf (pv := [(0, (.int .i64 2)), (2, (.string (bs (([[97], [98], [], [105, 116, 39, 115], [122, 122]] : List (List UInt8)).getD r []))))]) (v := (Value.agg #[(.int .i64 2), (.int .i64 0), (.string (bs (([[97], [98], [], [105, 116, 39, 115], [122, 122]] : List (List UInt8)).getD r [])))])) ⟨rfl, rfl, ⟨rfl, (zA hN rfl), trivial⟩⟩ zy (zZ size87 (zA hN rfl) (zA hN rfl) rfl rfl g rfl ?_))
  intro o g c
  have := c.size
  have y := y.keepG (Gr.of c) (Dj.one q)
  have hb := hb.step1 c zx
  refine zB (j _ _ (wp_ret (zO ( (retC rfl hd (zA hN rfl) agg87 rfl g ⟨_, rfl, ?_⟩)))))
  exact ⟨hb, 0, (([[97], [98], [], [105, 116, 39, 115], [122, 122]] : List (List UInt8)).getD r []), congrArg (fun x : Int => Value.agg #[.int .i64 x, .int .i64 0, .string (bs (([[97], [98], [], [105, 116, 39, 115], [122, 122]] : List (List UInt8)).getD r []))]) ((if_pos zx).symm : (2 : Int) = if kd = 2 then 2 else 1), z, y, by omega⟩
 refine zB (j _ _ (wp_cond_false (zA hN rfl) (wp_skip (a _ _ (zF fun _ a => zH (zG (zC hN rfl b) ?_))))))
 have hbl' := hbl.keepG hb c_hbl
 refine zj ok15 (Num_ret (m := 12) hpk zx hbl' zx zx) ⟨(zA hN rfl), ⟨rfl, trivial⟩⟩ ?_
 rintro _ y ⟨o, c, rfl, t, r, b, z, u⟩
 have := o.size
 have g := g.keepG o q
 have hb := hb.stepF o (fun _ _ h => h)
 refine zD (zA hN rfl) (zB (a _ _ (zF fun _ a => zF fun _ j => zH (zG (zA hN rfl) (op_eql (zA hN rfl) rfl (fun o => ?_) (fun o => ?_))))))
 ·
  refine zB (j _ _ (wp_cond_true (zA hN rfl) (zF fun _ j => zH (zf (pv := [(0, (.int .i64 1)), (1, (.int .i64 9223372036854775807))]) (v := (Value.agg #[(.int .i64 1), (.int .i64 9223372036854775807), (.string (bs []))])) ⟨rfl, rfl, ⟨rfl, rfl, trivial⟩⟩ zy (zZ size87 (zA hN rfl) (zA hN rfl) rfl rfl g rfl ?_)))))
  intro t g o
  have := o.size
  have b := b.keepG (Gr.of o) (Dj.one q)
  have hb := hb.step1 o zx
  refine zB (j _ _ (wp_ret (zO ( (retC rfl hd (zA hN rfl) agg87 rfl g ⟨_, rfl, ?_⟩)))))
  exact ⟨hb, 9223372036854775807, [], congrArg (fun x : Int => Value.agg #[.int .i64 x, .int .i64 9223372036854775807, .string (bs [])]) ((if_neg zx).symm : (1 : Int) = if kd = 2 then 2 else 1), r, b, by omega⟩
 refine zB (j _ _ (wp_cond_false (zA hN rfl) (wp_skip (a _ _ (zF fun _ a => zH (zG (zA hN rfl) (zf (pv := [(0, (.int .i64 1)), (1, (.int .i64 ((c : Nat) : Int)))]) (v := (Value.agg #[(.int .i64 1), (.int .i64 ((c : Nat) : Int)), (.string (bs []))])) ⟨rfl, rfl, ⟨rfl, (zA hN rfl), trivial⟩⟩ zy (zZ size87 (zA hN rfl) (zA hN rfl) rfl rfl g rfl ?_))))))))
 intro o g j
 have := j.size
 have b := b.keepG (Gr.of j) (Dj.one q)
 have hb := hb.step1 j zx
 refine zB (a _ _ (wp_ret (retC rfl hd (zA hN rfl) agg87 rfl g ⟨_, rfl, ?_⟩)))
 exact ⟨hb, ((c : Nat) : Int), [], congrArg (fun x : Int => Value.agg #[.int .i64 x, .int .i64 ((c : Nat) : Int), .string (bs [])]) ((if_neg zx).symm : (1 : Int) = if kd = 2 then 2 else 1), r, b, by omega⟩

theorem lit_ret (k i : Int) (s : List UInt8) (w : World) : Ret Tryz.prog 45 #[(.agg #[(.int .i64 k), (.int .i64 i), (.string (bs s))])] w (fun v' w' => Below w.heap.size w w' ∧ v' = .agg #[.int .i64 1, .int .i64 k, .int .i64 i, .string (bs s), .string (bs []), .string (bs []), .slice none 0 0]) := by
 have hb := Below.refl w.heap.size w
 refine enter (N := 5) Tryz.func45 rfl rfl (by simp) fun a hN hd hA => ?_
 have b : a.tmps.getD 0 undef = (.agg #[(.int .i64 k), (.int .i64 i), (.string (bs s))]) := hA 0 (by simp)
 clear hA
 refine zF fun _ a => zH (op_box (cs := [(.int .i64 k), (.int .i64 i), (.string (bs s))]) (zC hN rfl b) rfl ?_)
 intro g j h e b c
 obtain ⟨hb, _⟩ := yE hb c
 refine op_alloc (cs := [(.int .i64 0), (.int .i64 0), (.int .i64 0), (.string (bs [])), (.string (bs [])), (.string (bs [])), (.slice none 0 0)]) zero89 rfl ?_
 intro l g h j c e
 obtain ⟨hb, _⟩ := yE hb e
 have b := b.keep0 e
 refine zB (a _ _ (zF fun _ a => zH (zY agg87 rfl (zA hN rfl) b (zf (pv := [(0, (.int .i64 1)), (1, (.agg #[(.int .i64 k), (.int .i64 i), (.string (bs s))]))]) (v := (Value.agg #[(.int .i64 1), (.int .i64 k), (.int .i64 i), (.string (bs s)), (.string (bs [])), (.string (bs [])), (.slice none 0 0)])) ⟨rfl, rfl, ⟨rfl, (zA hN rfl), trivial⟩⟩ zy (zZ size89 (zA hN rfl) (zA hN rfl) rfl rfl c rfl ?_)))))
 intro e c b
 have := b.size
 have hb := below_step1 hb b hb.size zx
 refine zB (a _ _ (wp_ret (retC rfl hd (zA hN rfl) agg89 rfl c ⟨_, rfl, ?_⟩)))
 exact ⟨hb, rfl⟩

theorem two_ret {L : Nat} (op : Int) (a b : XE) (w : World) (hL : L ≤ w.heap.size) (ha : XFr w L w.heap.size a) (hb9 : XFr w L w.heap.size b) : Ret Tryz.prog 68 #[(.int .i64 op), (.agg #[(.int .i64 a.op), (.int .i64 a.vk), (.int .i64 a.vi), (.string (bs a.vt)), (.string (bs a.tb)), (.string (bs a.nm)), a.av]), (.agg #[(.int .i64 b.op), (.int .i64 b.vk), (.int .i64 b.vi), (.string (bs b.vt)), (.string (bs b.tb)), (.string (bs b.nm)), b.av])] w (fun v' w' => Below w.heap.size w w' ∧ ∃ av : Value, v' = .agg #[.int .i64 op, .int .i64 0, .int .i64 0, .string (bs []), .string (bs []), .string (bs []), av] ∧ XsFr w' L w'.heap.size av [a, b]) := by
 have hb := Below.refl w.heap.size w
 refine enter (N := 12) Tryz.func68 rfl rfl (by simp) fun c hN hd hA => ?_
 have g : c.tmps.getD 0 undef = (.int .i64 op) := hA 0 (by simp)
 have h : c.tmps.getD 1 undef = (.agg #[(.int .i64 a.op), (.int .i64 a.vk), (.int .i64 a.vi), (.string (bs a.vt)), (.string (bs a.tb)), (.string (bs a.nm)), a.av]) := hA 1 (by simp)
 have j : c.tmps.getD 2 undef = (.agg #[(.int .i64 b.op), (.int .i64 b.vk), (.int .i64 b.vi), (.string (bs b.vt)), (.string (bs b.tb)), (.string (bs b.nm)), b.av]) := hA 2 (by simp)
 clear hA
 refine zF fun _ c => zH (op_box (cs := [(.int .i64 a.op), (.int .i64 a.vk), (.int .i64 a.vi), (.string (bs a.vt)), (.string (bs a.tb)), (.string (bs a.nm)), a.av]) (zC hN rfl h) rfl ?_)
 intro m l p o h k
 obtain ⟨hb, _⟩ := yE hb k
 refine op_box (cs := [(.int .i64 b.op), (.int .i64 b.vk), (.int .i64 b.vi), (.string (bs b.vt)), (.string (bs b.tb)), (.string (bs b.nm)), b.av]) (zC hN rfl j) rfl ?_
 intro l p o m j k
 obtain ⟨hb, _⟩ := yE hb k
 refine op_alloc (cs := [(.int .i64 0), (.int .i64 0), (.int .i64 0), (.string (bs [])), (.string (bs [])), (.string (bs [])), (.slice none 0 0)]) zero89 rfl ?_
 intro q p o r l m
 obtain ⟨hb, _⟩ := yE hb m
 have h := (h.keep0 k).keep0 m
 have j := j.keep0 m
 refine zB (c _ _ (zF fun _ c => zH (zG (zC hN rfl g) (zY agg89 rfl (zA hN rfl) h (zY agg89 rfl (zA hN rfl) j (op_bslice (e := 89) (pv := [(0, (.agg #[(.int .i64 a.op), (.int .i64 a.vk), (.int .i64 a.vi), (.string (bs a.vt)), (.string (bs a.tb)), (.string (bs a.nm)), a.av])), (1, (.agg #[(.int .i64 b.op), (.int .i64 b.vk), (.int .i64 b.vi), (.string (bs b.vt)), (.string (bs b.tb)), (.string (bs b.nm)), b.av]))]) (cs := [(.int .i64 a.op), (.int .i64 a.vk), (.int .i64 a.vi), (.string (bs a.vt)), (.string (bs a.tb)), (.string (bs a.nm)), a.av, (.int .i64 b.op), (.int .i64 b.vk), (.int .i64 b.vi), (.string (bs b.vt)), (.string (bs b.tb)), (.string (bs b.nm)), b.av]) ⟨rfl, (zA hN rfl), ⟨rfl, (zA hN rfl), trivial⟩⟩ zy ?_))))))
 intro m h o k g j
 obtain ⟨hb, _⟩ := yE hb j
 have l := l.keep0 j
 refine zf (pv := [(0, (.int .i64 op)), (4, (.slice (some ⟨h, 0, none⟩) 2 2))]) (v := (Value.agg #[(.int .i64 op), (.int .i64 0), (.int .i64 0), (.string (bs [])), (.string (bs [])), (.string (bs [])), (.slice (some ⟨h, 0, none⟩) 2 2)])) ⟨rfl, (zA hN rfl), ⟨rfl, (zA hN rfl), trivial⟩⟩ zy (zZ size89 (zA hN rfl) (zA hN rfl) rfl rfl l rfl ?_)
 intro j l h
 have := h.size
 have g := g.keep h sB
 have hb := below_step1 hb h hb.size zx
 refine zB (c _ _ (wp_ret (retC rfl hd (zA hN rfl) agg89 rfl l ⟨_, rfl, ?_⟩)))
 have ha' := ha.keep0 (zQ hb)
 have c := hb9.keep0 (zQ hb)
 exact ⟨hb, _, rfl, XsFr.lit2 (x := a) (x2 := b) g zx g.lt (ha'.mono (Nat.le_refl _) zx) (c.mono (Nat.le_refl _) zx)⟩

theorem once_ret (C : List PItm) (y : List UInt8) (vc : Value) (w : World) (hC : RdC w 0 w.heap.size 3 vc C.length (C.flatMap cellsI)) : Ret Tryz.prog 67 #[vc, (.string (bs y))] w (fun v' w' => Below w.heap.size w w' ∧ v' = .bool (onceN C y)) := by
 have hlm := rd_len hC
 have hb := Below.refl w.heap.size w
 refine enter (N := 24) Tryz.func67 rfl rfl (by simp) fun a hN hd hA => ?_
 have b : a.tmps.getD 0 undef = vc := hA 0 (by simp)
 have c : a.tmps.getD 1 undef = (.string (bs y)) := hA 1 (by simp)
 clear hA
 refine zF fun _ a => zH (zD rfl (zB (a _ _ (zF fun _ a => ?_))))
 refine zH (zD rfl (zB (a _ _ (zF fun _ a => zF fun _ e => zH (zD rfl (zB (e _ _ (wp_block (loop_m (fun mz_ az_ w' => ∃ (i : Nat), mz_ = C.length - i ∧ (Sl az_ 0 vc) ∧ (Sl az_ 1 (.string (bs y))) ∧ (Sl az_ 4 (.bool false)) ∧ (Sl az_ 6 (.int .i64 ((i : Nat) : Int))) ∧ (Sl az_ 5 (.int .i64 (((C.take i).countP (fun x => decide (x.nm = y)) : Nat) : Int))) ∧ (i ≤ C.length) ∧ (Below w.heap.size w w') ∧ (w.heap.size ≤ w'.heap.size)) _ hN hd ⟨0, rfl, (zL hN rfl b), (zL hN rfl c), (zU hN rfl), (zU hN rfl), (zU hN rfl).trans rfl, (Nat.zero_le _), hb, (Nat.le_refl _)⟩ ?_)))))))))
 rintro _ m o b g ⟨i, rfl, h, k, l, c, j, hi, hb, p⟩
 have := hb.size
 refine zF fun _ e => zF fun _ m => zH (zG (zC b rfl c) (zG (zC b rfl h) ?_))
 have hC' := hC.keep0 (zQ hb)
 refine op_len_rd Tryz.underlying34 (zA b rfl) hC' (op_lss (zA b rfl) (zA b rfl) (fun o => ?_) (fun o => ?_))
 ·
  refine zB (m _ _ (wp_cond_true (zA b rfl) (wp_skip (e _ _ (zF fun _ e => wp_block (zF fun _ m => zH (zG (zC b rfl h) (zG (zC b rfl c) (zh slt34 (zA b rfl) hC' (zA b rfl) zx zx ?_)))))))))
  intro s r p q o
  refine zM fld94_2 (zA b rfl) (zN (v := (Value.string (bs (C.getD i default).nm))) one9 (zA b rfl) (o 2 ((.string (bs (C.getD i default).nm))) zz ((el_pi (i := i) zx zx) 2 ((.string (bs (C.getD i default).nm))) rfl)) (zG (zC b rfl k) (op_seql (zA b rfl) (zA b rfl) (fun p => ?_) (fun p => ?_))))
  ·
   refine zB (m _ _ (wp_cond_true (zA b rfl) (zH ?_)))
   have o := cnt_le C y i
   refine zG (zC b rfl j) (op_add (zA b rfl) rfl (add64 zx) (zD (zA b rfl) (zB (e _ _ (zH (zG (zC b rfl c) (op_add (zA b rfl) rfl (add64 zx) (zD (zA b rfl) (zB ?_)))))))))
   -- round 10T 19T
   exact zg _ b g ⟨(i + 1), rfl, (zL b rfl h), (zL b rfl k), (zL b rfl l), (zU b rfl).trans (congrArg (Value.int .i64) zx), (zU b rfl).trans (congrArg (Value.int .i64) (by rw [cnt_t zx p]; omega)), zx, hb, zx⟩ zx
  refine zB (m _ _ (wp_cond_false (zA b rfl) (wp_skip (e _ _ (zH (zG (zC b rfl c) (op_add (zA b rfl) rfl (add64 zx) (zD (zA b rfl) (zB ?_)))))))))
  -- round 10T 19F
  exact zg _ b g ⟨(i + 1), rfl, (zL b rfl h), (zL b rfl k), (zL b rfl l), (zU b rfl).trans (congrArg (Value.int .i64) zx), (zL b rfl j).trans (congrArg (Value.int .i64) (by rw [cnt_f zx p])), zx, hb, zx⟩ zx
 refine zB (m _ _ (wp_cond_false (zA b rfl) (wp_exit (then_exit (then_exit (blk_hit (a _ _ (zF fun _ a => zH (zG (zC b rfl j) (op_eql (zA b rfl) rfl (fun c => ?_) (fun c => ?_)))))))))))
 ·
  refine zD (zA b rfl) (zB (a _ _ (wp_ret (ret1 rfl g (zA b rfl) ⟨_, rfl, ?_⟩))))
  exact ⟨hb, congrArg Value.bool (by unfold onceN; rw [List.take_of_length_le zx] at c; exact (decide_eq_true zx).symm)⟩
 refine zD (zA b rfl) (zB (a _ _ (wp_ret (ret1 rfl g (zA b rfl) ⟨_, rfl, ?_⟩))))
 exact ⟨hb, congrArg Value.bool (by unfold onceN; rw [List.take_of_length_le zx] at c; exact (decide_eq_false zx).symm)⟩

theorem pcol_ret {base p n Bp : Nat} {lv : Value} {bl : List UInt8} {C : List PItm} {K : List Int} {vc vk : Value} {Lc Bc : Nat} {k : Int} {w : World} (hpk : PickR w base p lv bl n (fun k => k = p)) (hBp : Bp ≤ p) (hbl : RdC w 0 Bp 1 lv bl.length (bl.map u8v)) (hC : RdC w Lc Bc 3 vc C.length (C.flatMap cellsI)) (hK : RdC w Lc Bc 1 vk K.length (K.map (Value.int .i64))) (hBc : Bc ≤ w.heap.size) (hcp : p < Lc ∨ Bc ≤ p) (hcl : C.length ≤ 1000) : Ret Tryz.prog 43 #[(ptr p 0), vc, vk, (.int .i64 k)] w (fun v' w' => Gr w w' (fun k => k = p) ∧ ∃ (e : XE) (b : Bool), v' = .tuple #[(.agg #[(.int .i64 e.op), (.int .i64 e.vk), (.int .i64 e.vi), (.string (bs e.vt)), (.string (bs e.tb)), (.string (bs e.nm)), e.av]), .bool b] ∧ XFr w' w.heap.size w'.heap.size e ∧ (b = true → GoodC C K → kindX C K e = (k, 0)) ∧ ∃ n' : Nat, PickR w' base p lv bl n' (fun k => k = p) ∧ n ≤ n') := by
 have hi_p : p < w.heap.size := (hpk.lt p rfl).2
 have hlm := rd_len hC
 have hlk := rd_len hK
 have hb := Gr.refl w (fun k => k = p)
 refine enter (N := 66) Tryz.func43 rfl rfl (by simp) fun a hN hd hA => ?_
 have c : a.tmps.getD 0 undef = (ptr p 0) := hA 0 (by simp)
 have g : a.tmps.getD 1 undef = vc := hA 1 (by simp)
 have l : a.tmps.getD 2 undef = vk := hA 2 (by simp)
 have o : a.tmps.getD 3 undef = (.int .i64 k) := hA 3 (by simp)
 clear hA
 have c_hbl : ∀ k, (fun k => k = p) k → k < 0 ∨ Bp ≤ k := fun k hk => .inr (by have := hpk.lt k hk; omega)
 have c_hC : ∀ k, (fun k => k = p) k → k < Lc ∨ Bc ≤ k := fun k hk => by have a : k = p := hk; omega
 have c_hK : ∀ k, (fun k => k = p) k → k < Lc ∨ Bc ≤ k := fun k hk => by have a : k = p := hk; omega
 refine zF fun _ q => zH (op_alloc (cs := [(.int .i64 0), (.int .i64 0), (.int .i64 0), (.string (bs [])), (.string (bs [])), (.string (bs [])), (.slice none 0 0)]) zero89 rfl ?_)
 intro x s y z r t
 have y : ¬ (fun k => k = p) s := fun hf => by have := (hpk.lt _ hf).2; omega
 obtain ⟨hb, _⟩ := yG hb t
 have hpk := hpk.kz t
 refine zD rfl (zB (q _ _ (zF fun _ q => ?_)))
 refine zH (zD rfl (zB (q _ _ (zF fun _ q => zF fun _ t => zH (zD rfl (zB (t _ _ (wp_block (loop_m (fun mz_ az_ w' => ∃ (i : Nat) (z : Value), mz_ = C.length - i ∧ (Sl az_ 0 (ptr p 0)) ∧ (Sl az_ 1 vc) ∧ (Sl az_ 2 vk) ∧ (Sl az_ 3 (.int .i64 k)) ∧ (Sl az_ 8 (ptr s 0)) ∧ (Sl az_ 9 (.bool false)) ∧ (Sl az_ 11 (.int .i64 ((i : Nat) : Int))) ∧ (Sl az_ 10 z) ∧ (i ≤ C.length ∧ i ≤ K.length) ∧ ((ofK C K k i).length ≤ i) ∧ (Gr w w' (fun k => k = p)) ∧ (x.heap.size ≤ w'.heap.size) ∧ (PickR w' base p lv bl n (fun k => k = p)) ∧ (Bx w' s 89 [(.int .i64 0), (.int .i64 0), (.int .i64 0), (.string (bs [])), (.string (bs [])), (.string (bs [])), (.slice none 0 0)]) ∧ (Own w' w.heap.size 94 3 z (ofK C K k i).length ((ofK C K k i).flatMap cellsI))) _ hN hd ⟨0, (.slice none 0 0), rfl, (zL hN rfl c), (zL hN rfl g), (zL hN rfl l), (zL hN rfl o), (zU hN rfl), (zU hN rfl), (zU hN rfl), (zU hN rfl), ⟨Nat.zero_le _, Nat.zero_le _⟩, (Nat.zero_le _), hb, (Nat.le_refl _), hpk, r, (Own.nil _ _ _ _)⟩ ?_)))))))))
 rintro _ H I c o ⟨i, z, rfl, B, A, D, E, g, F, x, s, hi, hko, hb, G, hpk, r, l⟩
 have := hb.size
 refine zF fun _ t => zF fun _ G => zH (zG (zC c rfl x) (zG (zC c rfl A) ?_))
 have hC' := hC.keepG hb c_hC
 refine op_len_rd Tryz.underlying34 (zA c rfl) hC' (op_lss (zA c rfl) (zA c rfl) (fun H => ?_) (fun H => ?_))
 ·
  refine zG (zA c rfl) (zS (j := 4) (dj := 18) (b := true) rfl rfl rfl (zA c rfl) (zG (zC c rfl x) (zS (j := 4) (dj := 18) (b := true) rfl rfl rfl (zA c rfl) (zG (zC c rfl D) (zS (j := 4) (dj := 18) (b := true) rfl rfl rfl (zA c rfl) ?_)))))
  have hK' := hK.keepG hb c_hK
  refine op_len_rd Tryz.underlying83 (zA c rfl) hK' (zS (j := 4) (dj := 18) (b := true) rfl rfl rfl (zA c rfl) (op_lss (zA c rfl) (zA c rfl) (fun H => ?_) (fun H => ?_)))
  ·
   refine zc (zA c rfl) (zA c rfl) (zB (G _ _ (wp_cond_true (zA c rfl) (wp_skip (t _ _ (zF fun _ t => wp_block (zF fun _ G => zH (zG (zC c rfl D) (zG (zC c rfl x) (zh slt83 (zA c rfl) hK' (zA c rfl) zx zx ?_))))))))))
   intro J M I L H
   refine zN (v := (Value.int .i64 (K.getD i 0))) one3 (zA c rfl) (by have := H 0 (.int .i64 (K.getD i 0)) zz (el_i64 (i := i) zx zx); simpa using this) (zG (zC c rfl E) (op_eql (zA c rfl) (zA c rfl) (fun I => ?_) (fun I => ?_)))
   ·
    refine zB (G _ _ (wp_cond_true (zA c rfl) (zH (zG (zC c rfl s) (zG (zC c rfl A) (zG (zC c rfl x) (zh slt34 (zA c rfl) hC' (zA c rfl) zx zx ?_)))))))
    intro J M O L H
    refine zX (cs := [(.int .i64 (C.getD i default).agg), (.string (bs (C.getD i default).tb)), (.string (bs (C.getD i default).nm))]) agg94 rfl (zA c rfl) (fun j u hu => H j u (by have := (List.getElem?_eq_some_iff.1 hu).1; simpa using this) ((el_pi (i := i) zx zx) j u hu)) (op_bslice (e := 94) (pv := [(0, (.agg #[(.int .i64 (C.getD i default).agg), (.string (bs (C.getD i default).tb)), (.string (bs (C.getD i default).nm))]))]) (cs := [(.int .i64 (C.getD i default).agg), (.string (bs (C.getD i default).tb)), (.string (bs (C.getD i default).nm))]) ⟨rfl, (zA c rfl), trivial⟩ zy ?_)
    intro P J O M L H
    have M : ¬ (fun k => k = p) J := fun hf => by have := (hpk.lt _ hf).2; omega
    obtain ⟨hb, _⟩ := yG hb H
    have hpk := hpk.kz H
    have l := l.keep0 H
    have J := l
    refine op_append slt34 (zA c rfl) J (zA c rfl) (Src.ofRd Tryz.underlying34 zz (RdC.ofBx (sz := 3) (n := 1) L rfl zz) (by simp [Value.oneCell', u8v])) (by unfold maxLen; omega) zx hb.size ?_
    intro O P M L Q
    have := L.size
    have hpk := hpk.keepG (Gr.of L) (hpk.notOwn J zz).symm
    have r := (r.keep0 H).keepO J L zz
    have hb := hb.stepO J L zx
    have M : Own P w.heap.size 94 3 O ((ofK C K k i).length + 1) ((((ofK C K k i) ++ [(PItm.mk ((C.getD i default).agg) ((C.getD i default).tb) ((C.getD i default).nm))])).flatMap cellsI) := by simpa [u8v, u16v, sv, cellsI] using M
    refine zD (zA c rfl) (zB (t _ _ (zH (zG (zC c rfl x) (op_add (zA c rfl) rfl (add64 zx) (zD (zA c rfl) (zB ?_)))))))
    -- round 17T 22T 31T
    exact zg _ c o ⟨(i + 1), O, rfl, (zL c rfl B), (zL c rfl A), (zL c rfl D), (zL c rfl E), (zL c rfl g), (zL c rfl F), (zU c rfl).trans (congrArg (Value.int .i64) zx), (zU c rfl), zx, (ofK_le _ _ _ _), hb, zx, hpk, r, (M.cast (by rw [ofK_t I] <;> simp) (by rw [ofK_t I] <;> simp [cellsI]))⟩ zx
   refine zB (G _ _ (wp_cond_false (zA c rfl) (wp_skip (t _ _ (zH (zG (zC c rfl x) (op_add (zA c rfl) rfl (add64 zx) (zD (zA c rfl) (zB ?_)))))))))
   -- round 17T 22T 31F
   exact zg _ c o ⟨(i + 1), z, rfl, (zL c rfl B), (zL c rfl A), (zL c rfl D), (zL c rfl E), (zL c rfl g), (zL c rfl F), (zU c rfl).trans (congrArg (Value.int .i64) zx), (zL c rfl s), zx, (ofK_le _ _ _ _), hb, zx, hpk, r, (l.cast (by rw [ofK_f I]) (by rw [ofK_f I]))⟩ zx
  refine zc (zA c rfl) (zA c rfl) (zB (G _ _ (wp_cond_false (zA c rfl) (wp_exit (then_exit (then_exit (blk_hit (q _ _ (zF fun _ q => zF fun _ t => zH (zG (zC c rfl s) (op_len_rd Tryz.underlying34 (zA c rfl) l.rdw (op_eql (zA c rfl) rfl (fun x => ?_) (fun x => ?_)))))))))))))
  ·
   refine zB (t _ _ (wp_cond_true (zA c rfl) (zF fun _ t => zH (zf (pv := []) (v := (Value.agg #[(.int .i64 0), (.int .i64 0), (.int .i64 0), (.string (bs [])), (.string (bs [])), (.string (bs [])), (.slice none 0 0)])) trivial zy (zZ size89 (zC c rfl g) (zA c rfl) rfl rfl r rfl ?_)))))
   intro D r z
   have := z.size
   have hpk := hpk.keepG (Gr.of z) (Dj.one y)
   have hb := hb.step1 z zx
   refine zD rfl (zB (t _ _ (wp_ret (zO ( (retD rfl o (zC c rfl g) agg89 rfl r (zA c rfl) ⟨_, rfl, ?_⟩))))))
   exact ⟨hb, (XE.mk 0 0 0 [] [] [] (.slice none 0 0) []), false, rfl, .leaf rfl rfl, (fun a => (by cases a)), n, hpk, by omega⟩
  refine zB (t _ _ (wp_cond_false (zA c rfl) (wp_skip (q _ _ (zF fun _ q => zH (zG (zC c rfl s) (zG (zC c rfl B) (zG (zC c rfl s) (op_len_rd Tryz.underlying34 (zA c rfl) l.rdw ?_)))))))))
  have hbl' := hbl.keepG hb c_hbl
  refine zj ok15 (Num_ret (m := ((ofK C K k i).length)) hpk zx hbl' zx zx) ⟨(zA c rfl), ⟨(zA c rfl), trivial⟩⟩ ?_
  rintro _ J ⟨E, z, rfl, F, I, D, H, L⟩
  have hpk_old := hpk
  have := E.size
  have l := l.keepG E (hpk_old.notOwn l zz)
  have hb := hb.stepF E (fun _ _ h => h)
  refine zh slt34 (zA c rfl) l.rdw (zA c rfl) zx zx ?_
  intro J M L I H
  refine zX (cs := [(.int .i64 ((ofK C K k i).getD z default).agg), (.string (bs ((ofK C K k i).getD z default).tb)), (.string (bs ((ofK C K k i).getD z default).nm))]) agg94 rfl (zA c rfl) (fun j u hu => H j u (by have := (List.getElem?_eq_some_iff.1 hu).1; simpa using this) ((el_pi (i := z) zx zx) j u hu)) (op_alloc (cs := [(.int .i64 0), (.string (bs [])), (.string (bs []))]) zero94 rfl ?_)
  intro O J M L H I
  have L : ¬ (fun k => k = p) J := fun hf => by have := (D.lt _ hf).2; omega
  obtain ⟨hb, _⟩ := yG hb I
  have r := (r.keepG E y).keep0 I
  have E := H
  refine zZ size94 (zA c rfl) (zA c rfl) rfl rfl H rfl ?_
  intro M H J
  have := J.size
  have r := r.keep J (sN r E)
  have D := (D.kz I).keepG (Gr.of J) (Dj.one L)
  have hb := hb.step1 J zx
  refine zB (q _ _ (zF fun _ q => zH (zM fld94_2 (zA c rfl) (zN one9 (zA c rfl) (H.cell rfl) (zM fld94_1 (zA c rfl) (zN one9 (zA c rfl) (H.cell rfl) (zf (pv := [(0, (.int .i64 2)), (3, (.string (bs ((ofK C K k i).getD z default).nm))), (2, (.string (bs ((ofK C K k i).getD z default).tb)))]) (v := (Value.agg #[(.int .i64 2), (.int .i64 0), (.int .i64 0), (.string (bs [])), (.string (bs ((ofK C K k i).getD z default).tb)), (.string (bs ((ofK C K k i).getD z default).nm)), (.slice none 0 0)])) ⟨rfl, rfl, ⟨rfl, (zA c rfl), ⟨rfl, (zA c rfl), trivial⟩⟩⟩ zy (op_alloc (cs := [(.int .i64 0), (.int .i64 0), (.int .i64 0), (.string (bs [])), (.string (bs [])), (.string (bs [])), (.slice none 0 0)]) zero89 rfl ?_))))))))
  intro P J M O E I
  have M : ¬ (fun k => k = p) J := fun hf => by have := (D.lt _ hf).2; omega
  obtain ⟨hb, _⟩ := yG hb I
  have H := H.keep0 I
  have J := E
  refine zZ size89 (zA c rfl) (zA c rfl) rfl rfl E rfl ?_
  intro P E O
  have := O.size
  have D := (D.kz I).keepG (Gr.of O) (Dj.one M)
  have H := H.keep O (sN H J)
  have hb := hb.step1 O zx
  refine zB (q _ _ (zF fun _ q => zF fun _ t => zH (zG (zC c rfl B) ?_)))
  have hbl' := hbl.keepG hb c_hbl
  refine zj ok15 (Num_ret (m := 3) D zx hbl' zx zx) ⟨(zA c rfl), ⟨rfl, trivial⟩⟩ ?_
  rintro _ S ⟨J, Q, rfl, R, P, D, U, T⟩
  have := J.size
  have r := ((r.keep0 I).keep O sB).keepG J y
  have H := H.keepG J L
  have E := E.keepG J M
  have hb := hb.stepF J (fun _ _ h => h)
  refine op_gtr (zA c rfl) rfl (fun I => ?_) (fun I => ?_)
  ·
   refine zG (zA c rfl) (zS (j := 3) (dj := 58) (b := true) rfl rfl rfl (zA c rfl) (zG (zC c rfl A) (zS (j := 3) (dj := 58) (b := true) rfl rfl rfl (zA c rfl) (zM fld94_2 (zA c rfl) (zS (j := 3) (dj := 58) (b := true) rfl rfl rfl (zA c rfl) (zN one9 (zA c rfl) (H.cell rfl) (zS (j := 3) (dj := 58) (b := true) rfl rfl rfl (zA c rfl) ?_)))))))
   have hC' := hC.keepG hb c_hC
   refine zj ok67 (once_ret C (((ofK C K k i).getD z default).nm) _ _ (hC'.mono (Nat.zero_le _) zx)) ⟨(zA c rfl), ⟨(zA c rfl), trivial⟩⟩ ?_
   rintro _ J ⟨H, rfl⟩
   have H := zQ H
   obtain ⟨hb, _⟩ := yG hb H
   obtain ⟨r, E⟩ := kb2 H r E
   have D := D.kz H
   rcases Bool.eq_false_or_eq_true ((onceN C (((ofK C K k i).getD z default).nm))) with H | H
   ·
    rw [H]
    refine zc (zA c rfl) (zA c rfl) (zB (t _ _ (wp_cond_true (zA c rfl) (zH (zM fld89_2 (zA c rfl) (za (vs := [(.string (bs []))]) (cs' := [(.int .i64 2), (.int .i64 0), (.int .i64 0), (.string (bs [])), (.string (bs [])), (.string (bs ((ofK C K k i).getD z default).nm)), (.slice none 0 0)]) size9 (zA c rfl) rfl rfl rfl rfl E (zI rfl) rfl ?_))))))
    intro L E J
    have := J.size
    have r := r.keep J sB
    have hb := hb.step1 J zx
    refine zB (q _ _ (zF fun _ q => zH (zY agg89 rfl (zA c rfl) E (zZ size89 (zC c rfl g) (zA c rfl) rfl rfl r rfl ?_))))
    intro O r L
    have := L.size
    have D := (D.keepG (Gr.of J) (Dj.one M)).keepG (Gr.of L) (Dj.one y)
    have hb := hb.step1 L zx
    refine zD rfl (zB (q _ _ (wp_ret (retD rfl o (zC c rfl g) agg89 rfl r (zA c rfl) ⟨_, rfl, ?_⟩))))
    exact ⟨hb, (XE.mk 2 0 0 [] [] (((ofK C K k i).getD z default).nm) (.slice none 0 0) []), true, rfl, .leaf rfl rfl, (fun _ hg => kind_col rfl rfl ((ofK_good F zx hg).2 (by assumption))), P, D, by omega⟩
   rw [H]
   refine zc (zA c rfl) (zA c rfl) (zB (t _ _ (wp_cond_false (zA c rfl) (wp_skip (q _ _ (zF fun _ q => zH (zY agg89 rfl (zA c rfl) E (zZ size89 (zC c rfl g) (zA c rfl) rfl rfl r rfl ?_))))))))
   intro L r J
   have := J.size
   have D := D.keepG (Gr.of J) (Dj.one y)
   have hb := hb.step1 J zx
   refine zD rfl (zB (q _ _ (wp_ret (retD rfl o (zC c rfl g) agg89 rfl r (zA c rfl) ⟨_, rfl, ?_⟩))))
   exact ⟨hb, (XE.mk 2 0 0 [] (((ofK C K k i).getD z default).tb) (((ofK C K k i).getD z default).nm) (.slice none 0 0) []), true, rfl, .leaf rfl rfl, (fun _ hg => kind_col rfl rfl ((ofK_good F zx hg).1)), P, D, by omega⟩
  refine zG (zA c rfl) ?_
  refine zR (j := 3) (dj := 58) (b := true) rfl rfl rfl (zA c rfl) rfl rfl (zR (j := 3) (dj := 58) (b := true) rfl rfl rfl (zA c rfl) rfl rfl (zR (j := 3) (dj := 58) (b := true) rfl rfl rfl (zA c rfl) rfl rfl (zR (j := 3) (dj := 58) (b := true) rfl rfl rfl (zA c rfl) rfl rfl (zd (zA c rfl) rfl (zB (t _ _ (wp_cond_false (zA c rfl) (wp_skip (q _ _ (zF fun _ q => zH (zY agg89 rfl (zA c rfl) E (zZ size89 (zC c rfl g) (zA c rfl) rfl rfl r rfl ?_))))))))))))
  intro J r E
  have := E.size
  have D := D.keepG (Gr.of E) (Dj.one y)
  have hb := hb.step1 E zx
  refine zD rfl (zB (q _ _ (wp_ret (retD rfl o (zC c rfl g) agg89 rfl r (zA c rfl) ⟨_, rfl, ?_⟩))))
  exact ⟨hb, (XE.mk 2 0 0 [] (((ofK C K k i).getD z default).tb) (((ofK C K k i).getD z default).nm) (.slice none 0 0) []), true, rfl, .leaf rfl rfl, (fun _ hg => kind_col rfl rfl ((ofK_good F zx hg).1)), P, D, by omega⟩
 refine zG (zA c rfl) (zR (j := 4) (dj := 18) (b := true) rfl rfl rfl (zA c rfl) rfl rfl (zR (j := 4) (dj := 18) (b := true) rfl rfl rfl (zA c rfl) rfl rfl (zR (j := 4) (dj := 18) (b := true) rfl rfl rfl (zA c rfl) rfl rfl ?_)))
 refine zR (j := 4) (dj := 18) (b := true) rfl rfl rfl (zA c rfl) rfl rfl (zd (zA c rfl) rfl (zB (G _ _ (wp_cond_false (zA c rfl) (wp_exit (then_exit (then_exit (blk_hit (q _ _ (zF fun _ q => zF fun _ t => zH (zG (zC c rfl s) (op_len_rd Tryz.underlying34 (zA c rfl) l.rdw (op_eql (zA c rfl) rfl (fun x => ?_) (fun x => ?_))))))))))))))
 ·
  refine zB (t _ _ (wp_cond_true (zA c rfl) (zF fun _ t => zH (zf (pv := []) (v := (Value.agg #[(.int .i64 0), (.int .i64 0), (.int .i64 0), (.string (bs [])), (.string (bs [])), (.string (bs [])), (.slice none 0 0)])) trivial zy (zZ size89 (zC c rfl g) (zA c rfl) rfl rfl r rfl ?_)))))
  intro z r x
  have := x.size
  have hpk := hpk.keepG (Gr.of x) (Dj.one y)
  have hb := hb.step1 x zx
  refine zD rfl (zB (t _ _ (wp_ret (zO ( (retD rfl o (zC c rfl g) agg89 rfl r (zA c rfl) ⟨_, rfl, ?_⟩))))))
  exact ⟨hb, (XE.mk 0 0 0 [] [] [] (.slice none 0 0) []), false, rfl, .leaf rfl rfl, (fun a => (by cases a)), n, hpk, by omega⟩
 refine zB (t _ _ (wp_cond_false (zA c rfl) (wp_skip (q _ _ (zF fun _ q => zH (zG (zC c rfl s) (zG (zC c rfl B) (zG (zC c rfl s) (op_len_rd Tryz.underlying34 (zA c rfl) l.rdw ?_)))))))))
 have hbl' := hbl.keepG hb c_hbl
 refine zj ok15 (Num_ret (m := ((ofK C K k i).length)) hpk zx hbl' zx zx) ⟨(zA c rfl), ⟨(zA c rfl), trivial⟩⟩ ?_
 rintro _ F ⟨x, a, rfl, z, D, s, E, G⟩
 have hpk_old := hpk
 have := x.size
 have l := l.keepG x (hpk_old.notOwn l zz)
 have hb := hb.stepF x (fun _ _ h => h)
 refine zh slt34 (zA c rfl) l.rdw (zA c rfl) zx zx ?_
 intro F E G D l
 refine zX (cs := [(.int .i64 ((ofK C K k i).getD a default).agg), (.string (bs ((ofK C K k i).getD a default).tb)), (.string (bs ((ofK C K k i).getD a default).nm))]) agg94 rfl (zA c rfl) (fun j u hu => l j u (by have := (List.getElem?_eq_some_iff.1 hu).1; simpa using this) ((el_pi (i := a) zx zx) j u hu)) (op_alloc (cs := [(.int .i64 0), (.string (bs [])), (.string (bs []))]) zero94 rfl ?_)
 intro G E F J l D
 have F : ¬ (fun k => k = p) E := fun hf => by have := (s.lt _ hf).2; omega
 obtain ⟨hb, _⟩ := yG hb D
 have r := (r.keepG x y).keep0 D
 have x := l
 refine zZ size94 (zA c rfl) (zA c rfl) rfl rfl l rfl ?_
 intro G l E
 have := E.size
 have r := r.keep E (sN r x)
 have s := (s.kz D).keepG (Gr.of E) (Dj.one F)
 have hb := hb.step1 E zx
 refine zB (q _ _ (zF fun _ q => zH (zM fld94_2 (zA c rfl) (zN one9 (zA c rfl) (l.cell rfl) (zM fld94_1 (zA c rfl) (zN one9 (zA c rfl) (l.cell rfl) (zf (pv := [(0, (.int .i64 2)), (3, (.string (bs ((ofK C K k i).getD a default).nm))), (2, (.string (bs ((ofK C K k i).getD a default).tb)))]) (v := (Value.agg #[(.int .i64 2), (.int .i64 0), (.int .i64 0), (.string (bs [])), (.string (bs ((ofK C K k i).getD a default).tb)), (.string (bs ((ofK C K k i).getD a default).nm)), (.slice none 0 0)])) ⟨rfl, rfl, ⟨rfl, (zA c rfl), ⟨rfl, (zA c rfl), trivial⟩⟩⟩ zy (op_alloc (cs := [(.int .i64 0), (.int .i64 0), (.int .i64 0), (.string (bs [])), (.string (bs [])), (.string (bs [])), (.slice none 0 0)]) zero89 rfl ?_))))))))
 intro L E J G x D
 have G : ¬ (fun k => k = p) E := fun hf => by have := (s.lt _ hf).2; omega
 obtain ⟨hb, _⟩ := yG hb D
 have l := l.keep0 D
 have E := x
 refine zZ size89 (zA c rfl) (zA c rfl) rfl rfl x rfl ?_
 intro L x J
 have := J.size
 have s := (s.kz D).keepG (Gr.of J) (Dj.one G)
 have l := l.keep J (sN l E)
 have hb := hb.step1 J zx
 refine zB (q _ _ (zF fun _ q => zF fun _ t => zH (zG (zC c rfl B) ?_)))
 have hbl' := hbl.keepG hb c_hbl
 refine zj ok15 (Num_ret (m := 3) s zx hbl' zx zx) ⟨(zA c rfl), ⟨rfl, trivial⟩⟩ ?_
 rintro _ L ⟨B, M, rfl, O, E, s, Q, P⟩
 have := B.size
 have r := ((r.keep0 D).keep J sB).keepG B y
 have l := l.keepG B F
 have x := x.keepG B G
 have hb := hb.stepF B (fun _ _ h => h)
 refine op_gtr (zA c rfl) rfl (fun I => ?_) (fun I => ?_)
 ·
  refine zG (zA c rfl) (zS (j := 3) (dj := 58) (b := true) rfl rfl rfl (zA c rfl) (zG (zC c rfl A) (zS (j := 3) (dj := 58) (b := true) rfl rfl rfl (zA c rfl) (zM fld94_2 (zA c rfl) (zS (j := 3) (dj := 58) (b := true) rfl rfl rfl (zA c rfl) (zN one9 (zA c rfl) (l.cell rfl) (zS (j := 3) (dj := 58) (b := true) rfl rfl rfl (zA c rfl) ?_)))))))
  have hC' := hC.keepG hb c_hC
  refine zj ok67 (once_ret C (((ofK C K k i).getD a default).nm) _ _ (hC'.mono (Nat.zero_le _) zx)) ⟨(zA c rfl), ⟨(zA c rfl), trivial⟩⟩ ?_
  rintro _ A ⟨l, rfl⟩
  have l := zQ l
  obtain ⟨hb, _⟩ := yG hb l
  obtain ⟨r, x⟩ := kb2 l r x
  have s := s.kz l
  rcases Bool.eq_false_or_eq_true ((onceN C (((ofK C K k i).getD a default).nm))) with H | H
  ·
   rw [H]
   refine zc (zA c rfl) (zA c rfl) (zB (t _ _ (wp_cond_true (zA c rfl) (zH (zM fld89_2 (zA c rfl) (za (vs := [(.string (bs []))]) (cs' := [(.int .i64 2), (.int .i64 0), (.int .i64 0), (.string (bs [])), (.string (bs [])), (.string (bs ((ofK C K k i).getD a default).nm)), (.slice none 0 0)]) size9 (zA c rfl) rfl rfl rfl rfl x (zI rfl) rfl ?_))))))
   intro A x l
   have := l.size
   have r := r.keep l sB
   have hb := hb.step1 l zx
   refine zB (q _ _ (zF fun _ q => zH (zY agg89 rfl (zA c rfl) x (zZ size89 (zC c rfl g) (zA c rfl) rfl rfl r rfl ?_))))
   intro B r A
   have := A.size
   have s := (s.keepG (Gr.of l) (Dj.one G)).keepG (Gr.of A) (Dj.one y)
   have hb := hb.step1 A zx
   refine zD rfl (zB (q _ _ (wp_ret (retD rfl o (zC c rfl g) agg89 rfl r (zA c rfl) ⟨_, rfl, ?_⟩))))
   exact ⟨hb, (XE.mk 2 0 0 [] [] (((ofK C K k i).getD a default).nm) (.slice none 0 0) []), true, rfl, .leaf rfl rfl, (fun _ hg => kind_col rfl rfl ((ofK_good z zx hg).2 (by assumption))), E, s, by omega⟩
  rw [H]
  refine zc (zA c rfl) (zA c rfl) (zB (t _ _ (wp_cond_false (zA c rfl) (wp_skip (q _ _ (zF fun _ q => zH (zY agg89 rfl (zA c rfl) x (zZ size89 (zC c rfl g) (zA c rfl) rfl rfl r rfl ?_))))))))
  intro A r l
  have := l.size
  have s := s.keepG (Gr.of l) (Dj.one y)
  have hb := hb.step1 l zx
  refine zD rfl (zB (q _ _ (wp_ret (retD rfl o (zC c rfl g) agg89 rfl r (zA c rfl) ⟨_, rfl, ?_⟩))))
  exact ⟨hb, (XE.mk 2 0 0 [] (((ofK C K k i).getD a default).tb) (((ofK C K k i).getD a default).nm) (.slice none 0 0) []), true, rfl, .leaf rfl rfl, (fun _ hg => kind_col rfl rfl ((ofK_good z zx hg).1)), E, s, by omega⟩
 refine zG (zA c rfl) ?_
 refine zR (j := 3) (dj := 58) (b := true) rfl rfl rfl (zA c rfl) rfl rfl (zR (j := 3) (dj := 58) (b := true) rfl rfl rfl (zA c rfl) rfl rfl (zR (j := 3) (dj := 58) (b := true) rfl rfl rfl (zA c rfl) rfl rfl (zR (j := 3) (dj := 58) (b := true) rfl rfl rfl (zA c rfl) rfl rfl (zd (zA c rfl) rfl (zB (t _ _ (wp_cond_false (zA c rfl) (wp_skip (q _ _ (zF fun _ q => zH (zY agg89 rfl (zA c rfl) x (zZ size89 (zC c rfl g) (zA c rfl) rfl rfl r rfl ?_))))))))))))
 intro t r l
 have := l.size
 have s := s.keepG (Gr.of l) (Dj.one y)
 have hb := hb.step1 l zx
 refine zD rfl (zB (q _ _ (wp_ret (retD rfl o (zC c rfl g) agg89 rfl r (zA c rfl) ⟨_, rfl, ?_⟩))))
 exact ⟨hb, (XE.mk 2 0 0 [] (((ofK C K k i).getD a default).tb) (((ofK C K k i).getD a default).nm) (.slice none 0 0) []), true, rfl, .leaf rfl rfl, (fun _ hg => kind_col rfl rfl ((ofK_good z zx hg).1)), E, s, by omega⟩

end Go.Proofs.YthflnkfghogaoaaGreat
