/- Walks, written by a program: what each function of the translation hands back. -/
import Derived.Lib.AppendZerosOnto
import Derived.Lib.Overlaps
import Derived.Laws.Externs
import Derived.Shelf.SlMaps.Clone
import Derived.Lib.Bytealg
import Derived.Lib.UnsafeStr
import Derived.Test.YtmhdbphpmgjpcaaB5
set_option linter.unusedVariables false
set_option linter.unusedSimpArgs false

namespace Go.Proofs.Ytmhdbphpmgjpcaa
open Go.Gx Go.RowKit
attribute [local irreducible] wpList wpStill Code.wp Calls

theorem noT_step {T : List DT} {x : List UInt16} {i : Nat} (h : ∀ q, q < i → (T.getD q default).lab ≠ x) (hi : ¬ (T.getD i default).lab = x) : ∀ q, q < i + 1 → (T.getD q default).lab ≠ x := fun q hq => by
  by_cases e : q = i
  · subst e; exact hi
  · exact h q zx

theorem StampD {T : List DT} {d base Lr Br : Nat} {mp sv9 tv xv : Value} {x : List UInt16} {w : World} (hbase : base ≤ w.heap.size) (hn : T.length ≤ 100000) (hx : Bx w d 72 [mp, sv9, tv]) (O : Own w base 152 2 tv T.length (T.flatMap cellsT)) (hla : ∀ i, i < T.length → Own w base 46 1 (T.getD i default).la (T.getD i default).lab.length ((T.getD i default).lab.map u16v)) (hl8 : ∀ i, i < T.length → (T.getD i default).lab.length ≤ 100) (hxl : x.length ≤ 100) (hxr : RdC w Lr Br 1 xv x.length (x.map u16v)) (hBr : Br ≤ w.heap.size) (hap : ∀ y, (y = d ∨ Bl tv y) → y < Lr ∨ Br ≤ y) : Ret Try.prog 46 #[(ptr d 0), xv] w (fun v' w' => Gr w w' (fun y => y = d ∨ Bl tv y) ∧ ((∃ i, i < T.length ∧ (T.getD i default).lab = x ∧ (∀ q, q < i → (T.getD q default).lab ≠ x) ∧ v' = .int .u64 (IntKind.u64.wrap ((T.getD i default).n + 1)) ∧ Bx w' d 72 [mp, sv9, tv] ∧ Own w' base 152 2 tv T.length ((T.set i { T.getD i default with n := IntKind.u64.wrap ((T.getD i default).n + 1) }).flatMap cellsT)) ∨ ((∀ q, q < T.length → (T.getD q default).lab ≠ x) ∧ v' = .int .u64 1 ∧ ∃ tv' la, Bx w' d 72 [mp, sv9, tv'] ∧ Own w' base 152 2 tv' (T.length + 1) ((T ++ [(⟨la, x, 1⟩ : DT)]).flatMap cellsT) ∧ (∀ y, Bl tv' y → Bl tv y ∨ w.heap.size ≤ y) ∧ Own w' w.heap.size 46 1 la x.length (x.map u16v)))) := by
 have hi_d := hx.lt
 have hlaK : ∀ i, i < T.length → ∀ a, Gr w a (fun y => y = d ∨ Bl tv y) → Own a base 46 1 (T.getD i default).la (T.getD i default).lab.length ((T.getD i default).lab.map u16v) := fun i hi a E => (hla i hi).keepG E (fun y hy hh => hh.elim (fun q => (hla i hi).neB hx zz (q ▸ hy)) (fun q => (hla i hi).notOwn O zz y hy q))
 have hb := Gr.refl w (fun y => y = d ∨ Bl tv y)
 refine enter (N := 57) Try.func46 rfl rfl (by simp) fun b hN hd hA => ?_
 have c : b.tmps.getD 0 undef = (ptr d 0) := hA 0 (by simp)
 have f : b.tmps.getD 1 undef = xv := hA 1 (by simp)
 clear hA
 refine zF fun _ g => ?_
 refine zH (zD rfl (zB (g _ _ (zF fun _ g => zF fun _ j => zH (zD rfl (zB (j _ _ (wp_block (loop_m (fun mz_ az_ w' => ∃ (i : Nat), mz_ = T.length - i ∧ (Sl az_ 0 (ptr d 0)) ∧ (Sl az_ 1 xv) ∧ (Sl az_ 5 (.int .i64 ((i : Nat) : Int))) ∧ (i ≤ T.length) ∧ (∀ q, q < i → (T.getD q default).lab ≠ x) ∧ (Gr w w' (fun y => y = d ∨ Bl tv y)) ∧ (w.heap.size ≤ w'.heap.size) ∧ (Bx w' d 72 [mp, sv9, tv]) ∧ (Own w' base 152 2 tv T.length (T.flatMap cellsT)) ∧ (RdC w' Lr Br 1 xv x.length (x.map u16v))) _ hN hd ⟨0, rfl, (zL hN rfl c), (zL hN rfl f), (zU hN rfl), (Nat.zero_le _), (fun q hq => absurd hq (Nat.not_lt_zero _)), hb, (Nat.le_refl _), hx, O, hxr⟩ ?_)))))))))
 rintro _ t a k p ⟨i, rfl, l, o, m, hi, hno, hb, s, hx, O, hxr⟩
 have := hb.size
 refine zF fun _ j => zF fun _ u => zH (zG (zC k rfl m) (zG (zC k rfl l) (op_nil (zA k rfl) (zM fld72_2 (zA k rfl) (zN one70 (zA k rfl) (hx.cell rfl) (op_len_rd Try.underlying70 (zA k rfl) O.rdw (op_lss (zA k rfl) (zA k rfl) (fun z => ?_) (fun z => ?_))))))))
 ·
  refine zB (u _ _ (wp_cond_true (zA k rfl) (wp_skip (j _ _ (zF fun _ j => wp_block (zF fun _ u => zH (zG (zC k rfl l) (op_nil (zA k rfl) (zM fld72_2 (zA k rfl) (zN one70 (zA k rfl) (hx.cell rfl) (zG (zC k rfl m) (zh slt70 (zA k rfl) O.rdw (zA k rfl) zx zx ?_))))))))))))
  intro D B F C A
  refine zM fld152_0 (zA k rfl) (zN (v := (T.getD i default).la) one54 (zA k rfl) (A 0 _ zz ((el_dt (i := i) zx zx) 0 _ rfl)) ?_)
  have hTi : Own a base 46 1 (T.getD i default).la (T.getD i default).lab.length ((T.getD i default).lab.map u16v) := hlaK i zx _ hb
  have A := hl8 i zx
  refine zG (zC k rfl o) (zj ok34 (sameL_ret (T.getD i default).lab x _ _ _ (by first | assumption | omega | (simp only [List.length_append, List.length_cons, List.length_nil, List.length_drop, List.length_take]; omega) | (dsimp only; omega) | decide | (simp [keyV, be8_len]; done)) (by first | assumption | omega | (simp only [List.length_append, List.length_cons, List.length_nil, List.length_drop, List.length_take]; omega) | (dsimp only; omega) | decide | (simp [keyV, be8_len]; done)) (show RdC a 0 a.heap.size 1 (T.getD i default).la (T.getD i default).lab.length ((T.getD i default).lab.map u16v) from by have hh : RdC a 0 a.heap.size 1 _ _ _ := (hTi.rdw.mono (L' := 0) (B' := a.heap.size) (Nat.zero_le _) zx); first | exact hh | exact hh.cast (by first | omega | (simp; try omega)) (by first | rfl | simp [u16v])) (show RdC a 0 a.heap.size 1 xv x.length (x.map u16v) from by have hh : RdC a 0 a.heap.size 1 _ _ _ := (hxr.mono (L' := 0) (B' := a.heap.size) (Nat.zero_le _) zx); first | exact hh | exact hh.cast (by first | omega | (simp; try omega)) (by first | rfl | simp [u16v]))) ⟨(zA k rfl), ⟨(zA k rfl), trivial⟩⟩ ?_)
  rintro _ B ⟨A, rfl⟩
  have A := zQ A
  obtain ⟨hb, _⟩ := yG hb A
  have hx := hx.keep0 A
  have O := O.keep0 A
  have hxr := hxr.keep0 A
  rcases Bool.eq_false_or_eq_true ((decide ((T.getD i default).lab = x))) with A | A
  ·
   rw [A]
   refine zB (u _ _ (wp_cond_true (zA k rfl) (zF fun _ u => zH (zG (zC k rfl l) (op_nil (zA k rfl) (zM fld72_2 (zA k rfl) (zN one70 (zA k rfl) (hx.cell rfl) (zG (zC k rfl m) (zh slt70 (zA k rfl) O.rdw (zA k rfl) zx zx ?_)))))))))
   intro H C D F B
   refine zM fld152_1 (zA k rfl) ?_
   skip
   refine zN (v := (Value.int .u64 (T.getD i default).n)) one61 (zA k rfl) (B 1 ((.int .u64 (T.getD i default).n)) zz ((el_dt (i := i) zx zx) 1 ((.int .u64 (T.getD i default).n)) rfl)) (op_add (r := (IntKind.u64.wrap ((T.getD i default).n + 1))) (zA k rfl) rfl rfl (op_index_own (i := i) slt70 (zA k rfl) O (zA k rfl) zx zx ?_))
   intro C F D B
   refine zM fld152_1 (zA k rfl) ?_
   have C := O
   refine op_store_own (vs := [(.int .u64 (IntKind.u64.wrap ((T.getD i default).n + 1)))]) size61 (zA k rfl) (zA k rfl) rfl rfl rfl C (B.fld 1) (by have := C.1; simp only [List.length_cons, List.length_nil]; omega) ?_
   intro F B D
   have := D.size
   have hx := hx.keepO C D zz
   have hb := hb.stepL D (fun _ _ h => .inr h)
   have B : Own F base 152 2 tv T.length (((T.set i { T.getD i default with n := IntKind.u64.wrap ((T.getD i default).n + 1) })).flatMap cellsT) := by exact B.cast rfl (set_dt zx)
   refine zB (u _ _ (zF fun _ u => zH (zG (zC k rfl l) (op_nil (zA k rfl) (zM fld72_2 (zA k rfl) (zN one70 (zA k rfl) (hx.cell rfl) (zG (zC k rfl m) ?_)))))))
   have hls : (T.set i { T.getD i default with n := IntKind.u64.wrap ((T.getD i default).n + 1) }).length = T.length := List.length_set
   refine zh slt70 (zA k rfl) B.rdw (zA k rfl) zx zx ?_
   intro D H F I C
   refine zM fld152_1 (zA k rfl) (zN (v := (Value.int .u64 ((T.set i { T.getD i default with n := IntKind.u64.wrap ((T.getD i default).n + 1) }).getD i default).n)) one61 (zA k rfl) (C 1 ((.int .u64 ((T.set i { T.getD i default with n := IntKind.u64.wrap ((T.getD i default).n + 1) }).getD i default).n)) zz ((el_dt (i := i) zx zx) 1 ((.int .u64 ((T.set i { T.getD i default with n := IntKind.u64.wrap ((T.getD i default).n + 1) }).getD i default).n)) rfl)) (zD (zA k rfl) (zB (u _ _ (wp_ret (zb (zO (zO (zb (zO ( (ret1 rfl p (zA k rfl) ⟨_, rfl, ?_⟩))))))))))))
   exact ⟨hb, .inl ⟨i, by omega, of_decide_eq_true A, hno, congrArg (Value.int .u64) (by rw [getD_set zx, if_pos rfl]), hx, B.cast (by simp) rfl⟩⟩
  rw [A]
  refine zB (u _ _ (wp_cond_false (zA k rfl) (wp_skip (j _ _ (zH (zG (zC k rfl m) (op_add (zA k rfl) rfl (add64 zx) (zD (zA k rfl) (zB ?_)))))))))
  -- round 12T 24F
  exact zg _ k p ⟨(i + 1), rfl, (zL k rfl l), (zL k rfl o), (zU k rfl).trans (congrArg (Value.int .i64) zx), zx, (noT_step hno (of_decide_eq_false A)), hb, zx, hx, O, hxr⟩ zx
 refine zB (u _ _ (wp_cond_false (zA k rfl) (wp_exit (then_exit (then_exit (blk_hit (g _ _ (zF fun _ g => reg_split (hd := [_, _, _, _, _, _, _, _, _, _, _]) (tl := _) 11 mixed zy rfl rfl (any_tree (φ := phiV [(fun uz => uz = (ptr d 0)), (fun uz => uz = (ptr d 0)), (fun uz => uz = (ptr d 0)), (fun uz => uz = (ptr d 2)), (fun uz => uz = tv), (fun _ => True), (fun uz => uz = xv), (fun _ => True), (fun _ => True), (fun _ => True), (fun _ => True)]) (G := fun w' => Bx w' d 72 [mp, sv9, tv]) [5, 7, 8, 9, 10] zy zy zy zy zy k (fun a A E h => h.keep0 E) hx (ObRs9.cons ?_ (ObRs9.cons ?_ (ObRs9.cons ?_ (ObRs9.cons ?_ (ObRs9.cons ?_ (ObRs9.pass rfl (ObRs9.cons ?_ (ObRs9.pass rfl (ObRs9.pass rfl (ObRs9.pass rfl (ObRs9.pass rfl (ObRs9.nil)))))))))))) (by simp only [putsL_defers]) ?_)))))))))
 ·
  intro eA aA wA hNA hGA hbsA hdpA
  have B := (hbsA 0 rfl).trans (zL k rfl l)
  refine zG (zC hNA rfl B) ?_
  exact obT_end rfl rfl
 ·
  intro eA aA wA hNA hGA hbsA hdpA
  have B := (hbsA 0 rfl).trans (zL k rfl l)
  refine zG (zC hNA rfl B) ?_
  exact obT_end rfl rfl
 ·
  intro eA aA wA hNA hGA hbsA hdpA
  have B : Sl aA 45 (ptr d 0) := (hdpA 1 _ 45 zy rfl rfl).2 rfl
  refine op_nil (zC hNA rfl B) ?_
  exact obT_end rfl rfl
 ·
  intro eA aA wA hNA hGA hbsA hdpA
  have B : Sl aA 46 (ptr d 0) := (hdpA 2 _ 46 zy rfl rfl).2 rfl
  refine zM fld72_2 (zC hNA rfl B) ?_
  exact obT_end rfl rfl
 ·
  intro eA aA wA hNA hGA hbsA hdpA
  have B : Sl aA 47 (ptr d 2) := (hdpA 3 _ 47 zy rfl rfl).2 rfl
  refine zN one70 (zC hNA rfl B) (hGA.cell rfl) ?_
  exact obT_end rfl rfl
 ·
  intro eA aA wA hNA hGA hbsA hdpA
  have B := (hbsA 1 rfl).trans (zL k rfl o)
  refine zG (zC hNA rfl B) ?_
  exact obT_end rfl rfl
 refine kt_step (rs := [5]) zy (one_mem ?_)
 intro D B _ I F H C o_ ho_; obtain rfl := zE ho_
 obtain ⟨hb, _⟩ := yG hb B
 refine op_bslice (e := 46) (pv := []) (cs := []) trivial zy ?_
 intro M L Q P K J
 obtain ⟨hb, _⟩ := yG hb J
 have hx := (hx.keep0 B).keep0 J
 refine kt_end rfl hx (kt_step (rs := [7]) zy (one_mem ?_))
 intro W R _ U V X S o_ ho_; obtain rfl := zE ho_
 obtain ⟨hb, _⟩ := yG hb R
 have hxr := ((hxr.keep0 B).keep0 J).keep0 R
 have K := K.keep0 R
 have Y : Sl U 49 (.slice (some ⟨L, 0, none⟩) 0 0) := (zE ((S 5 _ 49 zy rfl rfl).1 rfl)).symm
 have Z : Sl U 50 xv := (S 6 _ 50 zy rfl rfl).2 rfl
 have aa := (Own.ofBx (base := w.heap.size) (sz := 1) (n := 0) K rfl zz zx)
 refine op_append slt54 (zC V rfl Y) aa (zC V rfl Z) (Src.ofRd Try.underlying54 zz hxr (one_u16 _)) (by unfold maxLen; omega) zx hb.size ?_
 intro ac ae ab ad af
 have := ad.size
 have hx := (hx.keep0 R).keep ad (by simp [Value.ownBlock]; try omega)
 have hb := hb.stepO aa ad zx
 have ab : Own ae w.heap.size 46 1 ac (0 + x.length) ((x).map u16v) := by simpa [u8v, u16v, sv] using ab
 refine kt_end rfl hx (kt_step (rs := [8]) zy (one_mem ?_))
 intro ak ag _ aj ah al ai o_ ho_; obtain rfl := zE ho_
 obtain ⟨hb, _⟩ := yG hb ag
 have hx := hx.keep0 ag
 have ab := ab.keep0 ag
 have am : Sl aj 51 ac := (zE ((ai 7 _ 51 zy rfl rfl).1 rfl)).symm
 refine zf (pv := [(0, ac), (1, (.int .u64 1))]) (v := (Value.agg #[ac, (.int .u64 1)])) ⟨rfl, (zC ah rfl am), ⟨rfl, rfl, trivial⟩⟩ (by obtain ⟨_, _, _, rfl⟩ := ab.sl; kernel_rfl) (kt_end rfl hx (kt_step (rs := [9]) zy (one_mem ?_)))
 intro ar an _ ap ao au aq o_ ho_; obtain rfl := zE ho_
 obtain ⟨hb, _⟩ := yG hb an
 have ab := ab.keep0 an
 have av : Sl ap 52 (.agg #[ac, (.int .u64 1)]) := (zE ((aq 8 _ 52 zy rfl rfl).1 rfl)).symm
 refine op_bslice (e := 152) (pv := [(0, (.agg #[ac, (.int .u64 1)]))]) (cs := [ac, (.int .u64 1)]) ⟨rfl, (zC ao rfl av), trivial⟩ (by obtain ⟨_, _, _, rfl⟩ := ab.sl; kernel_rfl) ?_
 intro aB ay az aC ax aw
 obtain ⟨hb, _⟩ := yG hb aw
 have hx := (hx.keep0 an).keep0 aw
 refine kt_end rfl hx (kt_step (rs := [10]) zy (one_mem ?_))
 intro aH aD _ aF aG aI aE o_ ho_; obtain rfl := zE ho_
 obtain ⟨hb, _⟩ := yG hb aD
 have O := (((((((O.keep0 B).keep0 J).keep0 R).keepT aa ad zz).keep0 ag).keep0 an).keep0 aw).keep0 aD
 have ab := (ab.keep0 aw).keep0 aD
 have ax := ax.keep0 aD
 have a : Sl aF 48 tv := (aE 4 _ 48 zy rfl rfl).2 rfl
 have b : Sl aF 53 (.slice (some ⟨ay, 0, none⟩) 1 1) := (zE ((aE 9 _ 53 zy rfl rfl).1 rfl)).symm
 have c := O
 refine op_append slt70 (zC aG rfl a) c (zC aG rfl b) (Src.ofRd Try.underlying70 zz (RdC.ofBx (sz := 2) (n := 1) ax rfl zz) (by simp only [yA, yB, yC, yD, ab.one]; try rfl)) (by unfold maxLen; omega) zx (by first | exact Nat.le_trans (by assumption) hb.size | (have := hb.size; omega)) ?_
 intro b j a f k
 have := f.size
 have hx := (hx.keep0 aD).keepO c f zz
 have hb := hb.stepL f (fun _ _ h => .inr h)
 have a : Own j base 152 2 b (T.length + 1) ((T.flatMap cellsT ++ [ac, (.int .u64 1)])) := by simpa [u8v, u16v, sv] using a
 refine kt_end rfl hx ?_
 intro t l o j m u s
 have m := m.trans ((by simp only [putsL_defers] : _ = _).trans p)
 obtain ⟨hb, _⟩ := yG hb l
 have hx := hx.keep0 l
 have a := a.keep0 l
 have p : Sl o 44 (ptr d 0) := (s 0 _ 44 rfl rfl).2 rfl
 have t : Sl o 54 b := (zE ((s 10 _ 54 rfl rfl).1 rfl)).symm
 refine split_end (from_seq (tl := [_, _, _]) zz zy rfl (op_nil (zC j rfl p) (zM fld72_2 (zA j rfl) ?_)))
 have hx_old := hx
 refine za (vs := [b]) (cs' := [mp, sv9, b]) size70 (zA j rfl) (zC j rfl t) a.cl rfl (by simp only [yA, yB, yC, yD, a.one]; try rfl) hx (zI rfl) rfl ?_
 intro p hx o
 have := o.size
 have ab := ((ab.keepT c f zz).keep0 l).keepX hx_old o zz
 have a := a.keepX hx_old o zz
 have hb := hb.stepB o (.inl rfl)
 refine zB (g _ _ (zF fun _ g => zH (zD rfl (zB (g _ _ (wp_ret (ret1 rfl m (zA j rfl) ⟨_, rfl, ?_⟩)))))))
 exact ⟨hb, .inr ⟨fun q hq => hno q zx, rfl, b, ac, hx, a.cast (by simp) (by simp [List.flatMap_append, cellsT]), sub_of_hm k zx, ab.cast (by simp) (by simp)⟩⟩

end Go.Proofs.Ytmhdbphpmgjpcaa

namespace Go.Gx
open Go.RowKit
section
variable {P : Program} {Q : Exit → Act → World → Prop} {a : Act} {w w' : World} {l : List (Nat × Value)} {ops : Array Oper} {rest : List Oper}
variable {d ty t e xt yt : Nat} {p : String} {af : Array Edge} {x y : Operand} {b off : Nat}
end
end Go.Gx

namespace Go.Gx
open Go.RowKit
section
variable {P : Program} {Q : Exit → Act → World → Prop} {a : Act} {w : World} {l : List (Nat × Value)} {ops : Array Oper} {rest : List Oper}
variable {d ty : Nat} {p : String} {af : Array Edge}
end
section
variable {K V : Type} {P : Program} {Q : Exit → Act → World → Prop} {a : Act} {w w' : World} {l : List (Nat × Value)} {ops : Array Oper} {rest : List Oper}
variable {ty mt kt et m : Nat} {p : String} {af : Array Edge} {x y : Operand} {kv : K → Value} {vv : V → Value} {es : List (K × V)} {k : K}
end
end Go.Gx

namespace Go.Gx
open Go.RowKit
section
variable {P : Program} {Q : Exit → Act → World → Prop} {a : Act} {w w' : World} {l : List (Nat × Value)} {ops : Array Oper} {rest : List Oper}
variable {d ty t e xt yt : Nat} {p : String} {af : Array Edge} {x y : Operand} {v : Value} {k : IntKind} {n base sz by_ b off : Nat} {cs ws : List Value} {zv : Value} {r : Int}
def CapIs (v : Value) (c : Nat) : Prop := v = .slice none 0 0 ∧ c = 0 ∨ ∃ g n, v = .slice (some g) n c
def cutS (sz : Nat) (v : Value) (k : Nat) : Value := match v with | .slice ad n c => .slice (if c = k then ad else ad.map (·.add (k * sz))) (n - k) (c - k) | x => x
theorem op_slice_cutS {w9 : World} {lo : Operand} {k : Nat} {kk : IntKind} (T : SlT P t e zv sz by_) (hx : (putsL a l).eval x = v) (O : Own w9 base e sz v n cs) (hl : (putsL a l).eval lo = .int kk r) (hr : r = (k : Int)) (hk : k ≤ n) (h : wpList P ops Q rest (putsL a ((d, cutS sz v k) :: l)) w) :
    wpList P ops Q (⟨some d, .slice t x (some lo) none none, ty, p, af, none⟩ :: rest) (putsL a l) w := by
  obtain ⟨inf, hi, hz0, hz1, hz2⟩ := info_parts T.info
  subst hr
  have R := O.rdw
  obtain ⟨hl0, ad, c, rfl, hnc, hcm, _⟩ := R
  have e1 : ¬ ((n : Int) < (k : Int)) := by omega
  have e2 : ¬ ((c : Int) < (n : Int)) := by omega
  have e3 : ¬ n < k := by omega
  have e4 : ¬ c < n := by omega
  refine op_gen (v := .slice (if c = k then ad else ad.map (·.add (k * sz))) (n - k) (c - k)) rfl ?_ h
  by_cases hck : c = k
  · subst hck
    have : n = c := by omega
    subst this
    simp [execOp, hx, hl, Instr.sliceAt, Instr.slice, run_underlying T.und, Instr.sliceBounds, Instr.sliceBound, asIntOf, sizeOf, typeInfo, hi, hz1]
  · simp [execOp, hx, hl, Instr.sliceAt, Instr.slice, run_underlying T.und, Instr.sliceBounds, Instr.sliceBound, asIntOf, sizeOf, typeInfo, hi, hz1, hk, hnc, hck]
theorem Own.cap (O : Own w base e sz v n cs) : ∃ c, n ≤ c ∧ c ≤ 9223372036854775807 ∧ CapIs v c := by
  obtain ⟨c, h1, h2, h3⟩ := O.capOf
  exact ⟨c, h1, h2, h3⟩
theorem CapIs.hi {c m : Nat} (h : CapIs v c) (hm : v = .slice none 0 0 → m = 0) : CapIs (hiV v m) c := by
  rcases h with ⟨rfl, rfl⟩ | ⟨g, n0, rfl⟩
  · have := hm rfl; subst this; exact .inl ⟨rfl, rfl⟩
  · exact .inr ⟨g, m, rfl⟩
end
end Go.Gx

namespace Go.Gx
open Go.RowKit
section
variable {P : Program} {Q : Exit → Act → World → Prop} {a : Act} {w w' : World} {l : List (Nat × Value)} {ops : Array Oper} {rest : List Oper}
variable {d ty t e tx xt yt : Nat} {p : String} {af : Array Edge} {x y : Operand} {v xv : Value} {k : IntKind} {n m i c base sz by_ b off : Nat} {cs ws news : List Value} {zv : Value} {r : Int}
theorem op_ext {f : FuncId} {as9 : Array Operand} {ts : Array Nat} {vs : Array Value} {u : Value} (hm : as9.map (putsL a l).eval = vs) (hr : (callFunc f vs).run P w = .ok (.value u) w') (h : wpList P ops Q rest (putsL a ((d, u) :: l)) w') :
    wpList P ops Q (⟨some d, .call ⟨.value (.func f), as9, ts⟩, ty, p, af, none⟩ :: rest) (putsL a l) w :=
  op_gen (v := u) (w' := w') rfl (by
    show (callFunc f (#[] ++ as9.map (putsL a l).eval ++ #[])).run P w = _
    rw [hm]; simpa using hr) h
theorem Bx.shape {cs : List Value} (h : Bx w b t cs) : w.shape? b = some (t, cs.length) := by
  have h' : w.heap[b]? = some (.cells cs.toArray t (0, 0)) := h
  simp [World.shape?, h']
end
end Go.Gx

namespace Go.Gx
open Go.RowKit Go.MapKept
section
variable {K V : Type} {kv : K → Value} {vv : V → Value} {w w' : World} {m : Nat} {es : List (K × V)}
variable {P : Program} {Q : Exit → Act → World → Prop} {a : Act} {l : List (Nat × Value)} {ops : Array Oper} {rest : List Oper} {d ty mt kt et xt : Nat} {p : String} {af : Array Edge} {x : Operand} {v : Value}
theorem op_mkif (ht : P.underlying mt = some (.map kt et)) (hx : (putsL a l).eval x = v) (h : wpList P ops Q rest (putsL a ((d, .iface mt v) :: l)) w) :
    wpList P ops Q (⟨some d, .makeInterface mt x, ty, p, af, none⟩ :: rest) (putsL a l) w := by
  refine op_gen (w' := w) (v := .iface mt v) rfl ?_ h
  simp only [execOp, hx, Sem.run_bind]
  simp [Instr.makeInterface, run_underlying ht, go_sem, Result.andThen]
theorem op_asmap (ht : P.underlying mt = some (.map kt et)) (hx : (putsL a l).eval x = .iface mt v) (h : wpList P ops Q rest (putsL a ((d, v) :: l)) w) :
    wpList P ops Q (⟨some d, .typeAssert x xt mt false, ty, p, af, none⟩ :: rest) (putsL a l) w := by
  refine op_gen (w' := w) (v := v) rfl ?_ h
  simp only [execOp, hx, Sem.run_bind]
  rw [Go.Proofs.run_typeAssert_map_sl w mt xt kt et v ht]
  simp [Result.andThen]
theorem op_mapclone {f : FuncId} {fn : Func} {ts : Array Nat} (hf : P.funcs[f]? = some fn) (hname : (fn.name == "runtime.NumGoroutine") = false) (hb : fn.body.isNone = true) (hn : Extern.findNext fn = none) (he : Extern.find fn = some Extern.MapsClone.clone)
    (hx : (putsL a l).eval x = .iface mt (.map (some m))) (M : MapC kv vv w m es)
    (h : ∀ w' m', w.heap.size ≤ m' → m' < w'.heap.size → MapC kv vv w' m' es → w.grownBy w' none → wpList P ops Q rest (putsL a ((d, .iface mt (.map (some m'))) :: l)) w') :
    wpList P ops Q (⟨some d, .call ⟨.value (.func f), #[x], ts⟩, ty, p, af, none⟩ :: rest) (putsL a l) w := by
  obtain ⟨arr, clock, hm, hs, he2⟩ := M
  refine op_ext (vs := #[.iface mt (.map (some m))]) (u := .iface mt (.map (some w.heap.size))) (w' := w.alloc (.map arr clock)) (by simp [hx]) ?_ (h _ w.heap.size (Nat.le_refl _) (by simp) ⟨arr, clock, Go.heap_alloc_new w _, hs, he2⟩ (World.grownBy_alloc w _ none))
  rw [run_callFunc_extern hf hname hb hn he, Go.Proofs.run_maps_clone_sl w mt hm]
  rfl
end
end Go.Gx

namespace Go.Proofs.Ytmhdbphpmgjpcaa
open Go.Gx Go.RowKit
attribute [local irreducible] wpList wpStill Code.wp Calls

theorem CopyAt {w : World} {base i : Nat} {S : List KS} {C : List KC} {F : Nat → Prop} (hb : base ≤ w.heap.size) (h : SessAll w base S C F) (hi : i < S.length) :
    Ret Try.prog 21 #[ptr (C.getD i default).p 0] w (fun v' w' => Gr w w' F ∧ ∃ (p2 : Nat) (F2 : Nat → Prop), v' = ptr p2 0 ∧ PostS w' w.heap.size p2 16 (S.getD i default).texts F2 ∧ SessAll w' base S C F) := by
  obtain ⟨h1, h2, h3, h4⟩ := h
  refine (CopyR_s hb (h2 i hi).2.2).mono fun v' w' q => ?_
  obtain ⟨E, p2, F2, rfl, hP2, hP⟩ := q
  refine ⟨E.mono fun x _ hx => (h4 x).2 ⟨i, hi, .inr (.inr hx)⟩, p2, F2, rfl, hP2, h1, fun j hj => ?_, h3, h4⟩
  obtain ⟨a1, a2, a3⟩ := h2 j hj
  have hQ := (h2 i hi).2.2
  refine ⟨a1.keepG E (hQ.notOwn a1 zz zz), a2.keepG E (hQ.notOwn a2 zz zz), ?_⟩
  by_cases e : j = i
  · subst e; exact hP
  · exact a3.keepG E (h3 j i hj hi e)

theorem take_snoc9 {S : List KS} {i : Nat} (h : i < S.length) : S.take (i + 1) = S.take i ++ [S.getD i default] := by
  rw [List.take_add_one, List.getElem?_eq_getElem h, List.getD_eq_getElem?_getD, List.getElem?_eq_getElem h]; rfl

theorem mapClone {m : Nat} {M : List (List UInt8 × Int)} {w : World} (hM : MapC sv (.int .u64) w m M) : Ret Try.prog 93 #[(Value.map (some m))] w (fun v' w' => Below w.heap.size w w' ∧ ∃ m2, v' = .map (some m2) ∧ w.heap.size ≤ m2 ∧ MapC sv (.int .u64) w' m2 M) := by
 have hb := Below.refl w.heap.size w
 refine enter (N := 9) Try.func93 rfl rfl (by simp) fun a hN hd hA => ?_
 have b : a.tmps.getD 0 undef = (Value.map (some m)) := hA 0 (by simp)
 clear hA
 refine zF fun _ a => zH (zD rfl (zB (a _ _ (zF fun _ a => ?_))))
 refine zF fun _ c => zH (zG (zC hN rfl b) (op_meq (r := some m) Try.underlying131 (zA hN rfl) rfl (zB (c _ _ (wp_cond_false (zA hN rfl) (wp_skip (a _ _ (zF fun _ a => zH (zG (zC hN rfl b) (op_mkif Try.underlying131 (zA hN rfl) (op_mapclone Try.func118 zy zy zy zy (zA hN rfl) hM ?_)))))))))))
 intro d m2 e f c b
 obtain ⟨hb, _⟩ := yE hb b
 refine op_asmap Try.underlying131 (zA hN rfl) (zD (zA hN rfl) (zB (a _ _ (wp_ret (ret1 rfl hd (zA hN rfl) ⟨_, rfl, ?_⟩)))))
 exact ⟨hb, m2, rfl, by omega, c⟩

theorem CopyK {C : List KC} {S : List KS} {k m base : Nat} {lv : Value} {M : List (List UInt8 × Int)} {F0 : Nat → Prop} {w : World} (hbase : base ≤ w.heap.size) (hn : S.length ≤ 6) (hx : Bx w k 134 [lv, .map (some m)]) (O : Own w base 137 3 lv S.length (C.flatMap cellsK)) (hM : MapC sv (.int .u64) w m M) (hS : SessAll w base S C F0) (h8 : ∀ x ∈ S, x.label.length ≤ 100 ∧ x.owns.length ≤ 100) : Ret Try.prog 47 #[(ptr k 0)] w (fun v' w' => Gr w w' F0 ∧ ∃ (c m2 : Nat) (lv2 : Value) (C2 : List KC) (F2 : Nat → Prop), v' = ptr c 0 ∧ w.heap.size ≤ c ∧ w.heap.size ≤ m2 ∧ Bx w' c 134 [lv2, .map (some m2)] ∧ Own w' w.heap.size 137 3 lv2 S.length (C2.flatMap cellsK) ∧ MapC sv (.int .u64) w' m2 M ∧ SessAll w' w.heap.size S C2 F2 ∧ SessAll w' base S C F0 ∧ Dj F0 F2) := by
 have hi_k := hx.lt
 have hi_m := hM.lt
 have hCl := hS.1
 have hb := Gr.refl w F0
 refine enter (N := 45) Try.func47 rfl rfl (by simp) fun a hN hd hA => ?_
 have b : a.tmps.getD 0 undef = (ptr k 0) := hA 0 (by simp)
 clear hA
 refine zF fun _ g => zH (zD rfl (zB (g _ _ (zF fun _ g => zF fun _ f => zH (zG (zC hN rfl b) (op_peq_some ptrt50 (zA hN rfl) rfl (zB ?_)))))))
 refine f _ _ (wp_cond_false (zA hN rfl) (wp_skip (g _ _ (zF fun _ g => zH (zG (zC hN rfl b) (op_nil (zA hN rfl) (zM fld134_1 (zA hN rfl) (zN one131 (zA hN rfl) (hx.cell rfl) (zj ok93 (mapClone hM) ⟨(zA hN rfl), trivial⟩ ?_)))))))))
 rintro _ t ⟨p, o, rfl, s, l⟩
 have p := zQ p
 obtain ⟨hb, _⟩ := yG hb p
 have hS := hS.kz p
 refine zf (pv := [(1, (Value.map (some o)))]) (v := (Value.agg #[(.slice none 0 0), (Value.map (some o))])) ⟨rfl, (zA hN rfl), trivial⟩ zy (op_box (cs := [(.slice none 0 0), (Value.map (some o))]) (zA hN rfl) rfl ?_)
 intro F A I H D B
 have J : ¬ F0 A := fun hf => by have := (hS.lt _ hf).2; omega
 obtain ⟨hb, _⟩ := yG hb B
 have hx := (hx.keep0 p).keep0 B
 have O := (O.keep0 p).keep0 B
 have hM := (hM.keep0 p).keep0 B
 have hS := hS.kz B
 have l := l.keep0 B
 refine zD (zA hN rfl) (zB (g _ _ (zF fun _ g => ?_)))
 refine zF fun _ f => zH (zG (zC hN rfl b) (op_nil (zA hN rfl) (zM fld134_0 (zA hN rfl) (zN one132 (zA hN rfl) (hx.cell rfl) (op_len_rd Try.underlying132 (zA hN rfl) O.rdw (zG rfl (zB (f _ _ (wp_block (loop_m (fun mz_ az_ w' => ∃ (i : Nat) (lv2 : Value) (C2 : List KC) (F2 : Nat → Prop), mz_ = S.length - i ∧ (Sl az_ 2 (Value.pointer none)) ∧ (Sl az_ 3 (ptr A 0)) ∧ (Sl az_ 18 lv) ∧ (Sl az_ 19 (.int .i64 ((S.length : Nat) : Int))) ∧ (Sl az_ 20 (.int .i64 ((i : Nat) : Int))) ∧ (i ≤ S.length) ∧ (C2.length = i) ∧ (Dj F0 F2) ∧ (DJ lv lv2) ∧ (Gr w w' F0) ∧ (F.heap.size ≤ w'.heap.size) ∧ (Bx w' k 134 [lv, (Value.map (some m))]) ∧ (Own w' base 137 3 lv S.length (C.flatMap cellsK)) ∧ (MapC sv (.int .u64) w' m M) ∧ (MapC sv (.int .u64) w' o M) ∧ (Bx w' A 134 [lv2, (Value.map (some o))]) ∧ (SessAll w' base S C F0) ∧ (SessAll w' w.heap.size (S.take i) C2 F2) ∧ (Own w' w.heap.size 137 3 lv2 i (C2.flatMap cellsK))) _ hN hd ⟨0, (.slice none 0 0), [], NoB, rfl, (zU hN rfl), (zU hN rfl), (zU hN rfl), (zU hN rfl), (zU hN rfl), (Nat.zero_le _), rfl, (fun _ _ q => q.elim), (Dj.nil _), hb, (Nat.le_refl _), hx, O, hM, l, D, hS, (SessAll.nil _ _), (Own.nil _ _ _ _)⟩ ?_))))))))))
 rintro _ Z aa L V ⟨i, lv2, C2, F2, rfl, Y, Q, U, W, T, hi, ab, R, X, hb, ac, hx, O, hM, l, hxc, hS, K, P⟩
 have := hb.size
 refine zF fun _ f => zH (op_lss (zC L rfl T) (zC L rfl W) (fun ad => ?_) (fun ad => ?_))
 ·
  refine zB (f _ _ (zF fun _ f => wp_cond_true (zA L rfl) (wp_skip (f _ _ (zF fun _ f => wp_block (zF fun _ J2 => zH ?_))))))
  have ae : i < S.length := by omega
  refine zh slt132 (zC L rfl U) O.rdw (zC L rfl T) zx zx ?_
  intro ai aj ag ah af
  refine zX (cs := [(C.getD i default).lab, (C.getD i default).own, (ptr (C.getD i default).p 0)]) agg137 rfl (zA L rfl) (fun j u hu => af j u (by have := (List.getElem?_eq_some_iff.1 hu).1; simpa using this) ((el_kc (n := S.length) ⟨hCl, rfl⟩ zx zx) j u hu)) (op_alloc (cs := [(.slice none 0 0), (.slice none 0 0), (Value.pointer none)]) zero137 rfl ?_)
  intro an al ap ao ak am
  have aq : ¬ F0 al := fun hf => by have := (hS.lt _ hf).2; omega
  have ar : ¬ F2 al := fun hf => by have := (K.lt _ hf).2; omega
  have au : lv.ownBlock ≠ some al := fun hh => by have := (O.lt _ hh).2; omega
  have av : lv2.ownBlock ≠ some al := fun hh => by have := (P.lt _ hh).2; omega
  obtain ⟨hb, _⟩ := yG hb am
  have hx := hx.keep0 am
  have hxc := hxc.keep0 am
  have hS := hS.kz am
  have aw := ak
  refine zZ size137 (zA L rfl) (zA L rfl) rfl (by simp only [yA, yB, yC, yD, (hS.2.1 i ae).1.one, (hS.2.1 i ae).2.1.one]; try rfl) ak rfl ?_
  intro ay ak ax
  have := ax.size
  have hx := hx.keep ax (sN hx aw)
  have O := (O.keep0 am).keep ax (.inr au)
  have hM := (hM.keep0 am).keepB aw ax
  have l := (l.keep0 am).keepB aw ax
  have hxc := hxc.keep ax (sN hxc aw)
  have hS := hS.keepG (Gr.of ax) (Dj.one aq)
  have K := (K.kz am).keepG (Gr.of ax) (Dj.one ar)
  have P := (P.keep0 am).keep ax (.inr av)
  have hb := hb.step1 ax zx
  refine zB (J2 _ _ (reg_split (hd := [_, _, _, _, _, _, _, _, _, _, _, _, _, _, _, _, _]) (tl := _) 17 mixed zy rfl rfl (any_env (φ := phiV [(fun uz => uz = (ptr A 0)), (fun uz => uz = (ptr A 0)), (fun uz => uz = (ptr A 0)), (fun uz => uz = (ptr A 0)), (fun uz => uz = lv2), (fun uz => uz = (ptr al 0)), (fun uz => uz = (C.getD i default).lab), (fun _ => True), (fun uz => uz = (ptr al 1)), (fun uz => uz = (C.getD i default).own), (fun _ => True), (fun uz => uz = (ptr al 2)), (fun uz => uz = (ptr (C.getD i default).p 0)), (fun _ => True), (fun _ => True), (fun _ => True), (fun _ => True)]) (G := fun w' => Bx w' A 134 [lv2, (Value.map (some o))] ∧ Bx w' al 137 [(C.getD i default).lab, (C.getD i default).own, (ptr (C.getD i default).p 0)]) [7, 10, 13, 14, 15, 16] zy zy zy zy L (fun w1 w2 E h => by obtain ⟨h0, h1⟩ := h; exact ⟨h0.keep0 E, h1.keep0 E⟩) ⟨hxc, ak⟩ (ObEs.cons ?_ (ObEs.cons ?_ (ObEs.cons ?_ (ObEs.cons ?_ (ObEs.cons ?_ (ObEs.cons ?_ (ObEs.cons ?_ (ObEs.pass rfl (ObEs.cons ?_ (ObEs.cons ?_ (ObEs.pass rfl (ObEs.cons ?_ (ObEs.cons ?_ (ObEs.pass rfl (ObEs.pass rfl (ObEs.pass rfl (ObEs.pass rfl (ObEs.nil)))))))))))))))))) (by simp only [putsL_defers]) ?_)))
  ·
   intro eA aA wA hNA hGA hbsA hdpA
   have az := (hbsA 3 rfl).trans (zL L rfl Q)
   refine zG (zC hNA rfl az) ?_
   exact obE_end rfl rfl rfl
  ·
   intro eA aA wA hNA hGA hbsA hdpA
   have az := (hbsA 3 rfl).trans (zL L rfl Q)
   refine zG (zC hNA rfl az) ?_
   exact obE_end rfl rfl rfl
  ·
   intro eA aA wA hNA hGA hbsA hdpA
   have az : Sl aA 25 (ptr A 0) := (hdpA 1 _ 25 zy rfl rfl).2 rfl
   refine op_nil (zC hNA rfl az) ?_
   exact obE_end rfl rfl rfl
  ·
   intro eA aA wA hNA hGA hbsA hdpA
   have az : Sl aA 26 (ptr A 0) := (hdpA 2 _ 26 zy rfl rfl).2 rfl
   refine zM fld134_0 (zC hNA rfl az) ?_
   exact obE_end rfl rfl rfl
  ·
   intro eA aA wA hNA hGA hbsA hdpA
   have az : Sl aA 27 (ptr A 0) := (hdpA 3 _ 27 zy rfl rfl).2 rfl
   obtain ⟨hxc, ak⟩ := hGA
   refine zN one132 (zC hNA rfl az) (hxc.cell rfl) ?_
   exact obE_end rfl rfl rfl
  ·
   intro eA aA wA hNA hGA hbsA hdpA
   have az := (hbsA 5 rfl).trans (zU L rfl)
   refine zM fld137_0 (zC hNA rfl az) ?_
   exact obE_end rfl rfl rfl
  ·
   intro eA aA wA hNA hGA hbsA hdpA
   have aB : Sl aA 29 (ptr al 0) := (hdpA 5 _ 29 zy rfl rfl).2 rfl
   obtain ⟨hxc, ak⟩ := hGA
   refine zN one54 (zC hNA rfl aB) (ak.cell rfl) ?_
   exact obE_end rfl rfl rfl
  ·
   intro eA aA wA hNA hGA hbsA hdpA
   have az := (hbsA 5 rfl).trans (zU L rfl)
   refine zM fld137_1 (zC hNA rfl az) ?_
   exact obE_end rfl rfl rfl
  ·
   intro eA aA wA hNA hGA hbsA hdpA
   have aB : Sl aA 32 (ptr al 1) := (hdpA 8 _ 32 zy rfl rfl).2 rfl
   obtain ⟨hxc, ak⟩ := hGA
   refine zN one54 (zC hNA rfl aB) (ak.cell rfl) ?_
   exact obE_end rfl rfl rfl
  ·
   intro eA aA wA hNA hGA hbsA hdpA
   have az := (hbsA 5 rfl).trans (zU L rfl)
   refine zM fld137_2 (zC hNA rfl az) ?_
   exact obE_end rfl rfl rfl
  ·
   intro eA aA wA hNA hGA hbsA hdpA
   have az : Sl aA 35 (ptr al 2) := (hdpA 11 _ 35 zy rfl rfl).2 rfl
   obtain ⟨hxc, ak⟩ := hGA
   refine zN one24 (zC hNA rfl az) (ak.cell rfl) ?_
   exact obE_end rfl rfl rfl
  intro aE az _ aD aB aF aC o_ ho_; obtain rfl := zE ho_
  obtain ⟨hb, _⟩ := yG hb az
  have hS := hS.kz az
  have K := K.kz az
  have aG : Sl aD 30 (C.getD i default).lab := (aC 6 _ 30 zy rfl rfl).2 rfl
  refine zj ok77 (CloneL (S.getD i default).label _ _ (by have h9 := h8 _ (getD_mem (d := default) ae); omega) ((hS.2.1 i ae).1.rdw.mono (Nat.zero_le _) (Nat.le_refl _))) ⟨(zC aB rfl aG), trivial⟩ ?_
  rintro aJ aK ⟨aI, aH⟩
  have aL : Dj F0 (Bl aJ) := Dj.fresh (fun k hk => (hS.lt k hk).2) (fun k hk => (aH.lt k hk).1)
  have aI := zQ aI
  obtain ⟨hb, _⟩ := yG hb aI
  have hxc := (hxc.keep0 az).keep0 aI
  have hS := hS.kz aI
  have K := K.kz aI
  have ak := (ak.keep0 az).keep0 aI
  have aH := aH.mono (base' := w.heap.size) zx
  refine ke_end rfl zz rfl ⟨hxc, ak⟩ ?_
  intro aR aM _ aP aN aQ aO o_ ho_; obtain rfl := zE ho_
  obtain ⟨hb, _⟩ := yG hb aM
  have hS := hS.kz aM
  have K := K.kz aM
  have aS : Sl aP 33 (C.getD i default).own := (aO 9 _ 33 zy rfl rfl).2 rfl
  refine zj ok77 (CloneL (S.getD i default).owns _ _ (by have h9 := h8 _ (getD_mem (d := default) ae); omega) ((hS.2.1 i ae).2.1.rdw.mono (Nat.zero_le _) (Nat.le_refl _))) ⟨(zC aN rfl aS), trivial⟩ ?_
  rintro aV aW ⟨aU, aT⟩
  have aX : Dj F0 (Bl aV) := Dj.fresh (fun k hk => (hS.lt k hk).2) (fun k hk => (aT.lt k hk).1)
  have aU := zQ aU
  obtain ⟨hb, _⟩ := yG hb aU
  have hxc := (hxc.keep0 aM).keep0 aU
  have hS := hS.kz aU
  have K := K.kz aU
  have ak := (ak.keep0 aM).keep0 aU
  have aT := aT.mono (base' := w.heap.size) zx
  refine ke_end rfl zz rfl ⟨hxc, ak⟩ ?_
  intro a1 aY _ a2 aZ a3 a0 o_ ho_; obtain rfl := zE ho_
  obtain ⟨hb, _⟩ := yG hb aY
  have hx := ((((hx.keep0 az).keep0 aI).keep0 aM).keep0 aU).keep0 aY
  have O := ((((O.keep0 az).keep0 aI).keep0 aM).keep0 aU).keep0 aY
  have hM := ((((hM.keep0 az).keep0 aI).keep0 aM).keep0 aU).keep0 aY
  have l := ((((l.keep0 az).keep0 aI).keep0 aM).keep0 aU).keep0 aY
  have hxc := hxc.keep0 aY
  have hS := hS.kz aY
  have K := K.kz aY
  have P := ((((P.keep0 az).keep0 aI).keep0 aM).keep0 aU).keep0 aY
  have a4 : Sl a2 36 (ptr (C.getD i default).p 0) := (a0 12 _ 36 zy rfl rfl).2 rfl
  refine zj ok21 (CopyAt zx hS ae) ⟨(zC aZ rfl a4), trivial⟩ ?_
  rintro _ ba ⟨a7, a8, a9, rfl, a5, a6⟩
  have bb : ∀ k, a9 k → a1.heap.size ≤ k := fun k hk => (a5.lt k hk).1
  have bc : ¬ a9 A := fun hf => by have := bb _ hf; have := hxc.lt; omega
  have bd : Dj F0 a9 := Dj.fresh (fun k hk => (hS.lt k hk).2) bb
  have be : Dj F2 a9 := Dj.fresh (fun k hk => (K.lt k hk).2) bb
  have bf : Dj (Bl lv2) a9 := Dj.fresh (fun k hk => (P.lt k hk).2) bb
  have hS_old := hS
  have := a7.size
  have hx := hx.keepG a7 (hS_old.notBx hx zz zz zz)
  have O := O.keepG a7 (hS_old.notOwn O zz zz zz)
  have hM := hM.keepG a7 (hS_old.notMap hM)
  have l := l.keepG a7 (hS_old.notMap l)
  have hxc := hxc.keepG a7 J
  have P := P.keepG a7 (hS_old.notOwn P zz zz zz)
  have ak := (ak.keep0 aY).keepG a7 aq
  have hb := hb.stepF a7 (fun _ _ h => h)
  have a5 : (PostR sv 126 9) ba w.heap.size a8 16 (S.getD i default).texts a9 := a5.mono zx
  refine ke_end rfl zz rfl ⟨hxc, ak⟩ ?_
  intro bk bg _ bj bi bl bh o_ ho_; obtain rfl := zE ho_
  obtain ⟨hb, _⟩ := yG hb bg
  have hxc := hxc.keep0 bg
  have K := (K.keepG a7 R.symm).kz bg
  have ak := ak.keep0 bg
  have aH := ((((aH.keep0 aM).keep0 aU).keep0 aY).keepG a7 aL.symm).keep0 bg
  have aT := ((aT.keep0 aY).keepG a7 aX.symm).keep0 bg
  have a5 := a5.kz bg
  have a6 := a6.kz bg
  have bm : Sl bj 31 aJ := (zE ((bh 7 _ 31 zy rfl rfl).1 0 rfl)).symm
  have bn : Sl bj 34 aV := (zE ((bh 10 _ 34 zy rfl rfl).1 1 rfl)).symm
  have bo : Sl bj 37 (ptr a8 0) := (zE ((bh 13 _ 37 zy rfl rfl).1 2 rfl)).symm
  refine zf (pv := [(0, aJ), (1, aV), (2, (ptr a8 0))]) (v := (Value.agg #[aJ, aV, (ptr a8 0)])) ⟨rfl, (zC bi rfl bm), ⟨rfl, (zC bi rfl bn), ⟨rfl, (zC bi rfl bo), trivial⟩⟩⟩ (by obtain ⟨_, _, _, rfl⟩ := aH.sl; obtain ⟨_, _, _, rfl⟩ := aT.sl; kernel_rfl) (ke_end rfl zz rfl ⟨hxc, ak⟩ ?_)
  intro bu bp _ bq bt bv br o_ ho_; obtain rfl := zE ho_
  obtain ⟨hb, _⟩ := yG hb bp
  have K := K.kz bp
  have aH := aH.keep0 bp
  have aT := aT.keep0 bp
  have a5 := a5.kz bp
  have a6 := a6.kz bp
  have bw : Sl bq 38 (.agg #[aJ, aV, (ptr a8 0)]) := (zE ((br 14 _ 38 zy rfl rfl).1 3 rfl)).symm
  refine op_bslice (e := 137) (pv := [(0, (.agg #[aJ, aV, (ptr a8 0)]))]) (cs := [aJ, aV, (ptr a8 0)]) ⟨rfl, (zC bt rfl bw), trivial⟩ (by obtain ⟨_, _, _, rfl⟩ := aH.sl; obtain ⟨_, _, _, rfl⟩ := aT.sl; kernel_rfl) ?_
  intro bD bB bE bC bA bz
  obtain ⟨hb, _⟩ := yG hb bz
  have hxc := (hxc.keep0 bp).keep0 bz
  have K := K.kz bz
  have ak := (ak.keep0 bp).keep0 bz
  have a5 := a5.kz bz
  have a6 := a6.kz bz
  refine ke_end rfl zz rfl ⟨hxc, ak⟩ ?_
  intro bK bF _ bI bH bJ bG o_ ho_; obtain rfl := zE ho_
  obtain ⟨hb, _⟩ := yG hb bF
  have O := (((O.keep0 bg).keep0 bp).keep0 bz).keep0 bF
  have K := K.kz bF
  have P := (((P.keep0 bg).keep0 bp).keep0 bz).keep0 bF
  have aH := (aH.keep0 bz).keep0 bF
  have aT := (aT.keep0 bz).keep0 bF
  have a6 := a6.kz bF
  have bA := bA.keep0 bF
  have af : Sl bI 28 lv2 := (bG 4 _ 28 zy rfl rfl).2 rfl
  have ag : Sl bI 39 (.slice (some ⟨bB, 0, none⟩) 1 1) := (zE ((bG 15 _ 39 zy rfl rfl).1 4 rfl)).symm
  have ah := P
  refine op_append slt132 (zC bH rfl af) ah (zC bH rfl ag) (Src.ofRd Try.underlying132 zz (RdC.ofBx (sz := 3) (n := 1) bA rfl zz) (by simp only [yA, yB, yC, yD, aH.one, aT.one]; try rfl)) (by unfold maxLen; omega) zx hb.size ?_
  intro ai al ag af aj
  have am : DJ lv ai := DJ.step aj (fun k hk => (O.lt k hk).2) X
  have := af.size
  have hxc := (hxc.keep0 bF).keepO ah af zz
  have K := K.keepG (Gr.of af) (K.notOwn ah zz zz zz).symm
  have ak := (ak.keep0 bF).keep af (fun hh => av hh.symm)
  have a5 := (a5.kz bF).keepG (Gr.of af) bf.symm
  have a6 := a6.keepG (Gr.of af) (a6.notOwn ah zz zz zz).symm
  have hb := hb.stepO ah af zx
  have ag : Own al w.heap.size 137 3 ai (i + 1) ((C2.flatMap cellsK ++ [aJ, aV, (ptr a8 0)])) := by simpa [u8v, u16v, sv] using ag
  refine ke_end rfl zz rfl ⟨hxc, ak⟩ ?_
  intro aq ak ap aj an al ao
  have an := an.trans ((by simp only [putsL_defers] : _ = _).trans V)
  obtain ⟨hb, _⟩ := yG hb ak
  have hxc := hxc.keep0 ak
  have K := K.kz ak
  have ag := ag.keep0 ak
  have aq := (al 2 rfl).trans (zL L rfl Y)
  have ar := (al 3 rfl).trans (zL L rfl Q)
  have au := (al 18 rfl).trans (zL L rfl U)
  have av := (al 19 rfl).trans (zL L rfl W)
  have aw := (al 20 rfl).trans (zL L rfl T)
  have al : Sl ap 24 (ptr A 0) := (ao 0 _ 24 rfl rfl).2 rfl
  have ax : Sl ap 40 ai := (zE ((ao 16 _ 40 rfl rfl).1 5 rfl)).symm
  refine split_end (from_seq (tl := [_, _, _]) zz zy rfl (op_nil (zC aj rfl al) (zM fld134_0 (zA aj rfl) ?_)))
  have hxc_old := hxc
  refine za (vs := [ai]) (cs' := [ai, (Value.map (some o))]) size132 (zA aj rfl) (zC aj rfl ax) ag.cl rfl (by simp only [yA, yB, yC, yD, ag.one]; try rfl) hxc (zI rfl) rfl ?_
  intro ao hxc al
  have := al.size
  have hx := ((((((hx.keep0 bg).keep0 bp).keep0 bz).keep0 bF).keepO ah af zz).keep0 ak).keep al sB
  have O := ((O.keepD af X).keep0 ak).keepX hxc_old al zz
  have hM := ((((((hM.keep0 bg).keep0 bp).keep0 bz).keep0 bF).keepO ah af).keep0 ak).keepB hxc_old al
  have l := ((((((l.keep0 bg).keep0 bp).keep0 bz).keep0 bF).keepO ah af).keep0 ak).keepB hxc_old al
  have K := K.keepG (Gr.of al) (Dj.one (K.notBx hxc_old zz zz zz))
  have aH := ((aH.keepT ah af zz).keep0 ak).keepX hxc_old al zz
  have aT := ((aT.keepT ah af zz).keep0 ak).keepX hxc_old al zz
  have a5 := (a5.kz ak).keepG (Gr.of al) (Dj.one bc)
  have a6 := (a6.kz ak).keepG (Gr.of al) (Dj.one J)
  have ag := ag.keepX hxc_old al zz
  have hb := hb.step1 al zx
  refine zB (f _ _ (zH (op_add (zC aj rfl aw) rfl (add64 zx) (zG (zA aj rfl) (zB ?_)))))
  -- round 21T
  exact zg _ aj an ⟨(i + 1), ai, (C2 ++ [(⟨aJ, aV, a8, a9⟩ : KC)]), (fun x => F2 x ∨ Bl aJ x ∨ Bl aV x ∨ a9 x), rfl, (zL aj rfl aq), (zL aj rfl ar), (zL aj rfl au), (zL aj rfl av), (zU aj rfl).trans (congrArg (Value.int .i64) zx), zx, (by simp; omega), (fun y hy hf => hf.elim (fun z => R y hy z) (fun hf => hf.elim (fun z => aL y hy z) (fun hf => hf.elim (fun z => aX y hy z) (fun z => (bd.symm).symm y hy z)))), am, hb, zx, hx, O, hM, l, hxc, a6, (by rw [take_snoc9 ae]; exact K.snoc aH aT a5 be), (ag.cast zx (by simp [List.flatMap_append, cellsK]))⟩ zx
 refine zB (f _ _ (zF fun _ f => wp_cond_false (zA L rfl) (wp_exit (then_exit (then_exit (blk_hit (g _ _ (zF fun _ g => zH (zG (zC L rfl Q) (zD (zA L rfl) (zB (g _ _ (wp_ret (ret1 rfl V (zA L rfl) ⟨_, rfl, ?_⟩))))))))))))))
 obtain rfl : i = S.length := by omega
 rw [List.take_length] at K
 exact ⟨hb, A, o, _, C2, F2, rfl, by omega, by omega, hxc, P, l, K, hS, R⟩

end Go.Proofs.Ytmhdbphpmgjpcaa

namespace Go.Proofs.Ytmhdbphpmgjpcaa
open Go.Gx Go.RowKit
theorem CopyKR {base k : Nat} {S : List KS} {M : List (List UInt8 × Int)} {F : Nat → Prop} {w : World} (hb : base ≤ w.heap.size) (hn : S.length ≤ 6) (h8 : ∀ x ∈ S, x.label.length ≤ 100 ∧ x.owns.length ≤ 100) (h : KernR w base k S M F) :
    Ret Try.prog 47 #[ptr k 0] w (fun v' w' => Gr w w' F ∧ ∃ (k2 : Nat) (F2 : Nat → Prop), v' = ptr k2 0 ∧ KernR w' w.heap.size k2 S M F2 ∧ KernR w' base k S M F ∧ Dj F F2) := by
  have hlt := h.lt
  obtain ⟨lv, m, C, F0, hk, hm, hx, O, hM, hS, hF⟩ := h.all
  obtain rfl : F = _ := funext fun x => propext (hF x)
  refine (CopyK hb hn hx O hM hS h8).mono fun v' w' q => ?_
  obtain ⟨E, c, m2, lv2, C2, F2, rfl, h1, h2, hx2, O2, hM2, hS2, hS', hd⟩ := q
  refine ⟨E.mono fun x _ hx => .inr (.inr (.inr hx)), c, _, rfl, hS2.kern h1 h2 hx2 O2 hM2, hS'.kern hk hm (hx.keepG E (hS.notBx hx (by decide) (by decide) (by decide))) (O.keepG E (hS.notOwn O (by decide) (by decide) (by decide))) (hM.keepG E (hS.notMap hM)), fun x hf hg => ?_⟩
  have hl := (hlt x hf).2
  rcases hg with rfl | rfl | hg | hg
  · omega
  · omega
  · have := (O2.lt x hg).1; omega
  · have := (hS2.lt x hg).1; omega
theorem RaiseDB {base d i : Nat} {S : List KS} {M : ST} {F : Nat → Prop} {w : World} {t : List UInt16} {tv : Value} (hb : base ≤ w.heap.size) (hn : S.length ≤ 6) (hi : i < S.length) (hl : (S.getD i default).label.length ≤ 100) (htl : t.length ≤ 100) (ht : RdC w 0 w.heap.size 1 tv t.length (t.map u16v)) (h : DbR w base d S M F) :
    Ret Try.prog 43 #[ptr d 0, .int .i64 (i : Int), tv] w (fun v' w' => Gr w w' F ∧ v' = .int .i64 (raiseE (S.getD i default).label t) ∧ ∃ F', DbR w' base d (S.set i { S.getD i default with label := raiseL (S.getD i default).label t }) M F' ∧ NewF w.heap.size F F') := by
  obtain ⟨mp, sv9, tv9, C, hC, hx, O, hFd, hFs, hDS, hDP, close⟩ := h.sess hb
  obtain ⟨a1, a2, a3⟩ := hDS i hi
  refine (RaiseD hb hn hi hC hx O a1 hl htl ht).mono fun v' w' q => ?_
  obtain ⟨E, hv, nv, O', hnv, hnew⟩ := q
  have E2 := Gr.of E
  obtain ⟨E3, F2, hD, hN⟩ := close w' i { S.getD i default with label := raiseL (S.getD i default).label t } ⟨nv, (C.getD i default).ow, (C.getD i default).po⟩ hi E O' ⟨hnv, a2.keepG E2 (fun x hx hh => a2.notOwn O (by decide) x hx hh), a3.keepG E2 (fun x hx hh => a3.notOwn O (by decide) x hx hh)⟩ (fun x hp => by
    rcases hp with q | q | q
    · rcases hnew with e | e
      · exact .inl (hDP i hi x (.inl (by rw [← e]; exact q)))
      · exact .inr (e x q)
    · exact .inl (hDP i hi x (.inr (.inl q)))
    · exact .inl (hDP i hi x (.inr (.inr q))))
  exact ⟨E3, hv, F2, hD, hN⟩
theorem StampDB {base d Lr Br : Nat} {S : List KS} {M : ST} {F : Nat → Prop} {w : World} {x : List UInt16} {xv : Value} (hb : base ≤ w.heap.size) (hML : M.length ≤ 100000) (hl8 : ∀ e ∈ M, e.1.length ≤ 100) (hxl : x.length ≤ 100) (hxr : RdC w Lr Br 1 xv x.length (x.map u16v)) (hBr : Br ≤ w.heap.size) (hap : ∀ y, F y → y < Lr ∨ Br ≤ y) (h : DbR w base d S M F) :
    Ret Try.prog 46 #[ptr d 0, xv] w (fun v' w' => Gr w w' F ∧ v' = .int .u64 (IntKind.u64.wrap (tVal M x + 1)) ∧ ∃ F', DbR w' base d S (tUp M x) F' ∧ NewF w.heap.size F F') := by
  obtain ⟨mp, sv9, tv, T, rfl, hx, O, hT, hFd, hFt, cl1, cl2⟩ := h.stamps hb
  have hgt : ∀ q, q < T.length → (T.map tOf).getD q ([], 0) = ((T.getD q default).lab, (T.getD q default).n) := fun q hq => by simp [List.getD_eq_getElem?_getD, hq, tOf]
  rw [List.length_map] at hML
  refine (StampD hb hML hx O hT (fun i hi => ?_) hxl hxr hBr (fun y hy => hap y (hy.elim (fun q => q ▸ hFd) (hFt y)))).mono fun v' w' q => ?_
  · have := hl8 (tOf (T.getD i default)) (List.mem_map.2 ⟨_, getD_mem hi, rfl⟩)
    exact this
  obtain ⟨E, ⟨i, hi, hlab, hno, rfl, hx', O'⟩ | ⟨hno, rfl, tv', la, hx', O', hsub, hla⟩⟩ := q
  · obtain ⟨E3, hD⟩ := cl1 w' i _ hi E hx' O'
    obtain ⟨e1, e2⟩ := tUp_hit (T := T.map tOf) (x := x) (i := i) (n := (T.getD i default).n) (fun q hq => by rw [hgt q (by omega)]; exact hno q hq) (by
      have := hgt i hi
      rw [List.getD_eq_getElem?_getD, List.getElem?_eq_getElem (by simpa using hi), Option.getD_some] at this
      rw [List.getElem?_eq_getElem (by simpa using hi), this, hlab])
    rw [e1, e2]
    rw [hlab] at hD
    exact ⟨E3, rfl, F, hD, NewF.refl _ _⟩
  · obtain ⟨E3, F2, hD, hN⟩ := cl2 w' tv' la x 1 E hx' O' hsub hla
    obtain ⟨e1, e2⟩ := tUp_miss (T := T.map tOf) (x := x) (fun q hq => by rw [List.length_map] at hq; rw [hgt q hq]; exact hno q hq)
    rw [e1, e2]
    exact ⟨E3, rfl, F2, hD, hN⟩
end Go.Proofs.Ytmhdbphpmgjpcaa

namespace Go.Proofs.Ytmhdbphpmgjpcaa
open Go.Gx Go.RowKit
attribute [local irreducible] wpList wpStill Code.wp Calls

theorem same24_ret {base k d : Nat} {S : List KS} {M : List (List UInt8 × Int)} {T : ST} {F FD : Nat → Prop} {w : World} (hbase : base ≤ w.heap.size) (hK : KernR w base k S M F) (hD : DbR w base d S T FD) (hFD : Dj F FD) (hok : SOk S) : Ret Try.prog 48 #[(ptr k 0), (ptr d 0)] w (fun v' w' => Gr w w' F ∧ v' = .bool true ∧ ∃ F', KernR w' base k S M F' ∧ NewF w.heap.size F F') := by
 obtain ⟨mp, e, g, C, m, F0S, FT, hdd, n, hxd, c, a, hOT, l, f⟩ := hD
 clear hOT l
 have l := a.1
 have hi_d := hxd.lt
 have l := hok.1
 have hOlt : ∀ y, Bl e y → y < w.heap.size := fun y hy => (c.lt y hy).2
 have hSlt : ∀ y, F0S y → y < w.heap.size := fun y hy => (a.lt y hy).2
 have l : ¬ F d := fun h => hFD d h ((f d).2 (.inl rfl))
 have m : Dj (Bl e) F := fun y hy h => hFD y h ((f y).2 (.inr (.inl hy)))
 have n : Dj F0S F := fun y hy h => hFD y h ((f y).2 (.inr (.inr (.inr (.inl hy)))))
 have hb := Gr.refl w F
 refine enter (N := 113) Try.func48 rfl rfl (by simp) fun f hN hd hA => ?_
 have o : f.tmps.getD 0 undef = (ptr k 0) := hA 0 (by simp)
 have p : f.tmps.getD 1 undef = (ptr d 0) := hA 1 (by simp)
 clear hA
 refine zF fun _ f => ?_
 refine zH (zD rfl (zB (f _ _ (zF fun _ f => zF fun _ q => zH (zD rfl (zB (q _ _ (wp_block (loop_m (fun mz_ az_ w' => ∃ (jj : Nat) (FK : Nat → Prop), mz_ = S.length + 2 - jj ∧ (Sl az_ 0 (ptr k 0)) ∧ (Sl az_ 1 (ptr d 0)) ∧ (Sl az_ 5 (.int .i64 (((jj : Nat) : Int) - 1))) ∧ (jj ≤ S.length + 2) ∧ (NewF w.heap.size F FK) ∧ (Gr w w' F) ∧ (w.heap.size ≤ w'.heap.size) ∧ (Bx w' d 72 [mp, e, g]) ∧ (Own w' base 75 4 e S.length (C.flatMap cellsD)) ∧ (DSAll w' base S C F0S) ∧ (KernR w' base k S M FK)) _ hN hd ⟨0, F, rfl, (zL hN rfl o), (zL hN rfl p), (zU hN rfl).trans rfl, (Nat.zero_le _), (NewF.refl _ _), hb, (Nat.le_refl _), hxd, c, a, hK⟩ ?_)))))))))
 rintro _ D t g A ⟨jj, FK, rfl, p, z, o, hj, hNK, hb, B, hxd, c, a, hKj⟩
 have := hb.size
 refine zF fun _ q => zF fun _ B => zH ?_
 have D : ¬ FK d := ne_stepF hNK hi_d l
 have l : Dj (Bl e) FK := Dj.stepF hNK (fun y hy => (hOlt y hy)) m
 have m : Dj F0S FK := Dj.stepF hNK (fun y hy => hSlt y hy) n
 refine zG (zC g rfl o) (zG (zC g rfl z) (op_nil (zA g rfl) (zM fld72_1 (zA g rfl) (zN one69 (zA g rfl) (hxd.cell rfl) (op_len_rd Try.underlying69 (zA g rfl) c.rdw (op_leq (zA g rfl) (zA g rfl) (fun n => ?_) (fun n => ?_)))))))
 ·
  refine zB (B _ _ (wp_cond_true (zA g rfl) (wp_skip (q _ _ (zF fun _ q => ?_)))))
  refine wp_block (zF fun _ B => zH (zG (zC g rfl p) (zG (zC g rfl o) (zj ok41 (HeadR (((jj : Nat) : Int) - 1) zx hok.1 hKj) ⟨(zA g rfl), ⟨(zA g rfl), trivial⟩⟩ ?_))))
  rintro _ J ⟨G, rfl, H, n, I⟩
  have J := hxd.lt
  have J := c.lt
  have J := a.lt
  have := G.size
  have hxd := hxd.keepG G D
  have c := c.keepG G l
  have a := a.keepG G m
  have hb := hb.stepF G (fun y hy l => (hNK y l).resolve_right zx)
  refine zG (zA g rfl) ?_
  refine zW (zA g rfl) rfl (zW (zA g rfl) rfl (zD (zA g rfl) (zD (zA g rfl) (zB (B _ _ (zF fun _ B => zF fun _ l => zH (zG (zC g rfl o) (op_lss (zA g rfl) rfl (fun m => ?_) (fun m => ?_)))))))))
  ·
   refine zG (zA g rfl) (zR (j := 2) (dj := 26) (b := false) rfl rfl rfl (zA g rfl) rfl rfl (zR (j := 2) (dj := 26) (b := false) rfl rfl rfl (zA g rfl) rfl rfl ?_))
   refine zR (j := 2) (dj := 26) (b := false) rfl rfl rfl (zA g rfl) rfl rfl (zR (j := 2) (dj := 26) (b := false) rfl rfl rfl (zA g rfl) rfl rfl (zR (j := 2) (dj := 26) (b := false) rfl rfl rfl (zA g rfl) rfl rfl (zR (j := 2) (dj := 26) (b := false) rfl rfl rfl (zA g rfl) rfl rfl (zR (j := 2) (dj := 26) (b := false) rfl rfl rfl (zA g rfl) rfl rfl (zc (zA g rfl) rfl (zB (l _ _ (wp_cond_true (zA g rfl) (zF fun _ l => zF fun _ m => zH ?_)))))))))
   have D : inS S (((jj : Nat) : Int) - 1) = false := by unfold inS; simp; omega
   have G : atS S (((jj : Nat) : Int) - 1) = ⟨[], [], []⟩ := by unfold atS; rw [if_neg (by rw [D]; decide)]
   refine zG (zA g rfl) (zG (zA g rfl) ?_)
   rcases Bool.eq_false_or_eq_true ((decide (0 < (atS S (((jj : Nat) : Int) - 1)).texts.length))) with J | J
   ·
    rw [G] at J; exact absurd J zz
   rw [J]
   refine zS (j := 1) (dj := 36) (b := false) rfl rfl rfl (zA g rfl) (zG (zC g rfl p) (zS (j := 1) (dj := 36) (b := false) rfl rfl rfl (zA g rfl) (zG (zC g rfl o) (zS (j := 1) (dj := 36) (b := false) rfl rfl rfl (zA g rfl) (zj ok39 (WaitR (((jj : Nat) : Int) - 1) zx hok.1 n) ⟨(zA g rfl), ⟨(zA g rfl), trivial⟩⟩ ?_)))))
   rintro _ L ⟨K, rfl⟩
   have K := zQ K
   obtain ⟨hb, _⟩ := yG hb K
   have hxd := hxd.keep0 K
   have c := c.keep0 K
   have a := a.kz K
   have n := n.kz K
   refine zS (j := 1) (dj := 36) (b := false) rfl rfl rfl (zA g rfl) (op_neq (zA g rfl) rfl (fun K => ?_) (fun K => ?_))
   ·
    exact absurd (by rw [G]; rfl) K
   refine zd (zA g rfl) (zA g rfl) (zG (zA g rfl) ?_)
   refine zS (j := 7) (dj := 42) (b := false) rfl rfl rfl (zA g rfl) (zG (zC g rfl p) (zS (j := 7) (dj := 42) (b := false) rfl rfl rfl (zA g rfl) (zG (zC g rfl o) (zS (j := 7) (dj := 42) (b := false) rfl rfl rfl (zA g rfl) (zj ok37 (LabelR (((jj : Nat) : Int) - 1) zx hok.1 n hok.lab) ⟨(zA g rfl), ⟨(zA g rfl), trivial⟩⟩ ?_)))))
   rintro P Q ⟨L, O⟩
   have L := zQ L
   obtain ⟨hb, _⟩ := yG hb L
   have a := a.kz L
   have n := n.kz L
   have O := O.mono (base' := w.heap.size) zx
   have P := mayL_len (hok.at (((jj : Nat) : Int) - 1)).1
   refine zS (j := 7) (dj := 42) (b := false) rfl rfl rfl (zA g rfl) (op_len_rd Try.underlying54 (zA g rfl) O.rdw ?_)
   refine zS (j := 7) (dj := 42) (b := false) rfl rfl rfl (zA g rfl) (zG (zC g rfl p) (zS (j := 7) (dj := 42) (b := false) rfl rfl rfl (zA g rfl) (zG (zC g rfl o) (zS (j := 7) (dj := 42) (b := false) rfl rfl rfl (zA g rfl) (zj ok38 (OwnsR (((jj : Nat) : Int) - 1) zx hok.1 n hok.own) ⟨(zA g rfl), ⟨(zA g rfl), trivial⟩⟩ ?_)))))
   rintro R Q ⟨O, P⟩
   have O := zQ O
   obtain ⟨hb, _⟩ := yG hb O
   have hxd := (hxd.keep0 L).keep0 O
   have c := (c.keep0 L).keep0 O
   have a := a.kz O
   have n := n.kz O
   have P := P.mono (base' := w.heap.size) zx
   have L := mayL_len (hok.at (((jj : Nat) : Int) - 1)).2.1
   refine zS (j := 7) (dj := 42) (b := false) rfl rfl rfl (zA g rfl) (op_len_rd Try.underlying54 (zA g rfl) P.rdw (zS (j := 7) (dj := 42) (b := false) rfl rfl rfl (zA g rfl) (op_add (zA g rfl) (zA g rfl) (add64 zx) (zS (j := 7) (dj := 42) (b := false) rfl rfl rfl (zA g rfl) (op_neq (zA g rfl) rfl (fun L => ?_) (fun L => ?_))))))
   ·
    exact absurd (by rw [G]; rfl) L
   refine zd (zA g rfl) (zA g rfl) (zB (m _ _ (wp_cond_false (zA g rfl) (wp_skip (l _ _ (wp_exit (then_exit (blk_hit (q _ _ (zH (zG (zC g rfl o) (op_add (zA g rfl) rfl (add64 zx) (zD (zA g rfl) (zB ?_))))))))))))))
   -- round 15T 25T 36F 40F 52F
   exact zg _ g A ⟨(jj + 1), H, rfl, (zL g rfl p), (zL g rfl z), (zU g rfl).trans (congrArg (Value.int .i64) zx), zx, (NewF.trans hNK I zx), hb, zx, hxd, c, a, n⟩ zx
  refine zG (zA g rfl) (zS (j := 2) (dj := 26) (b := false) rfl rfl rfl (zA g rfl) (zG (zC g rfl o) (zS (j := 2) (dj := 26) (b := false) rfl rfl rfl (zA g rfl) ?_)))
  refine zG (zC g rfl z) (zS (j := 2) (dj := 26) (b := false) rfl rfl rfl (zA g rfl) (op_nil (zA g rfl) (zS (j := 2) (dj := 26) (b := false) rfl rfl rfl (zA g rfl) (zM fld72_1 (zA g rfl) (zS (j := 2) (dj := 26) (b := false) rfl rfl rfl (zA g rfl) (zN one69 (zA g rfl) (hxd.cell rfl) (zS (j := 2) (dj := 26) (b := false) rfl rfl rfl (zA g rfl) (op_len_rd Try.underlying69 (zA g rfl) c.rdw (zS (j := 2) (dj := 26) (b := false) rfl rfl rfl (zA g rfl) (op_eql (zA g rfl) (zA g rfl) (fun O => ?_) (fun O => ?_)))))))))))
  ·
   refine zd (zA g rfl) (zA g rfl) (zB (l _ _ (wp_cond_true (zA g rfl) (zF fun _ l => zF fun _ m => zH ?_))))
   have D : inS S (((jj : Nat) : Int) - 1) = false := by unfold inS; simp; omega
   have G : atS S (((jj : Nat) : Int) - 1) = ⟨[], [], []⟩ := by unfold atS; rw [if_neg (by rw [D]; decide)]
   refine zG (zA g rfl) (zG (zA g rfl) ?_)
   rcases Bool.eq_false_or_eq_true ((decide (0 < (atS S (((jj : Nat) : Int) - 1)).texts.length))) with J | J
   ·
    rw [G] at J; exact absurd J zz
   rw [J]
   refine zS (j := 1) (dj := 36) (b := false) rfl rfl rfl (zA g rfl) (zG (zC g rfl p) (zS (j := 1) (dj := 36) (b := false) rfl rfl rfl (zA g rfl) (zG (zC g rfl o) (zS (j := 1) (dj := 36) (b := false) rfl rfl rfl (zA g rfl) (zj ok39 (WaitR (((jj : Nat) : Int) - 1) zx hok.1 n) ⟨(zA g rfl), ⟨(zA g rfl), trivial⟩⟩ ?_)))))
   rintro _ J ⟨D, rfl⟩
   have D := zQ D
   obtain ⟨hb, _⟩ := yG hb D
   have hxd := hxd.keep0 D
   have c := c.keep0 D
   have a := a.kz D
   have n := n.kz D
   refine zS (j := 1) (dj := 36) (b := false) rfl rfl rfl (zA g rfl) (op_neq (zA g rfl) rfl (fun K => ?_) (fun K => ?_))
   ·
    exact absurd (by rw [G]; rfl) K
   refine zd (zA g rfl) (zA g rfl) (zG (zA g rfl) ?_)
   refine zS (j := 7) (dj := 42) (b := false) rfl rfl rfl (zA g rfl) (zG (zC g rfl p) (zS (j := 7) (dj := 42) (b := false) rfl rfl rfl (zA g rfl) (zG (zC g rfl o) (zS (j := 7) (dj := 42) (b := false) rfl rfl rfl (zA g rfl) (zj ok37 (LabelR (((jj : Nat) : Int) - 1) zx hok.1 n hok.lab) ⟨(zA g rfl), ⟨(zA g rfl), trivial⟩⟩ ?_)))))
   rintro O K ⟨D, J⟩
   have D := zQ D
   obtain ⟨hb, _⟩ := yG hb D
   have a := a.kz D
   have n := n.kz D
   have J := J.mono (base' := w.heap.size) zx
   have K := mayL_len (hok.at (((jj : Nat) : Int) - 1)).1
   refine zS (j := 7) (dj := 42) (b := false) rfl rfl rfl (zA g rfl) (op_len_rd Try.underlying54 (zA g rfl) J.rdw ?_)
   refine zS (j := 7) (dj := 42) (b := false) rfl rfl rfl (zA g rfl) (zG (zC g rfl p) (zS (j := 7) (dj := 42) (b := false) rfl rfl rfl (zA g rfl) (zG (zC g rfl o) (zS (j := 7) (dj := 42) (b := false) rfl rfl rfl (zA g rfl) (zj ok38 (OwnsR (((jj : Nat) : Int) - 1) zx hok.1 n hok.own) ⟨(zA g rfl), ⟨(zA g rfl), trivial⟩⟩ ?_)))))
   rintro O P ⟨J, K⟩
   have J := zQ J
   obtain ⟨hb, _⟩ := yG hb J
   have hxd := (hxd.keep0 D).keep0 J
   have c := (c.keep0 D).keep0 J
   have a := a.kz J
   have n := n.kz J
   have K := K.mono (base' := w.heap.size) zx
   have D := mayL_len (hok.at (((jj : Nat) : Int) - 1)).2.1
   refine zS (j := 7) (dj := 42) (b := false) rfl rfl rfl (zA g rfl) (op_len_rd Try.underlying54 (zA g rfl) K.rdw (zS (j := 7) (dj := 42) (b := false) rfl rfl rfl (zA g rfl) (op_add (zA g rfl) (zA g rfl) (add64 zx) (zS (j := 7) (dj := 42) (b := false) rfl rfl rfl (zA g rfl) (op_neq (zA g rfl) rfl (fun L => ?_) (fun L => ?_))))))
   ·
    exact absurd (by rw [G]; rfl) L
   refine zd (zA g rfl) (zA g rfl) (zB (m _ _ (wp_cond_false (zA g rfl) (wp_skip (l _ _ (wp_exit (then_exit (blk_hit (q _ _ (zH (zG (zC g rfl o) (op_add (zA g rfl) rfl (add64 zx) (zD (zA g rfl) (zB ?_))))))))))))))
   -- round 15T 25F 33T 36F 40F 52F
   exact zg _ g A ⟨(jj + 1), H, rfl, (zL g rfl p), (zL g rfl z), (zU g rfl).trans (congrArg (Value.int .i64) zx), zx, (NewF.trans hNK I zx), hb, zx, hxd, c, a, n⟩ zx
  refine zd (zA g rfl) (zA g rfl) (zB (l _ _ (wp_cond_false (zA g rfl) (wp_skip (B _ _ (zF fun _ B => zH ?_))))))
  have l : jj - 1 < S.length := by omega
  obtain ⟨m, J, D⟩ := a.2.1 (jj - 1) l
  have K : (((jj : Nat) : Int) - 1) = ((jj - 1 : Nat) : Int) := by omega
  have G : atS S (((jj : Nat) : Int) - 1) = (S.getD (jj - 1) default) := by rw [K]; exact (at_nat l).1
  have l := hok.at (((jj : Nat) : Int) - 1)
  have K := mayL_len l.1
  have L := mayL_len l.2.1
  have O := l.2.2
  rw [G] at K L O
  have K := mayL_len l.1
  have K := mayL_len l.2.1
  have K := l.2.2
  have l : (atS S (((jj : Nat) : Int) - 1)).texts.length = (S.getD (jj - 1) default).texts.length := by rw [G]
  refine zG (zC g rfl z) (op_nil (zA g rfl) (zM fld72_1 (zA g rfl) (zN one69 (zA g rfl) (hxd.cell rfl) (zG (zC g rfl o) (zh slt69 (zA g rfl) c.rdw (zA g rfl) zx zx ?_)))))
  intro P L K O l
  refine zX (cs := [(C.getD (jj - 1) default).la, (C.getD (jj - 1) default).ow, (C.getD (jj - 1) default).po, (.bool false)]) agg75 rfl (zA g rfl) (fun j u hu => l j u (by have := (List.getElem?_eq_some_iff.1 hu).1; simpa using this) ((el_ds (i := (jj - 1)) zx zx) j u hu)) (op_alloc (cs := [(.slice none 0 0), (.slice none 0 0), (.slice none 0 0), (.bool false)]) zero75 rfl ?_)
  intro Q K O P l L
  have O : ¬ F0S K := fun hf => by have := (a.lt _ hf).2; omega
  have P : ¬ H K := fun hf => by have := (n.lt _ hf).2; omega
  have Q : e.ownBlock ≠ some K := fun hh => by have := (c.lt _ hh).2; omega
  obtain ⟨hb, _⟩ := yG hb L
  have hxd := hxd.keep0 L
  have m := m.keep0 L
  have J := J.keep0 L
  have D := D.keep0 L
  have R := l
  refine zZ size75 (zA g rfl) (zA g rfl) rfl (by simp only [yA, yB, yC, yD, m.one, J.one, D.one]; try rfl) l rfl ?_
  intro U l V
  have := V.size
  have hxd := hxd.keep V (sN hxd R)
  have c := (c.keep0 L).keep V (.inr Q)
  have a := (a.kz L).keepG (Gr.of V) (Dj.one O)
  have n := (n.kz L).keepG (Gr.of V) (Dj.one P)
  have m := m.keepX R V zz
  have J := J.keepX R V zz
  have D := D.keepX R V zz
  have hb := hb.step1 V zx
  refine zB (B _ _ (zF fun _ B => ?_))
  rcases Bool.eq_false_or_eq_true (((decide (0 < (atS S (((jj : Nat) : Int) - 1)).texts.length)) != (decide (0 < (((S.getD (jj - 1) default).texts.length : Nat) : Int))))) with L | L
  ·
   exfalso; rw [G] at L; simp at L
  rcases Bool.eq_false_or_eq_true ((decide (0 < (atS S (((jj : Nat) : Int) - 1)).texts.length))) with O | O
  ·
   have P := of_decide_eq_true O
   by_cases Q : ((atS S (((jj : Nat) : Int) - 1)).texts.getD 0 []) ≠ ((S.getD (jj - 1) default).texts.getD 0 [])
   ·
    exact absurd (by rw [G]) Q
   by_cases R : (((atS S (((jj : Nat) : Int) - 1)).texts.length : Nat) : Int) ≠ (((S.getD (jj - 1) default).texts.length : Nat) : Int)
   ·
    exact absurd (by rw [G]) R
   rcases Bool.eq_false_or_eq_true ((decide ((atS S (((jj : Nat) : Int) - 1)).label = (S.getD (jj - 1) default).label))) with V | V
   ·
    have W := of_decide_eq_true V
    refine reg_split (hd := [_, _, _, _, _, _, _, _, _, _, _, _, _, _, _, _, _, _, _, _, _, _, _, _, _, _, _, _, _, _, _, _, _, _, _, _, _, _, _, _, _]) (tl := _) 41 mixed zy rfl rfl ?_
    refine any_quiet (Φ := phiL [(fun uz _ => uz = (.bool (decide (0 < (atS S (((jj : Nat) : Int) - 1)).texts.length)))), (fun uz _ => uz = (ptr K 2)), (fun uz _ => uz = (C.getD (jj - 1) default).po), (fun uz _ => uz = (.int .i64 (((S.getD (jj - 1) default).texts.length : Nat) : Int))), (fun uz _ => uz = (.bool (decide (0 < (((S.getD (jj - 1) default).texts.length : Nat) : Int))))), (fun uz _ => uz = (.bool false)), (fun uz _ => uz = (.bool false)), (fun uz _ => uz = (.bool true)), (fun uz _ => uz = (.bool true)), (fun uz _ => uz = (.string (bs ((atS S (((jj : Nat) : Int) - 1)).texts.getD 0 [])))), (fun uz _ => uz = (ptr K 2)), (fun uz _ => uz = (C.getD (jj - 1) default).po), (fun uz w' => ∃ (X : (Nat)) (ac : (Nat)), uz = (ptr X ac) ∧ PtC w' X (X + 1) X ac [(.string (bs ((S.getD (jj - 1) default).texts.getD 0 [])))]), (fun uz _ => uz = (.string (bs ((S.getD (jj - 1) default).texts.getD 0 [])))), (fun uz _ => uz = (.bool false)), (fun uz _ => uz = (.bool false)), (fun uz _ => uz = (.bool false)), (fun uz _ => uz = (.bool false)), (fun uz _ => uz = (ptr k 0)), (fun uz _ => uz = (.int .i64 (((jj : Nat) : Int) - 1))), (fun uz _ => uz = (.int .i64 (((atS S (((jj : Nat) : Int) - 1)).texts.length : Nat) : Int))), (fun uz _ => uz = (ptr K 2)), (fun uz _ => uz = (C.getD (jj - 1) default).po), (fun uz _ => uz = (.int .i64 (((S.getD (jj - 1) default).texts.length : Nat) : Int))), (fun uz _ => uz = (.bool false)), (fun uz _ => uz = (.bool false)), (fun uz _ => uz = (.bool false)), (fun uz _ => uz = (ptr k 0)), (fun uz _ => uz = (.int .i64 (((jj : Nat) : Int) - 1))), (fun uz w' => ∃ (aa : Value), uz = aa ∧ Own w' w.heap.size 46 1 aa (atS S (((jj : Nat) : Int) - 1)).label.length ((atS S (((jj : Nat) : Int) - 1)).label.map u16v)), (fun uz _ => uz = (ptr K 0)), (fun uz _ => uz = (C.getD (jj - 1) default).la), (fun uz _ => uz = (.bool true)), (fun uz _ => uz = (.bool false)), (fun uz _ => uz = (.bool false)), (fun uz _ => uz = (.bool false)), (fun uz _ => uz = (ptr k 0)), (fun uz _ => uz = (.int .i64 (((jj : Nat) : Int) - 1))), (fun uz w' => ∃ (ab : Value), uz = ab ∧ Own w' w.heap.size 46 1 ab (atS S (((jj : Nat) : Int) - 1)).owns.length ((atS S (((jj : Nat) : Int) - 1)).owns.map u16v)), (fun uz _ => uz = (ptr K 1)), (fun uz _ => uz = (C.getD (jj - 1) default).ow)]) zy zy zy g (StL.get (StL.eq (StL.eq (StL.eq (StL.eq (StL.eq (StL.eq (StL.eq (StL.eq (StL.eq (StL.eq (StL.eq (StL.eq (StL.cons (fun u t w2 E h => by obtain ⟨Z, x1, hv, Y⟩ := h; exact ⟨Z, x1, hv, Y.keep0 E⟩) (StL.eq (StL.eq (StL.eq (StL.eq (StL.eq (StL.eq (StL.eq (StL.eq (StL.eq (StL.eq (StL.eq (StL.eq (StL.eq (StL.eq (StL.eq (StL.eq (StL.cons (fun u t w2 E h => by obtain ⟨Z, hv, Y⟩ := h; exact ⟨Z, hv, Y.keep0 E⟩) (StL.eq (StL.eq (StL.eq (StL.eq (StL.eq (StL.eq (StL.eq (StL.eq (StL.cons (fun u t w2 E h => by obtain ⟨Z, hv, Y⟩ := h; exact ⟨Z, hv, Y.keep0 E⟩) (StL.eq (StL.eq (StL.nil _))))))))))))))))))))))))))))))))))))))))))) (ObL.get (s := 41) (ObL.cons ?_ (ObL.cons ?_ (ObL.cons ?_ (ObL.cons ?_ (ObL.cons ?_ (ObL.cons ?_ (ObL.cons ?_ (ObL.cons ?_ (ObL.cons ?_ (ObL.cons ?_ (ObL.cons ?_ (ObL.cons ?_ (ObL.cons ?_ (ObL.cons ?_ (ObL.cons ?_ (ObL.cons ?_ (ObL.cons ?_ (ObL.cons ?_ (ObL.cons ?_ (ObL.cons ?_ (ObL.cons ?_ (ObL.cons ?_ (ObL.cons ?_ (ObL.cons ?_ (ObL.cons ?_ (ObL.cons ?_ (ObL.cons ?_ (ObL.cons ?_ (ObL.cons ?_ (ObL.cons ?_ (ObL.cons ?_ (ObL.cons ?_ (ObL.cons ?_ (ObL.cons ?_ (ObL.cons ?_ (ObL.cons ?_ (ObL.cons ?_ (ObL.cons ?_ (ObL.cons ?_ (ObL.cons ?_ (ObL.cons ?_ (ObL.nil)))))))))))))))))))))))))))))))))))))))))) rfl) ?_
    ·
     intro aA wA hNA hRA hbsA hdpA
     have ad := (hbsA 7 rfl).trans (zU g rfl)
     refine zG (zC hNA rfl ad) ?_
     exact obN_end rfl rfl (grown_refl _ _)
    ·
     intro aA wA hNA hRA hbsA hdpA
     have ae := (hbsA 8 rfl).trans (zU g rfl)
     refine zM fld75_2 (zC hNA rfl ae) ?_
     exact obN_end rfl rfl (grown_refl _ _)
    ·
     intro aA wA hNA hRA hbsA hdpA
     have hRA : U.grownBy wA none := hRA
     have := hRA.size
     have m := m.keep0 hRA
     have l := l.keep0 hRA
     have af : Sl aA 62 (ptr K 2) := hdpA 1 _ 62 zy rfl rfl
     clear hbsA hdpA
     refine zN one26 (zC hNA rfl af) (l.cell rfl) ?_
     exact obN_end rfl rfl (grown_refl _ _)
    ·
     intro aA wA hNA hRA hbsA hdpA
     have hRA : U.grownBy wA none := hRA
     have := hRA.size
     have m := m.keep0 hRA
     have D := D.keep0 hRA
     have ag : Sl aA 63 (C.getD (jj - 1) default).po := hdpA 2 _ 63 zy rfl rfl
     clear hbsA hdpA
     refine op_len_rd Try.underlying26 (zC hNA rfl ag) D.rdw ?_
     exact obN_end rfl rfl (grown_refl _ _)
    ·
     intro aA wA hNA hRA hbsA hdpA
     have ah : Sl aA 64 (.int .i64 (((S.getD (jj - 1) default).texts.length : Nat) : Int)) := hdpA 3 _ 64 zy rfl rfl
     refine op_cmp (b := (decide (0 < (((S.getD (jj - 1) default).texts.length : Nat) : Int)))) (zC hNA rfl ah) rfl (b_gtr rfl) ?_
     exact obN_end rfl rfl (grown_refl _ _)
    ·
     intro aA wA hNA hRA hbsA hdpA
     have ai : Sl aA 61 (.bool (decide (0 < (atS S (((jj : Nat) : Int) - 1)).texts.length))) := hdpA 0 _ 61 zy rfl rfl
     have aj : Sl aA 65 (.bool (decide (0 < (((S.getD (jj - 1) default).texts.length : Nat) : Int)))) := hdpA 4 _ 65 zy rfl rfl
     refine op_neb Try.underlying4 (zC hNA rfl ai) (zC hNA rfl aj) ?_
     rw [L]
     exact obN_end rfl rfl (grown_refl _ _)
    ·
     intro aA wA hNA hRA hbsA hdpA
     have ak : Sl aA 66 (.bool false) := hdpA 5 _ 66 zy rfl rfl
     refine zG (zC hNA rfl ak) ?_
     exact obN_end rfl rfl (grown_refl _ _)
    ·
     intro aA wA hNA hRA hbsA hdpA
     have ad := (hbsA 7 rfl).trans (zU g rfl)
     have al : Sl aA 67 (.bool false) := hdpA 6 _ 67 zy rfl rfl
     refine zS (j := 6) (dj := 67) (b := false) rfl rfl rfl (zC hNA rfl al) (zG (zC hNA rfl ad) ?_)
     rw [O]
     exact obN_end rfl rfl (grown_refl _ _)
    ·
     intro aA wA hNA hRA hbsA hdpA
     have am : Sl aA 68 (.bool true) := hdpA 7 _ 68 zy rfl rfl
     have al : Sl aA 67 (.bool false) := hdpA 6 _ 67 zy rfl rfl
     refine zS (j := 6) (dj := 67) (b := false) rfl rfl rfl (zC hNA rfl al) (zG (zC hNA rfl am) ?_)
     exact obN_end rfl rfl (grown_refl _ _)
    ·
     intro aA wA hNA hRA hbsA hdpA
     have an := (hbsA 6 rfl).trans (zU g rfl)
     have ao : Sl aA 69 (.bool true) := hdpA 8 _ 69 zy rfl rfl
     refine zS (j := 8) (dj := 69) (b := true) rfl rfl rfl (zC hNA rfl ao) (zG (zC hNA rfl an) ?_)
     exact obN_end rfl rfl (grown_refl _ _)
    ·
     intro aA wA hNA hRA hbsA hdpA
     have ae := (hbsA 8 rfl).trans (zU g rfl)
     have ao : Sl aA 69 (.bool true) := hdpA 8 _ 69 zy rfl rfl
     refine zS (j := 8) (dj := 69) (b := true) rfl rfl rfl (zC hNA rfl ao) (zM fld75_2 (zC hNA rfl ae) ?_)
     exact obN_end rfl rfl (grown_refl _ _)
    ·
     intro aA wA hNA hRA hbsA hdpA
     have hRA : U.grownBy wA none := hRA
     have := hRA.size
     have m := m.keep0 hRA
     have l := l.keep0 hRA
     have an : Sl aA 71 (ptr K 2) := hdpA 10 _ 71 zy rfl rfl
     have ao : Sl aA 69 (.bool true) := hdpA 8 _ 69 zy rfl rfl
     clear hbsA hdpA
     refine zS (j := 8) (dj := 69) (b := true) rfl rfl rfl (zC hNA rfl ao) (zN one26 (zC hNA rfl an) (l.cell rfl) ?_)
     exact obN_end rfl rfl (grown_refl _ _)
    ·
     intro aA wA hNA hRA hbsA hdpA
     have hRA : U.grownBy wA none := hRA
     have := hRA.size
     have m := m.keep0 hRA
     have D := D.keep0 hRA
     have ap : Sl aA 72 (C.getD (jj - 1) default).po := hdpA 11 _ 72 zy rfl rfl
     have ao : Sl aA 69 (.bool true) := hdpA 8 _ 69 zy rfl rfl
     clear hbsA hdpA
     refine zS (j := 8) (dj := 69) (b := true) rfl rfl rfl (zC hNA rfl ao) (zh slt26 (zC hNA rfl ap) D.rdw rfl zx zx ?_)
     intro X ac ar au aq
     have ar : PtC wA X (X + 1) X ac [(.string (bs ((S.getD (jj - 1) default).texts.getD 0 [])))] := ⟨by omega, by omega, fun j u hu => aq j u (by have := (List.getElem?_eq_some_iff.1 hu).1; simpa using this) ((fun j u hu => one_at (el_sv (i := 0) zx zx) hu) j u hu)⟩
     exact obN_end rfl ⟨X, ac, rfl, ar⟩ (grown_refl _ _)
    ·
     intro aA wA hNA hRA hbsA hdpA
     have hRA : U.grownBy wA none := hRA
     have := hRA.size
     have m := m.keep0 hRA
     obtain ⟨X, ac, aq, ar⟩ := hdpA 12 _ 73 zy rfl rfl
     have ar : PtC wA X (X + 1) X ac [(.string (bs ((S.getD (jj - 1) default).texts.getD 0 [])))] := ar
     have ao : Sl aA 69 (.bool true) := hdpA 8 _ 69 zy rfl rfl
     clear hbsA hdpA
     refine zS (j := 8) (dj := 69) (b := true) rfl rfl rfl (zC hNA rfl ao) (zN (v := (Value.string (bs ((S.getD (jj - 1) default).texts.getD 0 [])))) one9 (zC hNA rfl aq) (ar.2.2 0 _ rfl) ?_)
     exact obN_end rfl rfl (grown_refl _ _)
    ·
     intro aA wA hNA hRA hbsA hdpA
     have X : Sl aA 70 (.string (bs ((atS S (((jj : Nat) : Int) - 1)).texts.getD 0 []))) := hdpA 9 _ 70 zy rfl rfl
     have ac : Sl aA 74 (.string (bs ((S.getD (jj - 1) default).texts.getD 0 []))) := hdpA 13 _ 74 zy rfl rfl
     have ao : Sl aA 69 (.bool true) := hdpA 8 _ 69 zy rfl rfl
     refine zS (j := 8) (dj := 69) (b := true) rfl rfl rfl (zC hNA rfl ao) (op_sneqb (b := false) (zC hNA rfl X) (zC hNA rfl ac) (decide_eq_false Q) ?_)
     exact obN_end rfl rfl (grown_refl _ _)
    ·
     intro aA wA hNA hRA hbsA hdpA
     have ao : Sl aA 69 (.bool true) := hdpA 8 _ 69 zy rfl rfl
     have Q : Sl aA 75 (.bool false) := hdpA 14 _ 75 zy rfl rfl
     have al : Sl aA 67 (.bool false) := hdpA 6 _ 67 zy rfl rfl
     refine zS (j := 6) (dj := 67) (b := false) rfl rfl rfl (zC hNA rfl al) (zc (zC hNA rfl ao) (zC hNA rfl Q) ?_)
     exact obN_end rfl rfl (grown_refl _ _)
    ·
     intro aA wA hNA hRA hbsA hdpA
     have al : Sl aA 67 (.bool false) := hdpA 6 _ 67 zy rfl rfl
     have ar : Sl aA 76 (.bool false) := hdpA 15 _ 76 zy rfl rfl
     refine zd (zC hNA rfl al) (zC hNA rfl ar) ?_
     exact obN_end rfl rfl (grown_refl _ _)
    ·
     intro aA wA hNA hRA hbsA hdpA
     have au : Sl aA 77 (.bool false) := hdpA 16 _ 77 zy rfl rfl
     refine zG (zC hNA rfl au) ?_
     exact obN_end rfl rfl (grown_refl _ _)
    ·
     intro aA wA hNA hRA hbsA hdpA
     have av := (hbsA 0 rfl).trans (zL g rfl p)
     have aw : Sl aA 78 (.bool false) := hdpA 17 _ 78 zy rfl rfl
     refine zS (j := 17) (dj := 78) (b := false) rfl rfl rfl (zC hNA rfl aw) (zG (zC hNA rfl av) ?_)
     exact obN_end rfl rfl (grown_refl _ _)
    ·
     intro aA wA hNA hRA hbsA hdpA
     have ax := (hbsA 5 rfl).trans (zL g rfl o)
     have aw : Sl aA 78 (.bool false) := hdpA 17 _ 78 zy rfl rfl
     refine zS (j := 17) (dj := 78) (b := false) rfl rfl rfl (zC hNA rfl aw) (zG (zC hNA rfl ax) ?_)
     exact obN_end rfl rfl (grown_refl _ _)
    ·
     intro aA wA hNA hRA hbsA hdpA
     have hRA : U.grownBy wA none := hRA
     have := hRA.size
     have n := n.kz hRA
     have ay : Sl aA 79 (ptr k 0) := hdpA 18 _ 79 zy rfl rfl
     have az : Sl aA 80 (.int .i64 (((jj : Nat) : Int) - 1)) := hdpA 19 _ 80 zy rfl rfl
     have aw : Sl aA 78 (.bool false) := hdpA 17 _ 78 zy rfl rfl
     clear hbsA hdpA
     refine zS (j := 17) (dj := 78) (b := false) rfl rfl rfl (zC hNA rfl aw) (zj ok39 (WaitR (((jj : Nat) : Int) - 1) zx hok.1 n) ⟨(zC hNA rfl ay), ⟨(zC hNA rfl az), trivial⟩⟩ ?_)
     rintro _ aC ⟨aB, rfl⟩
     have aB := zQ aB
     have := aB.size
     have m := (m.keep0 hRA).keep0 aB
     exact obN_end rfl rfl (aB)
    ·
     intro aA wA hNA hRA hbsA hdpA
     have ae := (hbsA 8 rfl).trans (zU g rfl)
     have aw : Sl aA 78 (.bool false) := hdpA 17 _ 78 zy rfl rfl
     refine zS (j := 17) (dj := 78) (b := false) rfl rfl rfl (zC hNA rfl aw) (zM fld75_2 (zC hNA rfl ae) ?_)
     exact obN_end rfl rfl (grown_refl _ _)
    ·
     intro aA wA hNA hRA hbsA hdpA
     have hRA : U.grownBy wA none := hRA
     have := hRA.size
     have m := m.keep0 hRA
     have l := l.keep0 hRA
     have aB : Sl aA 82 (ptr K 2) := hdpA 21 _ 82 zy rfl rfl
     have aw : Sl aA 78 (.bool false) := hdpA 17 _ 78 zy rfl rfl
     clear hbsA hdpA
     refine zS (j := 17) (dj := 78) (b := false) rfl rfl rfl (zC hNA rfl aw) (zN one26 (zC hNA rfl aB) (l.cell rfl) ?_)
     exact obN_end rfl rfl (grown_refl _ _)
    ·
     intro aA wA hNA hRA hbsA hdpA
     have hRA : U.grownBy wA none := hRA
     have := hRA.size
     have m := m.keep0 hRA
     have D := D.keep0 hRA
     have aC : Sl aA 83 (C.getD (jj - 1) default).po := hdpA 22 _ 83 zy rfl rfl
     have aw : Sl aA 78 (.bool false) := hdpA 17 _ 78 zy rfl rfl
     clear hbsA hdpA
     refine zS (j := 17) (dj := 78) (b := false) rfl rfl rfl (zC hNA rfl aw) (op_len_rd Try.underlying26 (zC hNA rfl aC) D.rdw ?_)
     exact obN_end rfl rfl (grown_refl _ _)
    ·
     intro aA wA hNA hRA hbsA hdpA
     have aD : Sl aA 81 (.int .i64 (((atS S (((jj : Nat) : Int) - 1)).texts.length : Nat) : Int)) := hdpA 20 _ 81 zy rfl rfl
     have aE : Sl aA 84 (.int .i64 (((S.getD (jj - 1) default).texts.length : Nat) : Int)) := hdpA 23 _ 84 zy rfl rfl
     have aw : Sl aA 78 (.bool false) := hdpA 17 _ 78 zy rfl rfl
     refine zS (j := 17) (dj := 78) (b := false) rfl rfl rfl (zC hNA rfl aw) (op_cmp (b := false) (zC hNA rfl aD) (zC hNA rfl aE) (b_neq (decide_eq_false R)) ?_)
     exact obN_end rfl rfl (grown_refl _ _)
    ·
     intro aA wA hNA hRA hbsA hdpA
     have aw : Sl aA 78 (.bool false) := hdpA 17 _ 78 zy rfl rfl
     have aF : Sl aA 85 (.bool false) := hdpA 24 _ 85 zy rfl rfl
     refine zd (zC hNA rfl aw) (zC hNA rfl aF) ?_
     exact obN_end rfl rfl (grown_refl _ _)
    ·
     intro aA wA hNA hRA hbsA hdpA
     have aG : Sl aA 86 (.bool false) := hdpA 25 _ 86 zy rfl rfl
     refine zG (zC hNA rfl aG) ?_
     exact obN_end rfl rfl (grown_refl _ _)
    ·
     intro aA wA hNA hRA hbsA hdpA
     have av := (hbsA 0 rfl).trans (zL g rfl p)
     have aH : Sl aA 87 (.bool false) := hdpA 26 _ 87 zy rfl rfl
     refine zS (j := 26) (dj := 87) (b := false) rfl rfl rfl (zC hNA rfl aH) (zG (zC hNA rfl av) ?_)
     exact obN_end rfl rfl (grown_refl _ _)
    ·
     intro aA wA hNA hRA hbsA hdpA
     have ax := (hbsA 5 rfl).trans (zL g rfl o)
     have aH : Sl aA 87 (.bool false) := hdpA 26 _ 87 zy rfl rfl
     refine zS (j := 26) (dj := 87) (b := false) rfl rfl rfl (zC hNA rfl aH) (zG (zC hNA rfl ax) ?_)
     exact obN_end rfl rfl (grown_refl _ _)
    ·
     intro aA wA hNA hRA hbsA hdpA
     have hRA : U.grownBy wA none := hRA
     have := hRA.size
     have n := n.kz hRA
     have aI : Sl aA 88 (ptr k 0) := hdpA 27 _ 88 zy rfl rfl
     have aJ : Sl aA 89 (.int .i64 (((jj : Nat) : Int) - 1)) := hdpA 28 _ 89 zy rfl rfl
     have aH : Sl aA 87 (.bool false) := hdpA 26 _ 87 zy rfl rfl
     clear hbsA hdpA
     refine zS (j := 26) (dj := 87) (b := false) rfl rfl rfl (zC hNA rfl aH) (zj ok37 (LabelR (((jj : Nat) : Int) - 1) zx hok.1 n hok.lab) ⟨(zC hNA rfl aI), ⟨(zC hNA rfl aJ), trivial⟩⟩ ?_)
     rintro aa aM ⟨aL, aK⟩
     have aL := zQ aL
     have := aL.size
     have m := (m.keep0 hRA).keep0 aL
     have aK := aK.mono (base' := w.heap.size) zx
     have aM := mayL_len (hok.at (((jj : Nat) : Int) - 1)).1
     exact obN_end rfl ⟨aa, rfl, aK⟩ (aL)
    ·
     intro aA wA hNA hRA hbsA hdpA
     have ae := (hbsA 8 rfl).trans (zU g rfl)
     have aH : Sl aA 87 (.bool false) := hdpA 26 _ 87 zy rfl rfl
     refine zS (j := 26) (dj := 87) (b := false) rfl rfl rfl (zC hNA rfl aH) (zM fld75_0 (zC hNA rfl ae) ?_)
     exact obN_end rfl rfl (grown_refl _ _)
    ·
     intro aA wA hNA hRA hbsA hdpA
     have hRA : U.grownBy wA none := hRA
     have := hRA.size
     have m := m.keep0 hRA
     have l := l.keep0 hRA
     have aL : Sl aA 91 (ptr K 0) := hdpA 30 _ 91 zy rfl rfl
     have aH : Sl aA 87 (.bool false) := hdpA 26 _ 87 zy rfl rfl
     clear hbsA hdpA
     refine zS (j := 26) (dj := 87) (b := false) rfl rfl rfl (zC hNA rfl aH) (zN one54 (zC hNA rfl aL) (l.cell rfl) ?_)
     exact obN_end rfl rfl (grown_refl _ _)
    ·
     intro aA wA hNA hRA hbsA hdpA
     have hRA : U.grownBy wA none := hRA
     have := hRA.size
     have m := m.keep0 hRA
     obtain ⟨aa, aM, aK⟩ := hdpA 29 _ 90 zy rfl rfl
     have aK : Own wA w.heap.size 46 1 aa (atS S (((jj : Nat) : Int) - 1)).label.length ((atS S (((jj : Nat) : Int) - 1)).label.map u16v) := aK
     have aN : Sl aA 92 (C.getD (jj - 1) default).la := hdpA 31 _ 92 zy rfl rfl
     have aH : Sl aA 87 (.bool false) := hdpA 26 _ 87 zy rfl rfl
     clear hbsA hdpA
     refine zS (j := 26) (dj := 87) (b := false) rfl rfl rfl (zC hNA rfl aH) (zj ok34 (sameL_ret (atS S (((jj : Nat) : Int) - 1)).label (S.getD (jj - 1) default).label _ _ _ (by first | assumption | omega | (simp only [List.length_append, List.length_cons, List.length_nil, List.length_drop, List.length_take]; omega) | (dsimp only; omega) | decide | (simp [keyV, be8_len]; done)) (by first | assumption | omega | (simp only [List.length_append, List.length_cons, List.length_nil, List.length_drop, List.length_take]; omega) | (dsimp only; omega) | decide | (simp [keyV, be8_len]; done)) (show RdC wA 0 wA.heap.size 1 aa (atS S (((jj : Nat) : Int) - 1)).label.length ((atS S (((jj : Nat) : Int) - 1)).label.map u16v) from by have hh : RdC wA 0 wA.heap.size 1 _ _ _ := (aK.rdw.mono (L' := 0) (B' := wA.heap.size) (Nat.zero_le _) zx); first | exact hh | exact hh.cast (by first | omega | (simp; try omega)) (by first | rfl | simp [u16v])) (show RdC wA 0 wA.heap.size 1 (C.getD (jj - 1) default).la (S.getD (jj - 1) default).label.length ((S.getD (jj - 1) default).label.map u16v) from by have hh : RdC wA 0 wA.heap.size 1 _ _ _ := (m.rdw.mono (L' := 0) (B' := wA.heap.size) (Nat.zero_le _) zx); first | exact hh | exact hh.cast (by first | omega | (simp; try omega)) (by first | rfl | simp [u16v]))) ⟨(zC hNA rfl aM), ⟨(zC hNA rfl aN), trivial⟩⟩ ?_)
     rintro _ aK ⟨aa, rfl⟩
     have aa := zQ aa
     have := aa.size
     have m := m.keep0 aa
     rw [V]
     exact obN_end rfl rfl (aa)
    ·
     intro aA wA hNA hRA hbsA hdpA
     have aa : Sl aA 93 (.bool true) := hdpA 32 _ 93 zy rfl rfl
     have aH : Sl aA 87 (.bool false) := hdpA 26 _ 87 zy rfl rfl
     refine zS (j := 26) (dj := 87) (b := false) rfl rfl rfl (zC hNA rfl aH) (op_not (zC hNA rfl aa) ?_)
     exact obN_end rfl rfl (grown_refl _ _)
    ·
     intro aA wA hNA hRA hbsA hdpA
     have aH : Sl aA 87 (.bool false) := hdpA 26 _ 87 zy rfl rfl
     have aK : Sl aA 94 (.bool false) := hdpA 33 _ 94 zy rfl rfl
     refine zd (zC hNA rfl aH) (zC hNA rfl aK) ?_
     exact obN_end rfl rfl (grown_refl _ _)
    ·
     intro aA wA hNA hRA hbsA hdpA
     have aO : Sl aA 95 (.bool false) := hdpA 34 _ 95 zy rfl rfl
     refine zG (zC hNA rfl aO) ?_
     exact obN_end rfl rfl (grown_refl _ _)
    ·
     intro aA wA hNA hRA hbsA hdpA
     have av := (hbsA 0 rfl).trans (zL g rfl p)
     have aP : Sl aA 96 (.bool false) := hdpA 35 _ 96 zy rfl rfl
     refine zS (j := 35) (dj := 96) (b := false) rfl rfl rfl (zC hNA rfl aP) (zG (zC hNA rfl av) ?_)
     exact obN_end rfl rfl (grown_refl _ _)
    ·
     intro aA wA hNA hRA hbsA hdpA
     have ax := (hbsA 5 rfl).trans (zL g rfl o)
     have aP : Sl aA 96 (.bool false) := hdpA 35 _ 96 zy rfl rfl
     refine zS (j := 35) (dj := 96) (b := false) rfl rfl rfl (zC hNA rfl aP) (zG (zC hNA rfl ax) ?_)
     exact obN_end rfl rfl (grown_refl _ _)
    ·
     intro aA wA hNA hRA hbsA hdpA
     have hRA : U.grownBy wA none := hRA
     have := hRA.size
     have n := n.kz hRA
     have aQ : Sl aA 97 (ptr k 0) := hdpA 36 _ 97 zy rfl rfl
     have aR : Sl aA 98 (.int .i64 (((jj : Nat) : Int) - 1)) := hdpA 37 _ 98 zy rfl rfl
     have aP : Sl aA 96 (.bool false) := hdpA 35 _ 96 zy rfl rfl
     clear hbsA hdpA
     refine zS (j := 35) (dj := 96) (b := false) rfl rfl rfl (zC hNA rfl aP) (zj ok38 (OwnsR (((jj : Nat) : Int) - 1) zx hok.1 n hok.own) ⟨(zC hNA rfl aQ), ⟨(zC hNA rfl aR), trivial⟩⟩ ?_)
     rintro ab aU ⟨aT, aS⟩
     have aT := zQ aT
     have := aT.size
     have m := (m.keep0 hRA).keep0 aT
     have aS := aS.mono (base' := w.heap.size) zx
     have aU := mayL_len (hok.at (((jj : Nat) : Int) - 1)).2.1
     exact obN_end rfl ⟨ab, rfl, aS⟩ (aT)
    ·
     intro aA wA hNA hRA hbsA hdpA
     have ae := (hbsA 8 rfl).trans (zU g rfl)
     have aP : Sl aA 96 (.bool false) := hdpA 35 _ 96 zy rfl rfl
     refine zS (j := 35) (dj := 96) (b := false) rfl rfl rfl (zC hNA rfl aP) (zM fld75_1 (zC hNA rfl ae) ?_)
     exact obN_end rfl rfl (grown_refl _ _)
    ·
     intro aA wA hNA hRA hbsA hdpA
     have hRA : U.grownBy wA none := hRA
     have := hRA.size
     have m := m.keep0 hRA
     have l := l.keep0 hRA
     have aT : Sl aA 100 (ptr K 1) := hdpA 39 _ 100 zy rfl rfl
     have aP : Sl aA 96 (.bool false) := hdpA 35 _ 96 zy rfl rfl
     clear hbsA hdpA
     refine zS (j := 35) (dj := 96) (b := false) rfl rfl rfl (zC hNA rfl aP) (zN one54 (zC hNA rfl aT) (l.cell rfl) ?_)
     exact obN_end rfl rfl (grown_refl _ _)
    intro a0 aV aU aZ aX aY aW
    have aZ := aZ.trans A
    have a1 := (aX 0 rfl).trans (zL g rfl p)
    have a2 := (aX 1 rfl).trans (zL g rfl z)
    have a3 := (aX 5 rfl).trans (zL g rfl o)
    have a4 : Sl a0 96 (.bool false) := aY 35 _ 96 rfl rfl
    obtain ⟨ab, a5, aS⟩ := aY 38 _ 99 rfl rfl
    have aS : Own aV w.heap.size 46 1 ab (atS S (((jj : Nat) : Int) - 1)).owns.length ((atS S (((jj : Nat) : Int) - 1)).owns.map u16v) := aS
    have a6 : Sl a0 101 (C.getD (jj - 1) default).ow := aY 40 _ 101 rfl rfl
    clear aX aY
    have aW : U.grownBy aV none := aW
    obtain ⟨hb, _⟩ := yG hb aW
    have a := a.kz aW
    have n := n.kz aW
    have J := J.keep0 aW
    refine split_end (from_seq (tl := [_, _, _]) zz zy rfl (zS (j := 35) (dj := 96) (b := false) rfl rfl rfl (zC aU rfl a4) (zj ok34 (sameL_ret (atS S (((jj : Nat) : Int) - 1)).owns (S.getD (jj - 1) default).owns _ _ _ (by first | assumption | omega | (simp only [List.length_append, List.length_cons, List.length_nil, List.length_drop, List.length_take]; omega) | (dsimp only; omega) | decide | (simp [keyV, be8_len]; done)) (by first | assumption | omega | (simp only [List.length_append, List.length_cons, List.length_nil, List.length_drop, List.length_take]; omega) | (dsimp only; omega) | decide | (simp [keyV, be8_len]; done)) (show RdC aV 0 aV.heap.size 1 ab (atS S (((jj : Nat) : Int) - 1)).owns.length ((atS S (((jj : Nat) : Int) - 1)).owns.map u16v) from by have hh : RdC aV 0 aV.heap.size 1 _ _ _ := (aS.rdw.mono (L' := 0) (B' := aV.heap.size) (Nat.zero_le _) zx); first | exact hh | exact hh.cast (by first | omega | (simp; try omega)) (by first | rfl | simp [u16v])) (show RdC aV 0 aV.heap.size 1 (C.getD (jj - 1) default).ow (S.getD (jj - 1) default).owns.length ((S.getD (jj - 1) default).owns.map u16v) from by have hh : RdC aV 0 aV.heap.size 1 _ _ _ := (J.rdw.mono (L' := 0) (B' := aV.heap.size) (Nat.zero_le _) zx); first | exact hh | exact hh.cast (by first | omega | (simp; try omega)) (by first | rfl | simp [u16v]))) ⟨(zC aU rfl a5), ⟨(zC aU rfl a6), trivial⟩⟩ ?_)))
    rintro _ aS ⟨ab, rfl⟩
    have ab := zQ ab
    obtain ⟨hb, _⟩ := yG hb ab
    have hxd := (hxd.keep0 aW).keep0 ab
    have c := (c.keep0 aW).keep0 ab
    have a := a.kz ab
    have n := n.kz ab
    have m := (m.keep0 aW).keep0 ab
    rcases Bool.eq_false_or_eq_true ((decide ((atS S (((jj : Nat) : Int) - 1)).owns = (S.getD (jj - 1) default).owns))) with ab | ab
    ·
     rw [ab]
     refine zS (j := 35) (dj := 96) (b := false) rfl rfl rfl (zC aU rfl a4) (op_not (zA aU rfl) (zd (zC aU rfl a4) (zA aU rfl) (zB (B _ _ (wp_cond_false (zA aU rfl) (wp_skip (q _ _ (zH (zG (zC aU rfl a3) (op_add (zA aU rfl) rfl (add64 zx) (zD (zA aU rfl) (zB ?_))))))))))))
     -- round 15T 25F 33F 66F 68T 75F 85F 93T 102T
     exact zg _ aU aZ ⟨(jj + 1), H, rfl, (zL aU rfl a1), (zL aU rfl a2), (zU aU rfl).trans (congrArg (Value.int .i64) zx), zx, (NewF.trans hNK I zx), hb, zx, hxd, c, a, n⟩ zx
    rw [G] at ab; simp at ab
   have W := of_decide_eq_false V
   rw [G] at V; simp at V
  have P := of_decide_eq_false O
  by_cases R : (((atS S (((jj : Nat) : Int) - 1)).texts.length : Nat) : Int) ≠ (((S.getD (jj - 1) default).texts.length : Nat) : Int)
  ·
   exact absurd (by rw [G]) R
  rcases Bool.eq_false_or_eq_true ((decide ((atS S (((jj : Nat) : Int) - 1)).label = (S.getD (jj - 1) default).label))) with V | V
  ·
   have W := of_decide_eq_true V
   refine reg_split (hd := [_, _, _, _, _, _, _, _, _, _, _, _, _, _, _, _, _, _, _, _, _, _, _, _, _, _, _, _, _, _, _, _, _, _, _, _, _, _, _, _, _]) (tl := _) 41 mixed zy rfl rfl ?_
   refine any_quiet (Φ := phiL [(fun uz _ => uz = (.bool (decide (0 < (atS S (((jj : Nat) : Int) - 1)).texts.length)))), (fun uz _ => uz = (ptr K 2)), (fun uz _ => uz = (C.getD (jj - 1) default).po), (fun uz _ => uz = (.int .i64 (((S.getD (jj - 1) default).texts.length : Nat) : Int))), (fun uz _ => uz = (.bool (decide (0 < (((S.getD (jj - 1) default).texts.length : Nat) : Int))))), (fun uz _ => uz = (.bool false)), (fun uz _ => uz = (.bool false)), (fun uz _ => uz = (.bool false)), (fun uz _ => uz = (.bool false)), (fun uz _ => uz = undef), (fun uz _ => uz = undef), (fun uz _ => uz = undef), (fun uz _ => uz = undef), (fun uz _ => uz = undef), (fun uz _ => uz = undef), (fun uz _ => uz = (.bool false)), (fun uz _ => uz = (.bool false)), (fun uz _ => uz = (.bool false)), (fun uz _ => uz = (ptr k 0)), (fun uz _ => uz = (.int .i64 (((jj : Nat) : Int) - 1))), (fun uz _ => uz = (.int .i64 (((atS S (((jj : Nat) : Int) - 1)).texts.length : Nat) : Int))), (fun uz _ => uz = (ptr K 2)), (fun uz _ => uz = (C.getD (jj - 1) default).po), (fun uz _ => uz = (.int .i64 (((S.getD (jj - 1) default).texts.length : Nat) : Int))), (fun uz _ => uz = (.bool false)), (fun uz _ => uz = (.bool false)), (fun uz _ => uz = (.bool false)), (fun uz _ => uz = (ptr k 0)), (fun uz _ => uz = (.int .i64 (((jj : Nat) : Int) - 1))), (fun uz w' => ∃ (aS : Value), uz = aS ∧ Own w' w.heap.size 46 1 aS (atS S (((jj : Nat) : Int) - 1)).label.length ((atS S (((jj : Nat) : Int) - 1)).label.map u16v)), (fun uz _ => uz = (ptr K 0)), (fun uz _ => uz = (C.getD (jj - 1) default).la), (fun uz _ => uz = (.bool true)), (fun uz _ => uz = (.bool false)), (fun uz _ => uz = (.bool false)), (fun uz _ => uz = (.bool false)), (fun uz _ => uz = (ptr k 0)), (fun uz _ => uz = (.int .i64 (((jj : Nat) : Int) - 1))), (fun uz w' => ∃ (P : Value), uz = P ∧ Own w' w.heap.size 46 1 P (atS S (((jj : Nat) : Int) - 1)).owns.length ((atS S (((jj : Nat) : Int) - 1)).owns.map u16v)), (fun uz _ => uz = (ptr K 1)), (fun uz _ => uz = (C.getD (jj - 1) default).ow)]) zy zy zy g (StL.get (StL.eq (StL.eq (StL.eq (StL.eq (StL.eq (StL.eq (StL.eq (StL.eq (StL.eq (StL.eq (StL.eq (StL.eq (StL.eq (StL.eq (StL.eq (StL.eq (StL.eq (StL.eq (StL.eq (StL.eq (StL.eq (StL.eq (StL.eq (StL.eq (StL.eq (StL.eq (StL.eq (StL.eq (StL.eq (StL.cons (fun u t w2 E h => by obtain ⟨Z, hv, Y⟩ := h; exact ⟨Z, hv, Y.keep0 E⟩) (StL.eq (StL.eq (StL.eq (StL.eq (StL.eq (StL.eq (StL.eq (StL.eq (StL.cons (fun u t w2 E h => by obtain ⟨Z, hv, Y⟩ := h; exact ⟨Z, hv, Y.keep0 E⟩) (StL.eq (StL.eq (StL.nil _))))))))))))))))))))))))))))))))))))))))))) (ObL.get (s := 41) (ObL.cons ?_ (ObL.cons ?_ (ObL.cons ?_ (ObL.cons ?_ (ObL.cons ?_ (ObL.cons ?_ (ObL.cons ?_ (ObL.cons ?_ (ObL.cons ?_ (ObL.cons ?_ (ObL.cons ?_ (ObL.cons ?_ (ObL.cons ?_ (ObL.cons ?_ (ObL.cons ?_ (ObL.cons ?_ (ObL.cons ?_ (ObL.cons ?_ (ObL.cons ?_ (ObL.cons ?_ (ObL.cons ?_ (ObL.cons ?_ (ObL.cons ?_ (ObL.cons ?_ (ObL.cons ?_ (ObL.cons ?_ (ObL.cons ?_ (ObL.cons ?_ (ObL.cons ?_ (ObL.cons ?_ (ObL.cons ?_ (ObL.cons ?_ (ObL.cons ?_ (ObL.cons ?_ (ObL.cons ?_ (ObL.cons ?_ (ObL.cons ?_ (ObL.cons ?_ (ObL.cons ?_ (ObL.cons ?_ (ObL.cons ?_ (ObL.nil)))))))))))))))))))))))))))))))))))))))))) rfl) ?_
   ·
    intro aA wA hNA hRA hbsA hdpA
    have ad := (hbsA 7 rfl).trans (zU g rfl)
    refine zG (zC hNA rfl ad) ?_
    exact obN_end rfl rfl (grown_refl _ _)
   ·
    intro aA wA hNA hRA hbsA hdpA
    have ae := (hbsA 8 rfl).trans (zU g rfl)
    refine zM fld75_2 (zC hNA rfl ae) ?_
    exact obN_end rfl rfl (grown_refl _ _)
   ·
    intro aA wA hNA hRA hbsA hdpA
    have hRA : U.grownBy wA none := hRA
    have := hRA.size
    have m := m.keep0 hRA
    have l := l.keep0 hRA
    have af : Sl aA 62 (ptr K 2) := hdpA 1 _ 62 zy rfl rfl
    clear hbsA hdpA
    refine zN one26 (zC hNA rfl af) (l.cell rfl) ?_
    exact obN_end rfl rfl (grown_refl _ _)
   ·
    intro aA wA hNA hRA hbsA hdpA
    have hRA : U.grownBy wA none := hRA
    have := hRA.size
    have m := m.keep0 hRA
    have D := D.keep0 hRA
    have ag : Sl aA 63 (C.getD (jj - 1) default).po := hdpA 2 _ 63 zy rfl rfl
    clear hbsA hdpA
    refine op_len_rd Try.underlying26 (zC hNA rfl ag) D.rdw ?_
    exact obN_end rfl rfl (grown_refl _ _)
   ·
    intro aA wA hNA hRA hbsA hdpA
    have ah : Sl aA 64 (.int .i64 (((S.getD (jj - 1) default).texts.length : Nat) : Int)) := hdpA 3 _ 64 zy rfl rfl
    refine op_cmp (b := (decide (0 < (((S.getD (jj - 1) default).texts.length : Nat) : Int)))) (zC hNA rfl ah) rfl (b_gtr rfl) ?_
    exact obN_end rfl rfl (grown_refl _ _)
   ·
    intro aA wA hNA hRA hbsA hdpA
    have ai : Sl aA 61 (.bool (decide (0 < (atS S (((jj : Nat) : Int) - 1)).texts.length))) := hdpA 0 _ 61 zy rfl rfl
    have aj : Sl aA 65 (.bool (decide (0 < (((S.getD (jj - 1) default).texts.length : Nat) : Int)))) := hdpA 4 _ 65 zy rfl rfl
    refine op_neb Try.underlying4 (zC hNA rfl ai) (zC hNA rfl aj) ?_
    rw [L]
    exact obN_end rfl rfl (grown_refl _ _)
   ·
    intro aA wA hNA hRA hbsA hdpA
    have ak : Sl aA 66 (.bool false) := hdpA 5 _ 66 zy rfl rfl
    refine zG (zC hNA rfl ak) ?_
    exact obN_end rfl rfl (grown_refl _ _)
   ·
    intro aA wA hNA hRA hbsA hdpA
    have ad := (hbsA 7 rfl).trans (zU g rfl)
    have al : Sl aA 67 (.bool false) := hdpA 6 _ 67 zy rfl rfl
    refine zS (j := 6) (dj := 67) (b := false) rfl rfl rfl (zC hNA rfl al) (zG (zC hNA rfl ad) ?_)
    rw [O]
    exact obN_end rfl rfl (grown_refl _ _)
   ·
    intro aA wA hNA hRA hbsA hdpA
    have am : Sl aA 68 (.bool false) := hdpA 7 _ 68 zy rfl rfl
    have al : Sl aA 67 (.bool false) := hdpA 6 _ 67 zy rfl rfl
    refine zS (j := 6) (dj := 67) (b := false) rfl rfl rfl (zC hNA rfl al) (zG (zC hNA rfl am) ?_)
    exact obN_end rfl rfl (grown_refl _ _)
   ·
    intro aA wA hNA hRA hbsA hdpA
    have ao : Sl aA 69 (.bool false) := hdpA 8 _ 69 zy rfl rfl
    refine zR (j := 8) (dj := 69) (b := true) rfl rfl rfl (zC hNA rfl ao) rfl rfl ?_
    exact obN_end rfl rfl (grown_refl _ _)
   ·
    intro aA wA hNA hRA hbsA hdpA
    have ao : Sl aA 69 (.bool false) := hdpA 8 _ 69 zy rfl rfl
    refine zR (j := 8) (dj := 69) (b := true) rfl rfl rfl (zC hNA rfl ao) rfl rfl ?_
    exact obN_end rfl rfl (grown_refl _ _)
   ·
    intro aA wA hNA hRA hbsA hdpA
    have hRA : U.grownBy wA none := hRA
    have := hRA.size
    have m := m.keep0 hRA
    have an : Sl aA 71 undef := hdpA 10 _ 71 zy rfl rfl
    have ao : Sl aA 69 (.bool false) := hdpA 8 _ 69 zy rfl rfl
    clear hbsA hdpA
    refine zR (j := 8) (dj := 69) (b := true) rfl rfl rfl (zC hNA rfl ao) rfl rfl ?_
    exact obN_end rfl rfl (grown_refl _ _)
   ·
    intro aA wA hNA hRA hbsA hdpA
    have hRA : U.grownBy wA none := hRA
    have := hRA.size
    have m := m.keep0 hRA
    have ap : Sl aA 72 undef := hdpA 11 _ 72 zy rfl rfl
    have ao : Sl aA 69 (.bool false) := hdpA 8 _ 69 zy rfl rfl
    clear hbsA hdpA
    refine zR (j := 8) (dj := 69) (b := true) rfl rfl rfl (zC hNA rfl ao) rfl rfl ?_
    exact obN_end rfl rfl (grown_refl _ _)
   ·
    intro aA wA hNA hRA hbsA hdpA
    have hRA : U.grownBy wA none := hRA
    have := hRA.size
    have m := m.keep0 hRA
    have aq : Sl aA 73 undef := hdpA 12 _ 73 zy rfl rfl
    have ao : Sl aA 69 (.bool false) := hdpA 8 _ 69 zy rfl rfl
    clear hbsA hdpA
    refine zR (j := 8) (dj := 69) (b := true) rfl rfl rfl (zC hNA rfl ao) rfl rfl ?_
    exact obN_end rfl rfl (grown_refl _ _)
   ·
    intro aA wA hNA hRA hbsA hdpA
    have X : Sl aA 70 undef := hdpA 9 _ 70 zy rfl rfl
    have ac : Sl aA 74 undef := hdpA 13 _ 74 zy rfl rfl
    have ao : Sl aA 69 (.bool false) := hdpA 8 _ 69 zy rfl rfl
    refine zR (j := 8) (dj := 69) (b := true) rfl rfl rfl (zC hNA rfl ao) rfl rfl ?_
    exact obN_end rfl rfl (grown_refl _ _)
   ·
    intro aA wA hNA hRA hbsA hdpA
    have ao : Sl aA 69 (.bool false) := hdpA 8 _ 69 zy rfl rfl
    have Q : Sl aA 75 undef := hdpA 14 _ 75 zy rfl rfl
    have al : Sl aA 67 (.bool false) := hdpA 6 _ 67 zy rfl rfl
    refine zS (j := 6) (dj := 67) (b := false) rfl rfl rfl (zC hNA rfl al) (zd (zC hNA rfl ao) rfl ?_)
    exact obN_end rfl rfl (grown_refl _ _)
   ·
    intro aA wA hNA hRA hbsA hdpA
    have al : Sl aA 67 (.bool false) := hdpA 6 _ 67 zy rfl rfl
    have ar : Sl aA 76 (.bool false) := hdpA 15 _ 76 zy rfl rfl
    refine zd (zC hNA rfl al) (zC hNA rfl ar) ?_
    exact obN_end rfl rfl (grown_refl _ _)
   ·
    intro aA wA hNA hRA hbsA hdpA
    have au : Sl aA 77 (.bool false) := hdpA 16 _ 77 zy rfl rfl
    refine zG (zC hNA rfl au) ?_
    exact obN_end rfl rfl (grown_refl _ _)
   ·
    intro aA wA hNA hRA hbsA hdpA
    have av := (hbsA 0 rfl).trans (zL g rfl p)
    have aw : Sl aA 78 (.bool false) := hdpA 17 _ 78 zy rfl rfl
    refine zS (j := 17) (dj := 78) (b := false) rfl rfl rfl (zC hNA rfl aw) (zG (zC hNA rfl av) ?_)
    exact obN_end rfl rfl (grown_refl _ _)
   ·
    intro aA wA hNA hRA hbsA hdpA
    have ax := (hbsA 5 rfl).trans (zL g rfl o)
    have aw : Sl aA 78 (.bool false) := hdpA 17 _ 78 zy rfl rfl
    refine zS (j := 17) (dj := 78) (b := false) rfl rfl rfl (zC hNA rfl aw) (zG (zC hNA rfl ax) ?_)
    exact obN_end rfl rfl (grown_refl _ _)
   ·
    intro aA wA hNA hRA hbsA hdpA
    have hRA : U.grownBy wA none := hRA
    have := hRA.size
    have n := n.kz hRA
    have ay : Sl aA 79 (ptr k 0) := hdpA 18 _ 79 zy rfl rfl
    have az : Sl aA 80 (.int .i64 (((jj : Nat) : Int) - 1)) := hdpA 19 _ 80 zy rfl rfl
    have aw : Sl aA 78 (.bool false) := hdpA 17 _ 78 zy rfl rfl
    clear hbsA hdpA
    refine zS (j := 17) (dj := 78) (b := false) rfl rfl rfl (zC hNA rfl aw) (zj ok39 (WaitR (((jj : Nat) : Int) - 1) zx hok.1 n) ⟨(zC hNA rfl ay), ⟨(zC hNA rfl az), trivial⟩⟩ ?_)
    rintro _ O ⟨L, rfl⟩
    have L := zQ L
    have := L.size
    have m := (m.keep0 hRA).keep0 L
    exact obN_end rfl rfl (L)
   ·
    intro aA wA hNA hRA hbsA hdpA
    have ae := (hbsA 8 rfl).trans (zU g rfl)
    have aw : Sl aA 78 (.bool false) := hdpA 17 _ 78 zy rfl rfl
    refine zS (j := 17) (dj := 78) (b := false) rfl rfl rfl (zC hNA rfl aw) (zM fld75_2 (zC hNA rfl ae) ?_)
    exact obN_end rfl rfl (grown_refl _ _)
   ·
    intro aA wA hNA hRA hbsA hdpA
    have hRA : U.grownBy wA none := hRA
    have := hRA.size
    have m := m.keep0 hRA
    have l := l.keep0 hRA
    have aB : Sl aA 82 (ptr K 2) := hdpA 21 _ 82 zy rfl rfl
    have aw : Sl aA 78 (.bool false) := hdpA 17 _ 78 zy rfl rfl
    clear hbsA hdpA
    refine zS (j := 17) (dj := 78) (b := false) rfl rfl rfl (zC hNA rfl aw) (zN one26 (zC hNA rfl aB) (l.cell rfl) ?_)
    exact obN_end rfl rfl (grown_refl _ _)
   ·
    intro aA wA hNA hRA hbsA hdpA
    have hRA : U.grownBy wA none := hRA
    have := hRA.size
    have m := m.keep0 hRA
    have D := D.keep0 hRA
    have aC : Sl aA 83 (C.getD (jj - 1) default).po := hdpA 22 _ 83 zy rfl rfl
    have aw : Sl aA 78 (.bool false) := hdpA 17 _ 78 zy rfl rfl
    clear hbsA hdpA
    refine zS (j := 17) (dj := 78) (b := false) rfl rfl rfl (zC hNA rfl aw) (op_len_rd Try.underlying26 (zC hNA rfl aC) D.rdw ?_)
    exact obN_end rfl rfl (grown_refl _ _)
   ·
    intro aA wA hNA hRA hbsA hdpA
    have aD : Sl aA 81 (.int .i64 (((atS S (((jj : Nat) : Int) - 1)).texts.length : Nat) : Int)) := hdpA 20 _ 81 zy rfl rfl
    have aE : Sl aA 84 (.int .i64 (((S.getD (jj - 1) default).texts.length : Nat) : Int)) := hdpA 23 _ 84 zy rfl rfl
    have aw : Sl aA 78 (.bool false) := hdpA 17 _ 78 zy rfl rfl
    refine zS (j := 17) (dj := 78) (b := false) rfl rfl rfl (zC hNA rfl aw) (op_cmp (b := false) (zC hNA rfl aD) (zC hNA rfl aE) (b_neq (decide_eq_false R)) ?_)
    exact obN_end rfl rfl (grown_refl _ _)
   ·
    intro aA wA hNA hRA hbsA hdpA
    have aw : Sl aA 78 (.bool false) := hdpA 17 _ 78 zy rfl rfl
    have aF : Sl aA 85 (.bool false) := hdpA 24 _ 85 zy rfl rfl
    refine zd (zC hNA rfl aw) (zC hNA rfl aF) ?_
    exact obN_end rfl rfl (grown_refl _ _)
   ·
    intro aA wA hNA hRA hbsA hdpA
    have aG : Sl aA 86 (.bool false) := hdpA 25 _ 86 zy rfl rfl
    refine zG (zC hNA rfl aG) ?_
    exact obN_end rfl rfl (grown_refl _ _)
   ·
    intro aA wA hNA hRA hbsA hdpA
    have av := (hbsA 0 rfl).trans (zL g rfl p)
    have aH : Sl aA 87 (.bool false) := hdpA 26 _ 87 zy rfl rfl
    refine zS (j := 26) (dj := 87) (b := false) rfl rfl rfl (zC hNA rfl aH) (zG (zC hNA rfl av) ?_)
    exact obN_end rfl rfl (grown_refl _ _)
   ·
    intro aA wA hNA hRA hbsA hdpA
    have ax := (hbsA 5 rfl).trans (zL g rfl o)
    have aH : Sl aA 87 (.bool false) := hdpA 26 _ 87 zy rfl rfl
    refine zS (j := 26) (dj := 87) (b := false) rfl rfl rfl (zC hNA rfl aH) (zG (zC hNA rfl ax) ?_)
    exact obN_end rfl rfl (grown_refl _ _)
   ·
    intro aA wA hNA hRA hbsA hdpA
    have hRA : U.grownBy wA none := hRA
    have := hRA.size
    have n := n.kz hRA
    have aI : Sl aA 88 (ptr k 0) := hdpA 27 _ 88 zy rfl rfl
    have aJ : Sl aA 89 (.int .i64 (((jj : Nat) : Int) - 1)) := hdpA 28 _ 89 zy rfl rfl
    have aH : Sl aA 87 (.bool false) := hdpA 26 _ 87 zy rfl rfl
    clear hbsA hdpA
    refine zS (j := 26) (dj := 87) (b := false) rfl rfl rfl (zC hNA rfl aH) (zj ok37 (LabelR (((jj : Nat) : Int) - 1) zx hok.1 n hok.lab) ⟨(zC hNA rfl aI), ⟨(zC hNA rfl aJ), trivial⟩⟩ ?_)
    rintro aS O ⟨L, D⟩
    have L := zQ L
    have := L.size
    have m := (m.keep0 hRA).keep0 L
    have D := D.mono (base' := w.heap.size) zx
    have O := mayL_len (hok.at (((jj : Nat) : Int) - 1)).1
    exact obN_end rfl ⟨aS, rfl, D⟩ (L)
   ·
    intro aA wA hNA hRA hbsA hdpA
    have ae := (hbsA 8 rfl).trans (zU g rfl)
    have aH : Sl aA 87 (.bool false) := hdpA 26 _ 87 zy rfl rfl
    refine zS (j := 26) (dj := 87) (b := false) rfl rfl rfl (zC hNA rfl aH) (zM fld75_0 (zC hNA rfl ae) ?_)
    exact obN_end rfl rfl (grown_refl _ _)
   ·
    intro aA wA hNA hRA hbsA hdpA
    have hRA : U.grownBy wA none := hRA
    have := hRA.size
    have m := m.keep0 hRA
    have l := l.keep0 hRA
    have aL : Sl aA 91 (ptr K 0) := hdpA 30 _ 91 zy rfl rfl
    have aH : Sl aA 87 (.bool false) := hdpA 26 _ 87 zy rfl rfl
    clear hbsA hdpA
    refine zS (j := 26) (dj := 87) (b := false) rfl rfl rfl (zC hNA rfl aH) (zN one54 (zC hNA rfl aL) (l.cell rfl) ?_)
    exact obN_end rfl rfl (grown_refl _ _)
   ·
    intro aA wA hNA hRA hbsA hdpA
    have hRA : U.grownBy wA none := hRA
    have := hRA.size
    have m := m.keep0 hRA
    obtain ⟨aS, aM, D⟩ := hdpA 29 _ 90 zy rfl rfl
    have D : Own wA w.heap.size 46 1 aS (atS S (((jj : Nat) : Int) - 1)).label.length ((atS S (((jj : Nat) : Int) - 1)).label.map u16v) := D
    have aN : Sl aA 92 (C.getD (jj - 1) default).la := hdpA 31 _ 92 zy rfl rfl
    have aH : Sl aA 87 (.bool false) := hdpA 26 _ 87 zy rfl rfl
    clear hbsA hdpA
    refine zS (j := 26) (dj := 87) (b := false) rfl rfl rfl (zC hNA rfl aH) (zj ok34 (sameL_ret (atS S (((jj : Nat) : Int) - 1)).label (S.getD (jj - 1) default).label _ _ _ (by first | assumption | omega | (simp only [List.length_append, List.length_cons, List.length_nil, List.length_drop, List.length_take]; omega) | (dsimp only; omega) | decide | (simp [keyV, be8_len]; done)) (by first | assumption | omega | (simp only [List.length_append, List.length_cons, List.length_nil, List.length_drop, List.length_take]; omega) | (dsimp only; omega) | decide | (simp [keyV, be8_len]; done)) (show RdC wA 0 wA.heap.size 1 aS (atS S (((jj : Nat) : Int) - 1)).label.length ((atS S (((jj : Nat) : Int) - 1)).label.map u16v) from by have hh : RdC wA 0 wA.heap.size 1 _ _ _ := (D.rdw.mono (L' := 0) (B' := wA.heap.size) (Nat.zero_le _) zx); first | exact hh | exact hh.cast (by first | omega | (simp; try omega)) (by first | rfl | simp [u16v])) (show RdC wA 0 wA.heap.size 1 (C.getD (jj - 1) default).la (S.getD (jj - 1) default).label.length ((S.getD (jj - 1) default).label.map u16v) from by have hh : RdC wA 0 wA.heap.size 1 _ _ _ := (m.rdw.mono (L' := 0) (B' := wA.heap.size) (Nat.zero_le _) zx); first | exact hh | exact hh.cast (by first | omega | (simp; try omega)) (by first | rfl | simp [u16v]))) ⟨(zC hNA rfl aM), ⟨(zC hNA rfl aN), trivial⟩⟩ ?_)
    rintro _ L ⟨D, rfl⟩
    have D := zQ D
    have := D.size
    have m := m.keep0 D
    rw [V]
    exact obN_end rfl rfl (D)
   ·
    intro aA wA hNA hRA hbsA hdpA
    have aa : Sl aA 93 (.bool true) := hdpA 32 _ 93 zy rfl rfl
    have aH : Sl aA 87 (.bool false) := hdpA 26 _ 87 zy rfl rfl
    refine zS (j := 26) (dj := 87) (b := false) rfl rfl rfl (zC hNA rfl aH) (op_not (zC hNA rfl aa) ?_)
    exact obN_end rfl rfl (grown_refl _ _)
   ·
    intro aA wA hNA hRA hbsA hdpA
    have aH : Sl aA 87 (.bool false) := hdpA 26 _ 87 zy rfl rfl
    have aK : Sl aA 94 (.bool false) := hdpA 33 _ 94 zy rfl rfl
    refine zd (zC hNA rfl aH) (zC hNA rfl aK) ?_
    exact obN_end rfl rfl (grown_refl _ _)
   ·
    intro aA wA hNA hRA hbsA hdpA
    have aO : Sl aA 95 (.bool false) := hdpA 34 _ 95 zy rfl rfl
    refine zG (zC hNA rfl aO) ?_
    exact obN_end rfl rfl (grown_refl _ _)
   ·
    intro aA wA hNA hRA hbsA hdpA
    have av := (hbsA 0 rfl).trans (zL g rfl p)
    have aP : Sl aA 96 (.bool false) := hdpA 35 _ 96 zy rfl rfl
    refine zS (j := 35) (dj := 96) (b := false) rfl rfl rfl (zC hNA rfl aP) (zG (zC hNA rfl av) ?_)
    exact obN_end rfl rfl (grown_refl _ _)
   ·
    intro aA wA hNA hRA hbsA hdpA
    have ax := (hbsA 5 rfl).trans (zL g rfl o)
    have aP : Sl aA 96 (.bool false) := hdpA 35 _ 96 zy rfl rfl
    refine zS (j := 35) (dj := 96) (b := false) rfl rfl rfl (zC hNA rfl aP) (zG (zC hNA rfl ax) ?_)
    exact obN_end rfl rfl (grown_refl _ _)
   ·
    intro aA wA hNA hRA hbsA hdpA
    have hRA : U.grownBy wA none := hRA
    have := hRA.size
    have n := n.kz hRA
    have aQ : Sl aA 97 (ptr k 0) := hdpA 36 _ 97 zy rfl rfl
    have aR : Sl aA 98 (.int .i64 (((jj : Nat) : Int) - 1)) := hdpA 37 _ 98 zy rfl rfl
    have aP : Sl aA 96 (.bool false) := hdpA 35 _ 96 zy rfl rfl
    clear hbsA hdpA
    refine zS (j := 35) (dj := 96) (b := false) rfl rfl rfl (zC hNA rfl aP) (zj ok38 (OwnsR (((jj : Nat) : Int) - 1) zx hok.1 n hok.own) ⟨(zC hNA rfl aQ), ⟨(zC hNA rfl aR), trivial⟩⟩ ?_)
    rintro P O ⟨L, D⟩
    have L := zQ L
    have := L.size
    have m := (m.keep0 hRA).keep0 L
    have D := D.mono (base' := w.heap.size) zx
    have O := mayL_len (hok.at (((jj : Nat) : Int) - 1)).2.1
    exact obN_end rfl ⟨P, rfl, D⟩ (L)
   ·
    intro aA wA hNA hRA hbsA hdpA
    have ae := (hbsA 8 rfl).trans (zU g rfl)
    have aP : Sl aA 96 (.bool false) := hdpA 35 _ 96 zy rfl rfl
    refine zS (j := 35) (dj := 96) (b := false) rfl rfl rfl (zC hNA rfl aP) (zM fld75_1 (zC hNA rfl ae) ?_)
    exact obN_end rfl rfl (grown_refl _ _)
   ·
    intro aA wA hNA hRA hbsA hdpA
    have hRA : U.grownBy wA none := hRA
    have := hRA.size
    have m := m.keep0 hRA
    have l := l.keep0 hRA
    have aT : Sl aA 100 (ptr K 1) := hdpA 39 _ 100 zy rfl rfl
    have aP : Sl aA 96 (.bool false) := hdpA 35 _ 96 zy rfl rfl
    clear hbsA hdpA
    refine zS (j := 35) (dj := 96) (b := false) rfl rfl rfl (zC hNA rfl aP) (zN one54 (zC hNA rfl aT) (l.cell rfl) ?_)
    exact obN_end rfl rfl (grown_refl _ _)
   intro X K l R O Q L
   have R := R.trans A
   have Y := (O 0 rfl).trans (zL g rfl p)
   have Z := (O 1 rfl).trans (zL g rfl z)
   have aa := (O 5 rfl).trans (zL g rfl o)
   have o : Sl X 96 (.bool false) := Q 35 _ 96 rfl rfl
   obtain ⟨P, ac, D⟩ := Q 38 _ 99 rfl rfl
   have D : Own K w.heap.size 46 1 P (atS S (((jj : Nat) : Int) - 1)).owns.length ((atS S (((jj : Nat) : Int) - 1)).owns.map u16v) := D
   have ad : Sl X 101 (C.getD (jj - 1) default).ow := Q 40 _ 101 rfl rfl
   clear O Q
   have L : U.grownBy K none := L
   obtain ⟨hb, _⟩ := yG hb L
   have a := a.kz L
   have n := n.kz L
   have J := J.keep0 L
   refine split_end (from_seq (tl := [_, _, _]) zz zy rfl (zS (j := 35) (dj := 96) (b := false) rfl rfl rfl (zC l rfl o) (zj ok34 (sameL_ret (atS S (((jj : Nat) : Int) - 1)).owns (S.getD (jj - 1) default).owns _ _ _ (by first | assumption | omega | (simp only [List.length_append, List.length_cons, List.length_nil, List.length_drop, List.length_take]; omega) | (dsimp only; omega) | decide | (simp [keyV, be8_len]; done)) (by first | assumption | omega | (simp only [List.length_append, List.length_cons, List.length_nil, List.length_drop, List.length_take]; omega) | (dsimp only; omega) | decide | (simp [keyV, be8_len]; done)) (show RdC K 0 K.heap.size 1 P (atS S (((jj : Nat) : Int) - 1)).owns.length ((atS S (((jj : Nat) : Int) - 1)).owns.map u16v) from by have hh : RdC K 0 K.heap.size 1 _ _ _ := (D.rdw.mono (L' := 0) (B' := K.heap.size) (Nat.zero_le _) zx); first | exact hh | exact hh.cast (by first | omega | (simp; try omega)) (by first | rfl | simp [u16v])) (show RdC K 0 K.heap.size 1 (C.getD (jj - 1) default).ow (S.getD (jj - 1) default).owns.length ((S.getD (jj - 1) default).owns.map u16v) from by have hh : RdC K 0 K.heap.size 1 _ _ _ := (J.rdw.mono (L' := 0) (B' := K.heap.size) (Nat.zero_le _) zx); first | exact hh | exact hh.cast (by first | omega | (simp; try omega)) (by first | rfl | simp [u16v]))) ⟨(zC l rfl ac), ⟨(zC l rfl ad), trivial⟩⟩ ?_)))
   rintro _ J ⟨D, rfl⟩
   have D := zQ D
   obtain ⟨hb, _⟩ := yG hb D
   have hxd := (hxd.keep0 L).keep0 D
   have c := (c.keep0 L).keep0 D
   have a := a.kz D
   have n := n.kz D
   have m := (m.keep0 L).keep0 D
   rcases Bool.eq_false_or_eq_true ((decide ((atS S (((jj : Nat) : Int) - 1)).owns = (S.getD (jj - 1) default).owns))) with ab | ab
   ·
    rw [ab]
    refine zS (j := 35) (dj := 96) (b := false) rfl rfl rfl (zC l rfl o) (op_not (zA l rfl) (zd (zC l rfl o) (zA l rfl) (zB (B _ _ (wp_cond_false (zA l rfl) (wp_skip (q _ _ (zH (zG (zC l rfl aa) (op_add (zA l rfl) rfl (add64 zx) (zD (zA l rfl) (zB ?_))))))))))))
    -- round 15T 25F 33F 66F 68F 85F 93T 102T
    exact zg _ l R ⟨(jj + 1), H, rfl, (zL l rfl Y), (zL l rfl Z), (zU l rfl).trans (congrArg (Value.int .i64) zx), zx, (NewF.trans hNK I zx), hb, zx, hxd, c, a, n⟩ zx
   rw [G] at ab; simp at ab
  have W := of_decide_eq_false V
  rw [G] at V; simp at V
 refine zB (B _ _ (wp_cond_false (zA g rfl) (wp_exit (then_exit (then_exit (blk_hit (f _ _ (zF fun _ f => reg_split (hd := [_, _, _, _, _, _, _]) (tl := _) 7 mixed zy rfl rfl (any_quiet (Φ := phiL [(fun uz _ => uz = (ptr k 0)), (fun uz _ => uz = (.int .i64 ((S.length : Nat) : Int))), (fun uz _ => uz = (ptr d 0)), (fun uz _ => uz = (ptr d 0)), (fun uz _ => uz = (ptr d 1)), (fun uz _ => uz = e), (fun uz _ => uz = (.int .i64 ((S.length : Nat) : Int)))]) zy zy zy g (StL.get (StL.eq (StL.eq (StL.eq (StL.eq (StL.eq (StL.eq (StL.eq (StL.nil _))))))))) (ObL.get (s := 7) (ObL.cons ?_ (ObL.cons ?_ (ObL.cons ?_ (ObL.cons ?_ (ObL.cons ?_ (ObL.cons ?_ (ObL.cons ?_ (ObL.nil)))))))) rfl) ?_)))))))))
 ·
  intro aA wA hNA hRA hbsA hdpA
  have av := (hbsA 0 rfl).trans (zL g rfl p)
  refine zG (zC hNA rfl av) ?_
  exact obN_end rfl rfl (grown_refl _ _)
 ·
  intro aA wA hNA hRA hbsA hdpA
  have hRA : t.grownBy wA none := hRA
  have := hRA.size
  have hKj := hKj.kz hRA
  have a : Sl aA 105 (ptr k 0) := hdpA 0 _ 105 zy rfl rfl
  clear hbsA hdpA
  refine ze (vs := [(ptr k 0)]) ok49 ⟨(zC hNA rfl a), trivial⟩ (Ret.flip (SessionsR zx hok.1 hKj)) ?_
  rintro _ _ ⟨rfl, rfl⟩
  exact obN_end rfl rfl (grown_refl _ _)
 ·
  intro aA wA hNA hRA hbsA hdpA
  have a := (hbsA 1 rfl).trans (zL g rfl z)
  refine zG (zC hNA rfl a) ?_
  exact obN_end rfl rfl (grown_refl _ _)
 ·
  intro aA wA hNA hRA hbsA hdpA
  have a : Sl aA 107 (ptr d 0) := hdpA 2 _ 107 zy rfl rfl
  refine op_nil (zC hNA rfl a) ?_
  exact obN_end rfl rfl (grown_refl _ _)
 ·
  intro aA wA hNA hRA hbsA hdpA
  have a : Sl aA 108 (ptr d 0) := hdpA 3 _ 108 zy rfl rfl
  refine zM fld72_1 (zC hNA rfl a) ?_
  exact obN_end rfl rfl (grown_refl _ _)
 ·
  intro aA wA hNA hRA hbsA hdpA
  have hRA : t.grownBy wA none := hRA
  have := hRA.size
  have hxd := hxd.keep0 hRA
  have a : Sl aA 109 (ptr d 1) := hdpA 4 _ 109 zy rfl rfl
  clear hbsA hdpA
  refine zN one69 (zC hNA rfl a) (hxd.cell rfl) ?_
  exact obN_end rfl rfl (grown_refl _ _)
 ·
  intro aA wA hNA hRA hbsA hdpA
  have hRA : t.grownBy wA none := hRA
  have := hRA.size
  have c := c.keep0 hRA
  have a : Sl aA 110 e := hdpA 5 _ 110 zy rfl rfl
  clear hbsA hdpA
  refine op_len_rd Try.underlying69 (zC hNA rfl a) c.rdw ?_
  exact obN_end rfl rfl (grown_refl _ _)
 intro l n a g m e c
 have g := g.trans A
 have o : Sl l 106 (.int .i64 ((S.length : Nat) : Int)) := e 1 _ 106 rfl rfl
 have p : Sl l 111 (.int .i64 ((S.length : Nat) : Int)) := e 6 _ 111 rfl rfl
 clear m e
 have c : t.grownBy n none := c
 obtain ⟨hb, _⟩ := yG hb c
 have hKj := hKj.kz c
 refine split_end (from_seq (tl := [_, _]) zz zy rfl (op_eql (zC a rfl o) (zC a rfl p) (fun c => ?_) (fun c => ?_)))
 ·
  refine zD (zA a rfl) (zB (f _ _ (wp_ret (ret1 rfl g (zA a rfl) ⟨_, rfl, ?_⟩))))
  exact ⟨hb, rfl, _, hKj, hNK⟩
 exact absurd rfl c

end Go.Proofs.Ytmhdbphpmgjpcaa

namespace Go.Gx
def DbX (w : World) (base d : Nat) (S : List KS) (M : ST) (sv9 : Value) (C : List DC) (F : Nat → Prop) : Prop :=
  ∃ (mp tv : Value) (T : List DT) (F0S FT : Nat → Prop), base ≤ d ∧ T.map tOf = M ∧ Bx w d 72 [mp, sv9, tv] ∧ Own w base 75 4 sv9 S.length (C.flatMap cellsD) ∧ DSAll w base S C F0S ∧ Own w base 152 2 tv T.length (T.flatMap cellsT) ∧ DTAll w base T FT ∧
    (∀ x, (x = d ∨ Bl sv9 x ∨ Bl tv x ∨ F0S x ∨ FT x) → F x) ∧ (∀ x, F x → base ≤ x ∧ x < w.heap.size)
section
variable {w w' : World} {base d n i : Nat} {S : List KS} {C : List DC} {T : List DT} {M : ST} {F G F0S FT : Nat → Prop} {v sv9 tv mp : Value}
theorem DbX.lt (h : DbX w base d S M sv9 C F) : ∀ x, F x → base ≤ x ∧ x < w.heap.size := by
  obtain ⟨_, _, _, _, _, _, _, _, _, _, _, _, _, h⟩ := h; exact h
theorem DbX.keepG (h : DbX w base d S M sv9 C F) (E : Gr w w' G) (hd : Dj F G) : DbX w' base d S M sv9 C F := by
  obtain ⟨mp, tv, T, F0S, FT, hdd, hM, hx, O, hS, OT, hT, hF, hl⟩ := h
  exact ⟨mp, tv, T, F0S, FT, hdd, hM, hx.keepG E (hd d (hF d (.inl rfl))), O.keepG E (fun x hx => hd x (hF x (.inr (.inl hx)))), hS.keepG E (fun x hx => hd x (hF x (.inr (.inr (.inr (.inl hx)))))),
    OT.keepG E (fun x hx => hd x (hF x (.inr (.inr (.inl hx))))), hT.keepG E (fun x hx => hd x (hF x (.inr (.inr (.inr (.inr hx)))))), hF, fun x hx => ⟨(hl x hx).1, Nat.lt_of_lt_of_le (hl x hx).2 E.size⟩⟩
theorem DbX.kz (h : DbX w base d S M sv9 C F) (E9 : w.grownBy w' none) : DbX w' base d S M sv9 C F := h.keepG (Gr.of0 E9 NoB) (fun _ _ h => h)
theorem DbX.r (h : DbX w base d S M sv9 C F) : ∃ F0, DbR w base d S M F0 ∧ ∀ x, F0 x → F x := by
  obtain ⟨mp, tv, T, F0S, FT, hdd, hM, hx, O, hS, OT, hT, hF, hl⟩ := h
  exact ⟨_, ⟨mp, sv9, tv, C, T, F0S, FT, hdd, hM, hx, O, hS, OT, hT, fun x => Iff.rfl⟩, hF⟩
theorem DbR.x (h : DbR w base d S M F) : ∃ sv9 C, DbX w base d S M sv9 C F := by
  have hl := h.lt
  obtain ⟨mp, sv9, tv, C, T, F0S, FT, hdd, hM, hx, O, hS, OT, hT, hF⟩ := h
  exact ⟨sv9, C, mp, tv, T, F0S, FT, hdd, hM, hx, O, hS, OT, hT, fun x => (hF x).2, hl⟩
theorem DbX.bx (h : DbX w base d S M sv9 C F) : ∃ mp tv, Bx w d 72 [mp, sv9, tv] := by
  obtain ⟨mp, tv, T, F0S, FT, hdd, hM, hx, _⟩ := h; exact ⟨mp, tv, hx⟩
theorem DbX.own (h : DbX w base d S M sv9 C F) : Own w base 75 4 sv9 S.length (C.flatMap cellsD) := by
  obtain ⟨mp, tv, T, F0S, FT, hdd, hM, hx, O, _⟩ := h; exact O
theorem DbX.len (h : DbX w base d S M sv9 C F) : C.length = S.length := by
  obtain ⟨mp, tv, T, F0S, FT, hdd, hM, hx, O, hS, _⟩ := h; exact hS.1
theorem DbX.at_ (h : DbX w base d S M sv9 C F) (hi : i < S.length) : DSessR w base (S.getD i default) (C.getD i default) := by
  obtain ⟨mp, tv, T, F0S, FT, hdd, hM, hx, O, hS, _⟩ := h; exact hS.2.1 i hi
theorem DbX.sub (h : DbX w base d S M sv9 C F) : ∀ x, Bl sv9 x → F x := by
  obtain ⟨mp, tv, T, F0S, FT, hdd, hM, hx, O, hS, OT, hT, hF, hl⟩ := h; exact fun x hx => hF x (.inr (.inl hx))
theorem DbX.part (h : DbX w base d S M sv9 C F) (hi : i < S.length) : ∀ x, PartD (C.getD i default) x → F x := by
  obtain ⟨mp, tv, T, F0S, FT, hdd, hM, hx, O, hS, OT, hT, hF, hl⟩ := h
  exact fun x hx => hF x (.inr (.inr (.inr (.inl ((hS.2.2 x).2 ⟨i, hi, hx⟩)))))
theorem DbX.turn (h : DbX w base d S M sv9 C F) (hi : i < S.length) (E : w.grownBy w' sv9.ownBlock) {s' : KS} {c' : DC} (O' : Own w' base 75 4 sv9 S.length ((C.set i c').flatMap cellsD)) (hs' : DSessR w' base s' c') :
    DbX w' base d (S.set i s') M sv9 (C.set i c') (fun x => F x ∨ PartD c' x) := by
  obtain ⟨mp, tv, T, F0S, FT, hd, hM, hx, O, hS, OT, hT, hF, hl⟩ := h
  have E2 := Gr.of E
  have hn1 : ∀ {v2 : Value} {e sz n2 : Nat} {cs : List Value}, Own w base e sz v2 n2 cs → e ≠ 75 → Own w' base e sz v2 n2 cs := fun O2 he => O2.keepG E2 fun x hx hh => O2.notOwn O he x hx hh
  refine ⟨mp, tv, T, fun x => ∃ j, j < (S.set i s').length ∧ PartD ((C.set i c').getD j default) x, FT, hd, hM, hx.keepG E2 (fun hh => O.neB hx (by decide) hh), by rw [List.length_set]; exact O', ⟨by simp [hS.1], fun j hj => ?_, fun x => Iff.rfl⟩, hn1 OT (by decide), ⟨fun j hj => hn1 (hT.1 j hj) (by decide), hT.2⟩, fun x hx => ?_, fun x hx => ?_⟩
  · rw [List.length_set] at hj
    rw [getD_set hi, getD_set (by rw [hS.1]; exact hi)]
    by_cases e : j = i
    · rw [if_pos e, if_pos e]; exact hs'
    · rw [if_neg e, if_neg e]
      obtain ⟨a1, a2, a3⟩ := hS.2.1 j hj
      exact ⟨hn1 a1 (by decide), hn1 a2 (by decide), hn1 a3 (by decide)⟩
  · rcases hx with hx | hx | hx | ⟨j, hj, hx⟩ | hx
    · exact .inl (hF x (.inl hx))
    · exact .inl (hF x (.inr (.inl hx)))
    · exact .inl (hF x (.inr (.inr (.inl hx))))
    · rw [List.length_set] at hj
      rw [getD_set (by rw [hS.1]; exact hi)] at hx
      by_cases e : j = i
      · rw [if_pos e] at hx; exact .inr hx
      · rw [if_neg e] at hx; exact .inl (hF x (.inr (.inr (.inr (.inl ((hS.2.2 x).2 ⟨j, hj, hx⟩))))))
    · exact .inl (hF x (.inr (.inr (.inr (.inr hx)))))
  · rcases hx with hx | hx
    · exact ⟨(hl x hx).1, Nat.lt_of_lt_of_le (hl x hx).2 E.size⟩
    · obtain ⟨a1, a2, a3⟩ := hs'
      rcases hx with hx | hx | hx
      · exact a1.lt x hx
      · exact a2.lt x hx
      · exact a3.lt x hx
theorem mem_tUp : ∀ {T : ST} {x : List UInt16} {e : List UInt16 × Int}, e ∈ tUp T x → e.1 = x ∨ ∃ e' ∈ T, e'.1 = e.1
  | [], _, _, h => by unfold tUp at h; simp at h; exact .inl (by rw [h])
  | (z, m) :: t, x, e, h => by
    unfold tUp at h
    split at h
    · rcases List.mem_cons.1 h with q | q
      · exact .inr ⟨(z, m), by simp, by rw [q]⟩
      · exact .inr ⟨e, by simp [q], rfl⟩
    · rcases List.mem_cons.1 h with q | q
      · exact .inr ⟨(z, m), by simp, by rw [q]⟩
      · rcases mem_tUp q with q | ⟨e', h1, h2⟩
        · exact .inl q
        · exact .inr ⟨e', by simp [h1], h2⟩
theorem had_inS {S : List KS} {s : Int} (h : 0 < (atS S s).texts.length) : inS S s = true := by
  cases hs : inS S s
  · unfold atS at h; rw [if_neg (by rw [hs]; decide)] at h; simp at h
  · rfl
/-! plain turns -/
variable {s : Int} {x : List UInt8}
theorem inS_iff : inS S s = true ↔ 0 ≤ s ∧ s < (S.length : Int) := by simp [inS]
theorem atS_in (h : inS S s = true) : atS S s = S.getD s.toNat default := by unfold atS; rw [if_pos h]
theorem atS_out (h : inS S s = false) : atS S s = ⟨[], [], []⟩ := by unfold atS; rw [if_neg (by rw [h]; decide)]
theorem set_same_ks {i : Nat} {k : KS} (h : i < S.length) (hk : k = S.getD i default) : S.set i k = S := by
  subst hk
  apply List.ext_getElem?
  intro j
  by_cases hj : i = j
  · subst hj; simp [List.getD_eq_getElem?_getD, h]
  · rw [List.getElem?_set_ne hj]
theorem doneS_none (h : (atS S s).texts.length = 0) : doneS S s = S := by
  unfold doneS updS
  by_cases hs : inS S s = true
  · rw [if_pos hs]
    rw [atS_in hs] at h
    have hi := inS_iff.1 hs
    refine set_same_ks (by omega) ?_
    have e : (S.getD s.toNat default).texts = [] := List.eq_nil_of_length_eq_zero h
    exact (show ∀ K : KS, K.texts = [] → ({ K with texts := K.texts.drop 1 } : KS) = K from fun K e => by cases K; simp at e; simp [e]) _ e
  · rw [if_neg hs]
theorem doneS_in (hs : inS S s = true) : doneS S s = S.set s.toNat { S.getD s.toNat default with texts := (S.getD s.toNat default).texts.drop 1 } := by unfold doneS updS; rw [if_pos hs]
theorem sayS_out (hs : inS S s = false) : sayS S s x = S := by unfold sayS updS; rw [if_neg (by rw [hs]; decide)]
theorem sayS_full (hs : inS S s = true) (h : ¬ (S.getD s.toNat default).texts.length < 16) : sayS S s x = S := by
  unfold sayS updS postL; rw [if_pos hs]
  have hi := inS_iff.1 hs
  refine set_same_ks (by omega) ?_
  simp only []
  rw [if_neg h]
theorem sayS_room (hs : inS S s = true) (h : (S.getD s.toNat default).texts.length < 16) : sayS S s x = S.set s.toNat { S.getD s.toNat default with texts := (S.getD s.toNat default).texts ++ [x] } := by
  unfold sayS updS postL; rw [if_pos hs]; simp only []; rw [if_pos h]
theorem sayE_out (hs : inS S s = false) : sayE S s = 22 := by unfold sayE; rw [if_neg (by rw [hs]; decide)]
theorem sayE_full (hs : inS S s = true) (h : ¬ (S.getD s.toNat default).texts.length < 16) : sayE S s = 25 := by unfold sayE; rw [if_pos hs, atS_in hs, if_neg h]
theorem sayE_room (hs : inS S s = true) (h : (S.getD s.toNat default).texts.length < 16) : sayE S s = 0 := by unfold sayE; rw [if_pos hs, atS_in hs, if_pos h]
end
end Go.Gx
namespace Go.Proofs.Ytmhdbphpmgjpcaa
open Go.Gx
theorem raiseS_out {S : List KS} {s : Int} {t : List UInt16} (hs : inS S s = false) : raiseS S s t = S ∧ raiseSE S s t = 22 := by
  unfold raiseS raiseSE updS; rw [if_neg (by rw [hs]; decide), if_neg (by rw [hs]; decide)]; exact ⟨rfl, rfl⟩
/-! operations -/
abbrev OpK := Int × Int × List UInt8 × (Value × List UInt16)
def dK : OpK := (0, 0, [], (.slice none 0 0, []))
def oK (o : OpK) : Int := o.1
def oS (o : OpK) : Int := o.2.1
def oX (o : OpK) : List UInt8 := o.2.2.1
def oV (o : OpK) : Value := o.2.2.2.1
def oT (o : OpK) : List UInt16 := o.2.2.2.2
def cellsOK (o : OpK) : List Value := [.int .i64 (oK o), .int .i64 (oS o), .string (bs (oX o)), oV o]
theorem el_ok {l : List OpK} {e : Int} {i : Nat} (he : e = (i : Int)) (h : i < l.length) : ∀ j u, ([.int .i64 (oK (l.getD i dK)), .int .i64 (oS (l.getD i dK)), .string (bs (oX (l.getD i dK))), oV (l.getD i dK)] : List Value)[j]? = some u → (l.flatMap cellsOK)[e.toNat * 4 + j]? = some u :=
  Go.Gx.el_flat (f := cellsOK) (d := dK) (by decide) (fun _ _ => rfl) he h
theorem tmod9 (k : Int) : -9 < k.tmod 9 ∧ k.tmod 9 < 9 := by
  rw [Int.tmod_eq_emod]; split <;> omega
theorem nrm_of_e {t : List UInt16} (h : normE t = 0) : mayL (normL t) = true := by
  unfold normE at h
  split at h
  · exact absurd h (by decide)
  · rename_i h8
    unfold normL; rw [if_neg h8, mayL_nrm]; exact decide_eq_true (by omega)
end Go.Proofs.Ytmhdbphpmgjpcaa

namespace Go.Proofs.Ytmhdbphpmgjpcaa
open Go.Gx Go.RowKit
theorem RaiseX {base d : Nat} {S : List KS} {M : ST} {sv9 : Value} {C : List DC} {F : Nat → Prop} {w : World} {t : List UInt16} {tv : Value} {s : Int} (hb : base ≤ w.heap.size) (hok : SOk S) (hs : inS S s = true) (htl : t.length ≤ 100) (ht : RdC w 0 w.heap.size 1 tv t.length (t.map u16v)) (h : DbX w base d S M sv9 C F) :
    Ret Try.prog 43 #[ptr d 0, .int .i64 s, tv] w (fun v' w' => Gr w w' F ∧ v' = .int .i64 (raiseSE S s t) ∧ ∃ sv9' C' F', DbX w' base d (raiseS S s t) M sv9' C' F' ∧ NewF w.heap.size F F') := by
  obtain ⟨F0, hR, hsub⟩ := h.r
  have hi := inS_iff.1 hs
  have e : s = ((s.toNat : Nat) : Int) := by omega
  have hl := mayL_len (hok.2 _ (getD_mem (d := default) (show s.toNat < S.length by omega))).1
  have hq := RaiseDB (i := s.toNat) hb hok.1 (by omega) (by omega) htl ht hR
  rw [← e] at hq
  refine hq.mono fun v' w' q => ?_
  obtain ⟨E, hv, F', hD, hN⟩ := q
  obtain ⟨sv9', C', hX⟩ := hD.x
  refine ⟨E.mono fun x _ hx => hsub x hx, ?_, sv9', C', F', ?_, fun x hx => (hN x hx).imp (hsub x) id⟩
  · rw [hv]; unfold raiseSE; rw [if_pos hs, atS_in hs]
  · unfold raiseS updS; rw [if_pos hs]; exact hX
theorem StampX {base d Lr Br : Nat} {S : List KS} {M : ST} {sv9 : Value} {C : List DC} {F : Nat → Prop} {w : World} {x : List UInt16} {xv : Value} (hb : base ≤ w.heap.size) (hML : M.length ≤ 100000) (hl8 : ∀ e ∈ M, e.1.length ≤ 100) (hxl : x.length ≤ 100) (hxr : RdC w Lr Br 1 xv x.length (x.map u16v)) (hap : ∀ y, F y → y < Lr ∨ Br ≤ y) (hBr : Br ≤ w.heap.size) (h : DbX w base d S M sv9 C F) :
    Ret Try.prog 46 #[ptr d 0, xv] w (fun v' w' => Gr w w' F ∧ v' = .int .u64 (IntKind.u64.wrap (tVal M x + 1)) ∧ ∃ sv9' C' F', DbX w' base d S (tUp M x) sv9' C' F' ∧ NewF w.heap.size F F') := by
  obtain ⟨F0, hR, hsub⟩ := h.r
  refine (StampDB hb hML hl8 hxl hxr hBr (fun y hy => hap y (hsub y hy)) hR).mono fun v' w' q => ?_
  obtain ⟨E, hv, F', hD, hN⟩ := q
  obtain ⟨sv9', C', hX⟩ := hD.x
  exact ⟨E.mono fun x _ hx => hsub x hx, hv, sv9', C', F', hX, fun x hx => (hN x hx).imp (hsub x) id⟩
theorem sameX {base k d : Nat} {S : List KS} {M : List (List UInt8 × Int)} {T : ST} {sv9 : Value} {C : List DC} {F FD : Nat → Prop} {w : World} (hbase : base ≤ w.heap.size) (hK : KernR w base k S M F) (hD : DbX w base d S T sv9 C FD) (hFD : Dj F FD) (hok : SOk S) :
    Ret Try.prog 48 #[ptr k 0, ptr d 0] w (fun v' w' => Gr w w' F ∧ v' = .bool true ∧ ∃ F', KernR w' base k S M F' ∧ NewF w.heap.size F F') := by
  obtain ⟨F0, hR, hsub⟩ := hD.r
  exact same24_ret hbase hK hR (fun x hx hf => hFD x hx (hsub x hf)) hok
end Go.Proofs.Ytmhdbphpmgjpcaa

namespace Go.Proofs.Ytmhdbphpmgjpcaa
open Go.Gx Go.RowKit
attribute [local irreducible] wpList wpStill Code.wp Calls

theorem begun24_ret (w : World) : Ret Try.prog 31 #[] w (fun v' w' => Below w.heap.size w w' ∧ v' = .bool true) := by
 have hb := Below.refl w.heap.size w
 refine enter (N := 64) Try.func31 rfl rfl (by simp) fun a hN hd hA => ?_
 clear hA
 refine zF fun _ c => zH (zD rfl (zB (c _ _ (zF fun _ c => zH (zf (pv := []) (v := (Value.agg #[(.slice none 0 0), (.slice none 0 0)])) trivial zy (op_bslice (e := 56) (pv := [(0, (.agg #[(.slice none 0 0), (.slice none 0 0)]))]) (cs := [(.slice none 0 0), (.slice none 0 0)]) ⟨rfl, (zA hN rfl), trivial⟩ zy ?_))))))
 intro g f m l d h
 obtain ⟨hb, _⟩ := yE hb h
 refine zf (pv := [(1, (.int .i64 5)), (0, (.slice (some ⟨f, 0, none⟩) 1 1))]) (v := (Value.agg #[(.slice (some ⟨f, 0, none⟩) 1 1), (.int .i64 5)])) ⟨rfl, rfl, ⟨rfl, (zA hN rfl), trivial⟩⟩ zy (zj ok32 (kernNewT (show cfgOk ([((.slice none 0 0, []), (.slice none 0 0, []))] : List CSn) 5 = true by decide) (L := ([((.slice none 0 0, []), (.slice none 0 0, []))] : List CSn)) (q := 5) zz (fun x hx => by simp at hx; subst hx; decide) (by first | exact ((RdC.ofBx (sz := 2) (n := 1) d rfl zz).mono (Nat.zero_le _) (by have := d.lt; omega)) | exact (((RdC.ofBx (sz := 2) (n := 1) d rfl zz).mono (Nat.zero_le _) (by have := d.lt; omega))).cast (by simp) (by simp [cells2])) (fun x hx => by simp at hx; obtain rfl := hx; exact RdC.nil _ _ _ _) (fun x hx => by simp at hx; obtain rfl := hx; exact RdC.nil _ _ _ _)) ⟨(zA hN rfl), trivial⟩ ?_)
 rintro _ y ⟨s, o, u, rfl, p⟩
 have a : ∀ x, u x → g.heap.size ≤ x := fun x hx => (p.lt x hx).1
 have g : ¬ u f := fun hf => by have := a _ hf; have := d.lt; omega
 have s := zQ s
 obtain ⟨hb, _⟩ := yE hb s
 have d := d.keep0 s
 have p : KernR y w.heap.size o ([⟨[], [], []⟩] : List KS) ([] : List (List UInt8 × Int)) u := p.mono zx
 have a : SOk ([⟨[], [], []⟩] : List KS) := (cfg_ok (show cfgOk ([((.slice none 0 0, []), (.slice none 0 0, []))] : List CSn) 5 = true by decide)).2.2.2.2
 refine zG (zA hN rfl) (zW (zA hN rfl) rfl (zW (zA hN rfl) rfl (zD (zA hN rfl) (zD (zA hN rfl) ?_))))
 refine zB (c _ _ (zF fun _ c => zF fun _ h => zH (zG (zA hN rfl) (op_bin (v := .bool false) (zA hN rfl) rfl (by rw [binOp_neq]; rfl) (zG (zA hN rfl) (zS (j := 2) (dj := 16) (b := false) rfl rfl rfl (zA hN rfl) (zG (zA hN rfl) (zS (j := 2) (dj := 16) (b := false) rfl rfl rfl (zA hN rfl) (op_peq_some ptrt50 (zA hN rfl) rfl ?_)))))))))
 refine zd (zA hN rfl) (zA hN rfl) (zB (h _ _ (wp_cond_false (zA hN rfl) (wp_skip (c _ _ (zF fun _ c => zH (zG (zA hN rfl) (zj ok40 (SayR 0 ([120]) zx a.1 p) ⟨(zA hN rfl), ⟨rfl, ⟨rfl, trivial⟩⟩⟩ ?_))))))))
 rintro _ s ⟨l, rfl, m, h, u⟩
 have y := d.lt
 have z := p
 have := l.size
 have d := d.keepG l g
 have hb := below_stepG hb l hb.size (fun k hk => (z.lt k hk).1)
 have l : ¬ m f := ne_stepF u y g
 have h : KernR s w.heap.size o ([⟨[], [], [[120]]⟩] : List KS) ([] : List (List UInt8 × Int)) m := h
 refine zD (zA hN rfl) (zB (c _ _ (zF fun _ c => zH (zG (zA hN rfl) (zj ok41 (HeadR 0 zx (a.say 0 ([120])).1 h) ⟨(zA hN rfl), ⟨rfl, trivial⟩⟩ ?_)))))
 rintro _ p ⟨g, rfl, m, f, s⟩
 have m := d.lt
 have m := h
 have := g.size
 have hb := below_stepG hb g hb.size (fun k hk => (m.lt k hk).1)
 refine zG (zA hN rfl) (zW (zA hN rfl) rfl (zW (zA hN rfl) rfl (zD (zA hN rfl) (zD (zA hN rfl) (zB (c _ _ (zF fun _ c => zH (zG (zA hN rfl) (op_bslice (e := 46) (pv := [(0, (.int .u16 4))]) (cs := [(.int .u16 4)]) ⟨rfl, rfl, trivial⟩ zy ?_)))))))))
 intro p y s u h m
 obtain ⟨hb, _⟩ := yE hb m
 have d := (d.keepG g l).keep0 m
 have f := f.kz m
 refine zj ok44 (RaiseR 0 (t := [4]) zx (a.say 0 ([120])).1 f (a.say 0 ([120])).lab (by first | assumption | omega | (simp only [List.length_append, List.length_cons, List.length_nil, List.length_drop, List.length_take]; omega) | (dsimp only; omega) | decide | (simp [keyV, be8_len]; done)) (((RdC.ofBx (sz := 1) (n := 1) h rfl zz).mono (Nat.zero_le _) (by have := h.lt; omega)).cast (by simp) (by simp [u16v]))) ⟨(zA hN rfl), ⟨rfl, ⟨(zA hN rfl), trivial⟩⟩⟩ ?_
 rintro _ p ⟨m, rfl, l, g, s⟩
 have s := d.lt
 have d := h.lt
 have d := f
 have := m.size
 have hb := below_stepG hb m hb.size (fun k hk => (d.lt k hk).1)
 have g : KernR p w.heap.size o ([⟨[4], [], [[120]]⟩] : List KS) ([] : List (List UInt8 × Int)) l := g
 refine zD (zA hN rfl) (zB (c _ _ (zF fun _ c => zH ?_)))
 refine zG (zA hN rfl) (op_bin (v := .bool true) (zA hN rfl) rfl (by rw [binOp_eql]; rfl) (zG (zA hN rfl) (zS (j := 2) (dj := 32) (b := true) rfl rfl rfl (zA hN rfl) (zG (zA hN rfl) (zc (zA hN rfl) (zA hN rfl) (zG (zA hN rfl) (zS (j := 5) (dj := 35) (b := true) rfl rfl rfl (zA hN rfl) (zG (zA hN rfl) (zS (j := 5) (dj := 35) (b := true) rfl rfl rfl (zA hN rfl) (op_seql (zA hN rfl) rfl (fun d => ?_) (fun d => ?_)))))))))))
 ·
  refine zc (zA hN rfl) (zA hN rfl) (zG (zA hN rfl) (zS (j := 9) (dj := 39) (b := true) rfl rfl rfl (zA hN rfl) (zG (zA hN rfl) (zS (j := 9) (dj := 39) (b := true) rfl rfl rfl (zA hN rfl) ?_))))
  refine op_bin (v := .bool true) (zA hN rfl) rfl (by rw [binOp_eql]; rfl) (zc (zA hN rfl) (zA hN rfl) (zG (zA hN rfl) (zS (j := 13) (dj := 43) (b := true) rfl rfl rfl (zA hN rfl) (zG (zA hN rfl) (zS (j := 13) (dj := 43) (b := true) rfl rfl rfl (zA hN rfl) (zj ok37 (LabelR 0 zx ((a.say 0 ([120])).raise 0 [4]).1 g ((a.say 0 ([120])).raise 0 [4]).lab) ⟨(zA hN rfl), ⟨rfl, trivial⟩⟩ ?_))))))
  rintro p m ⟨f, h⟩
  have f := zQ f
  obtain ⟨hb, _⟩ := yE hb f
  have g := g.kz f
  have h := h.mono (base' := w.heap.size) zx
  have f := mayL_len (((a.say 0 ([120])).raise 0 [4]).at 0).1
  refine zS (j := 13) (dj := 43) (b := true) rfl rfl rfl (zA hN rfl) (op_len_rd Try.underlying54 (zA hN rfl) h.rdw (zS (j := 13) (dj := 43) (b := true) rfl rfl rfl (zA hN rfl) (op_eql (zA hN rfl) rfl (fun f => ?_) (fun f => ?_))))
  ·
   refine zc (zA hN rfl) (zA hN rfl) (zG (zA hN rfl) (zS (j := 19) (dj := 49) (b := true) rfl rfl rfl (zA hN rfl) (zG (zA hN rfl) (zS (j := 19) (dj := 49) (b := true) rfl rfl rfl (zA hN rfl) (zj ok35 (StampR (x := []) zx (by first | assumption | omega | (simp only [List.length_append, List.length_cons, List.length_nil, List.length_drop, List.length_take]; omega) | (dsimp only; omega) | decide | (simp [keyV, be8_len]; done)) ((RdC.nil _ 0 0 _).mono (Nat.zero_le _) zx) g) ⟨(zA hN rfl), ⟨rfl, trivial⟩⟩ ?_)))))
   rintro _ p ⟨m, rfl, h⟩
   have s := g
   have := m.size
   have hb := below_stepG hb m hb.size (fun k hk => (s.lt k hk).1)
   have h : KernR p w.heap.size o ([⟨[4], [], [[120]]⟩] : List KS) ([(labB [], 1)] : List (List UInt8 × Int)) l := h
   refine zS (j := 19) (dj := 49) (b := true) rfl rfl rfl (zA hN rfl) ?_
   refine op_bin (v := .bool true) (zA hN rfl) rfl (by rw [binOp_eql]; rfl) (zc (zA hN rfl) (zA hN rfl) (zG (zA hN rfl) (zS (j := 24) (dj := 54) (b := true) rfl rfl rfl (zA hN rfl) (zG (zA hN rfl) (zS (j := 24) (dj := 54) (b := true) rfl rfl rfl (zA hN rfl) (zj ok35 (StampR (x := []) zx (by first | assumption | omega | (simp only [List.length_append, List.length_cons, List.length_nil, List.length_drop, List.length_take]; omega) | (dsimp only; omega) | decide | (simp [keyV, be8_len]; done)) ((RdC.nil _ 0 0 _).mono (Nat.zero_le _) zx) h) ⟨(zA hN rfl), ⟨rfl, trivial⟩⟩ ?_))))))
   rintro _ p ⟨m, rfl, g⟩
   have s := h
   have := m.size
   have hb := below_stepG hb m hb.size (fun k hk => (s.lt k hk).1)
   have g : KernR p w.heap.size o ([⟨[4], [], [[120]]⟩] : List KS) ([(labB [], 2)] : List (List UInt8 × Int)) l := g
   refine zS (j := 24) (dj := 54) (b := true) rfl rfl rfl (zA hN rfl) ?_
   refine op_bin (v := .bool true) (zA hN rfl) rfl (by rw [binOp_eql]; rfl) (zc (zA hN rfl) (zA hN rfl) (zG (zA hN rfl) (zS (j := 29) (dj := 59) (b := true) rfl rfl rfl (zA hN rfl) (zG (zA hN rfl) (zS (j := 29) (dj := 59) (b := true) rfl rfl rfl (zA hN rfl) (ze (vs := [(ptr o 0)]) ok49 ⟨(zA hN rfl), trivial⟩ (Ret.flip (SessionsR zx ((a.say 0 ([120])).raise 0 [4]).1 g)) ?_))))))
   rintro _ _ ⟨rfl, rfl⟩
   refine zS (j := 29) (dj := 59) (b := true) rfl rfl rfl (zA hN rfl) (op_eql (zA hN rfl) rfl (fun a => ?_) (fun a => ?_))
   ·
    refine zc (zA hN rfl) (zA hN rfl) (zD (zA hN rfl) (zB (c _ _ (wp_ret (ret1 rfl hd (zA hN rfl) ⟨_, rfl, ?_⟩)))))
    exact ⟨hb, rfl⟩
   exact absurd rfl a
  exact absurd rfl f
 exact absurd rfl d

end Go.Proofs.Ytmhdbphpmgjpcaa

namespace Go.Gx
open Go.RowKit
section
variable {P : Program} {ol : List Oper} {Q : Exit → Act → World → Prop} {E : Type} {Φ : E → Nat → Value → Prop} {C : E → Nat → World → Prop} {ch : Chain} {a0 : Act} {N : Nat}
end

section
variable {P : Program} {ol : List Oper} {Q : Exit → Act → World → Prop} {ops : List Nat} {φ : Nat → Value → Prop} {G : Nat → World → Prop} {a0 : Act} {N : Nat}
def PhK (ops : List Nat) (φ : Nat → Value → Prop) (e : List Value) (j : Nat) (u : Value) : Prop := (∀ c : Nat, ops[c]? = some j → e[c]? = some u) ∧ (ops.contains j = false → φ j u)
theorem PhK.mono {e : List Value} {v : Value} {j : Nat} {u : Value} (h : PhK ops φ e j u) : PhK ops φ (e ++ [v]) j u :=
  ⟨fun c hc => by have h1 := h.1 c hc; have hl := (List.getElem?_eq_some_iff.1 h1).1; rw [List.getElem?_append_left hl]; exact h1, h.2⟩
theorem PhK.light {j : Nat} {e : List Value} {u : Value} (hh : ops.contains j = false) (h : φ j u) : PhK ops φ e j u :=
  ⟨fun c hc => by have : ops.contains j = true := by simpa using List.mem_of_getElem? hc
                  exact absurd (this.symm.trans hh) (by decide), fun _ => h⟩
def KK (P : Program) (ol : List Oper) (ops : List Nat) (φ : Nat → Value → Prop) (G : Nat → World → Prop) (a0 : Act) (N : Nat) (Q : Exit → Act → World → Prop) : List Nat → List Value → World → Prop
  | [], e, w => ∀ w1, w.grownBy w1 none → ∀ a', a'.tmps.size = N → a'.defers = a0.defers → (∀ t, (ol.all fun o => o.dst != some t) = true → a'.tmps.getD t undef = a0.tmps.getD t undef) →
      (∀ j oj d, ol[j]? = some oj → oj.dst = some d → PhK ops φ e j (a'.tmps.getD d undef)) → Q .normal (putsL a' []) w1
  | i :: r, e, w => ∀ w1, w.grownBy w1 none → G e.length w1 → ∀ a, a.tmps.size = N → (∀ t, safeB ol i t = true → a.tmps.getD t undef = a0.tmps.getD t undef) → (∀ j oj d, depB ol i j = true → ol[j]? = some oj → oj.dst = some d → PhK ops φ e j (a.tmps.getD d undef)) →
      ∀ o, ol[i]? = some o → wpList P ol.toArray (fun ex a' w' => ex = .normal ∧ ∃ e', (∀ j u, PhK ops φ e j u → PhK ops φ e' j u) ∧ ((o.dst = none ∧ a' = a) ∨ ∃ d v, o.dst = some d ∧ a' = putsL a [(d, v)] ∧ PhK ops φ e' i v) ∧ (e'.length = e.length + 1 ∧ KK P ol ops φ G a0 N Q r e' w' ∧ G (e.length + 1) w')) [o] (putsL a []) w1
theorem KK.stable : ∀ {rs : List Nat} {e : List Value} {w w2 : World}, KK P ol ops φ G a0 N Q rs e w → w.grownBy w2 none → KK P ol ops φ G a0 N Q rs e w2
  | [], _, _, _, h, E => fun w1 E1 => h w1 (grown_trans E E1)
  | _ :: _, _, _, _, h, E => fun w1 E1 => h w1 (grown_trans E E1)
def ObK (P : Program) (ol : List Oper) (ops : List Nat) (φ : Nat → Value → Prop) (G : Nat → World → Prop) (a0 : Act) (N : Nat) (i : Nat) (o : Oper) : Prop :=
  ∀ (e : List Value) (a : Act) (w : World), a.tmps.size = N → (∀ m k, ops[m]? = some k → depB ol k i = true → e.length ≤ m) → G e.length w → (∀ t, safeB ol i t = true → a.tmps.getD t undef = a0.tmps.getD t undef) → (∀ j oj d, depB ol i j = true → ol[j]? = some oj → oj.dst = some d → PhK ops φ e j (a.tmps.getD d undef)) →
    wpList P ol.toArray (fun ex a' w' => ex = .normal ∧ (∃ d v, o.dst = some d ∧ a' = putsL a [(d, v)] ∧ PhK ops φ e i v) ∧ w.grownBy w' none) [o] (putsL a []) w
def ObKs (P : Program) (ol : List Oper) (ops : List Nat) (φ : Nat → Value → Prop) (G : Nat → World → Prop) (a0 : Act) (N : Nat) : Nat → List Oper → Prop
  | _, [] => True
  | i, o :: r => (ops.contains i = false → ObK P ol ops φ G a0 N i o) ∧ ObKs P ol ops φ G a0 N (i + 1) r
theorem ObKs.nil {i : Nat} : ObKs P ol ops φ G a0 N i [] := trivial
theorem ObKs.cons {i : Nat} {o : Oper} {r : List Oper} (h : ObK P ol ops φ G a0 N i o) (h' : ObKs P ol ops φ G a0 N (i + 1) r) : ObKs P ol ops φ G a0 N i (o :: r) := ⟨fun _ => h, h'⟩
theorem ObKs.pass {i : Nat} {o : Oper} {r : List Oper} (hh : ops.contains i = true) (h' : ObKs P ol ops φ G a0 N (i + 1) r) : ObKs P ol ops φ G a0 N i (o :: r) := ⟨fun h => absurd (hh.symm.trans h) (by decide), h'⟩
theorem ObKs.getx : ∀ {l : List Oper} {i : Nat}, ObKs P ol ops φ G a0 N i l → ∀ j o, l[j]? = some o → ops.contains (i + j) = false → ObK P ol ops φ G a0 N (i + j) o
  | [], _, _, j, o, h, _ => by simp at h
  | o' :: r, i, h, 0, o, hj, hs => by simp at hj; subst hj; exact h.1 hs
  | o' :: r, i, h, j + 1, o, hj, hs => by
    have := ObKs.getx h.2 j o (by simpa using hj) (by rwa [show i + 1 + j = i + (j + 1) by omega])
    rwa [show i + 1 + j = i + (j + 1) by omega] at this
end
end Go.Gx

namespace Go.Gx
open Go.RowKit
section
variable {P : Program} {ol : List Oper} {Q : Exit → Act → World → Prop} {bigs : List Nat} {φ : Nat → Value → Prop} {G : List Nat → World → Prop} {a0 : Act} {N : Nat}
def KIk (P : Program) (ol : List Oper) (bigs : List Nat) (φ : Nat → Value → Prop) (G : List Nat → World → Prop) (a0 : Act) (N : Nat) (e : List (Nat × Value)) (todo : List Nat) (i : Nat) (w : World) (K : Value → World → Prop) : Prop :=
  ∀ w1, w.grownBy w1 none → G todo w1 → ∀ a, a.tmps.size = N → (∀ t, safeB ol i t = true → a.tmps.getD t undef = a0.tmps.getD t undef) → (∀ j oj d, depB ol i j = true → ol[j]? = some oj → oj.dst = some d → PhT bigs φ e j (a.tmps.getD d undef)) →
    ∀ o, ol[i]? = some o → wpList P ol.toArray (fun ex a' w' => ex = .normal ∧ ∃ v, ((o.dst = none ∧ a' = a) ∨ ∃ d, o.dst = some d ∧ a' = putsL a [(d, v)]) ∧ K v w' ∧ G (todo.erase i) w') [o] (putsL a []) w1
def KTk (P : Program) (ol : List Oper) (bigs : List Nat) (φ : Nat → Value → Prop) (G : List Nat → World → Prop) (a0 : Act) (N : Nat) (Q : Exit → Act → World → Prop) : Nat → List Nat → List (Nat × Value) → World → Prop
  | 0, _, e, w => ∀ w1, w.grownBy w1 none → ∀ a', a'.tmps.size = N → a'.defers = a0.defers → (∀ t, (ol.all fun o => o.dst != some t) = true → a'.tmps.getD t undef = a0.tmps.getD t undef) →
      (∀ j oj d, ol[j]? = some oj → oj.dst = some d → PhT bigs φ e j (a'.tmps.getD d undef)) → Q .normal (putsL a' []) w1
  | n + 1, todo, e, w => ∀ i ∈ readyT ol todo, KIk P ol bigs φ G a0 N e todo i w fun v w' => KTk P ol bigs φ G a0 N Q n (todo.erase i) ((i, v) :: e) w'
theorem KTk.stable : ∀ {n : Nat} {todo : List Nat} {e : List (Nat × Value)} {w w2 : World}, KTk P ol bigs φ G a0 N Q n todo e w → w.grownBy w2 none → KTk P ol bigs φ G a0 N Q n todo e w2
  | 0, _, _, _, _, h, E => fun w1 E1 => h w1 (grown_trans E E1)
  | _ + 1, _, _, _, _, h, E => fun i hi w1 E1 => h i hi w1 (grown_trans E E1)
def ObQ9 (P : Program) (ol : List Oper) (bigs : List Nat) (φ : Nat → Value → Prop) (G : List Nat → World → Prop) (a0 : Act) (N : Nat) (i : Nat) (o : Oper) : Prop :=
  ∀ (e : List (Nat × Value)) (todo : List Nat) (a : Act) (w : World), a.tmps.size = N → (∀ j, bigs.contains j = true → depB ol j i = true → j ∈ todo) → G todo w → (∀ t, safeB ol i t = true → a.tmps.getD t undef = a0.tmps.getD t undef) → (∀ j oj d, depB ol i j = true → ol[j]? = some oj → oj.dst = some d → PhT bigs φ e j (a.tmps.getD d undef)) →
    wpList P ol.toArray (fun ex a' w' => ex = .normal ∧ (∃ d v, o.dst = some d ∧ a' = putsL a [(d, v)] ∧ φ i v) ∧ w.grownBy w' none) [o] (putsL a []) w
def ObRk9 (P : Program) (ol : List Oper) (bigs : List Nat) (φ : Nat → Value → Prop) (G : List Nat → World → Prop) (a0 : Act) (N : Nat) : Nat → List Oper → Prop
  | _, [] => True
  | i, o :: r => (bigs.contains i = false → ObQ9 P ol bigs φ G a0 N i o) ∧ ObRk9 P ol bigs φ G a0 N (i + 1) r
theorem ObRk9.nil {i : Nat} : ObRk9 P ol bigs φ G a0 N i [] := trivial
theorem ObRk9.cons {i : Nat} {o : Oper} {r : List Oper} (h : ObQ9 P ol bigs φ G a0 N i o) (h' : ObRk9 P ol bigs φ G a0 N (i + 1) r) : ObRk9 P ol bigs φ G a0 N i (o :: r) := ⟨fun _ => h, h'⟩
theorem ObRk9.pass {i : Nat} {o : Oper} {r : List Oper} (hh : bigs.contains i = true) (h' : ObRk9 P ol bigs φ G a0 N (i + 1) r) : ObRk9 P ol bigs φ G a0 N i (o :: r) := ⟨fun h => absurd (hh.symm.trans h) (by decide), h'⟩
theorem ObRk9.getx : ∀ {l : List Oper} {i : Nat}, ObRk9 P ol bigs φ G a0 N i l → ∀ j o, l[j]? = some o → bigs.contains (i + j) = false → ObQ9 P ol bigs φ G a0 N (i + j) o
  | [], _, _, j, o, h, _ => by simp at h
  | o' :: r, i, h, 0, o, hj, hs => by simp at hj; subst hj; exact h.1 hs
  | o' :: r, i, h, j + 1, o, hj, hs => by
    have := ObRk9.getx h.2 j o (by simpa using hj) (by rwa [show i + 1 + j = i + (j + 1) by omega])
    rwa [show i + 1 + j = i + (j + 1) by omega] at this
end
end Go.Gx

namespace Go.Gx
open Go.RowKit
section
variable {w : World} {base e sz n k i : Nat} {v : Value} {cs xs sp zs : List Value}
theorem Own.cutO (O : Own w base e sz v n cs) (hk : k ≤ n) : Own w base e sz (cutS sz v k) (n - k) (cs.drop (k * sz)) := by
  obtain ⟨_, ad, c, rfl, _⟩ := O.rdw
  exact O.dropV hk
theorem Own.cut_ob (O : Own w base e sz v n cs) : (cutS sz v k).ownBlock = v.ownBlock := by
  obtain ⟨hl, ⟨rfl, rfl⟩ | ⟨g, off, cap, cur, fr, rfl, _⟩⟩ := O
  · by_cases h : 0 = k <;> simp [cutS, h]
  · by_cases h : cap = k <;> simp [cutS, h, Value.ownBlock, Addr.add_lit]
end
section
variable {P : Program} {Q : Exit → Act → World → Prop} {a : Act} {w w' : World} {l : List (Nat × Value)} {ops : Array Oper} {rest : List Oper} {d ty : Nat} {p : String} {af : Array Edge} {x y : Operand} {vx vy u : Value}
end
end Go.Gx

namespace Go.Gx
open Go.RowKit
section
variable {P : Program} {w : World} {L B L2 B2 n m : Nat} {v u : Value} {la lb : List UInt8}
end
end Go.Gx

namespace Go.Gx
open Go.RowKit
section
variable {P : Program} {Q : Exit → Act → World → Prop} {a : Act} {w w' w9 : World} {l : List (Nat × Value)} {ops : Array Oper} {rest : List Oper}
variable {d ty t e xt yt tx i : Nat} {p : String} {af : Array Edge} {x y : Operand} {v : Value} {k : IntKind} {n base sz by_ b o : Nat} {cs ws : List Value} {zv : Value} {r : Int}
theorem Own.atV (O : Own w base e sz v n cs) (h1 : i < n) : ∃ b o, base ≤ b ∧ AtV v (i * sz) b o := by
  obtain ⟨hl, ⟨rfl, rfl⟩ | ⟨g, off, cap, cur, fr, rfl, hb, _⟩⟩ := O
  · omega
  · exact ⟨g, off + i * sz, hb, off, n, cap, rfl, rfl⟩
theorem op_index_at (T : SlT P xt e zv sz by_) (hx : (putsL a l).eval x = v) (O : Own w9 base e sz v n cs) (hy : (putsL a l).eval y = .int k r) (hr : r = (i : Int)) (h1 : i < n) (hA : AtV v (i * sz) b o)
    (h : wpList P ops Q rest (putsL a ((d, ptr b o) :: l)) w) : wpList P ops Q (⟨some d, .indexAddr xt x y, ty, p, af, none⟩ :: rest) (putsL a l) w := by
  obtain ⟨inf, hi, hz0, hz1, hz2⟩ := info_parts T.info
  subst hr
  obtain ⟨hl, ⟨rfl, rfl⟩ | ⟨g, off, cap, cur, fr, rfl, hb, _⟩⟩ := O
  · omega
  · obtain ⟨off2, n2, c2, hv, rfl⟩ := hA
    injection hv with e1 e2 e3; injection e1 with e1; injection e1 with e1 e4; subst e1; subst e4
    refine op_gen (v := ptr g (off + i * sz)) rfl ?_ h
    have hand : (0 ≤ (i : Int) ∧ (i : Int) < (n : Int)) := by omega
    simp [execOp, hx, hy, Instr.indexAt, asIntOf, run_underlying T.und, sizeOf, typeInfo, hi, ptr, Addr.add_lit, hz1, h1]
theorem RdC.atV {L B : Nat} (R : RdC w L B sz v n cs) (hp : 0 < sz) (h1 : i < n) : ∃ b o, AtV v (i * sz) b o := by
  obtain ⟨h0, a, c, hv, h2, h3, h4⟩ := R
  rcases h4 with h4 | ⟨b, off, ha, _⟩
  · rw [h4] at h0; have : 0 < n * sz := Nat.mul_pos (by omega) hp; simp at h0; omega
  · subst ha; exact ⟨b, off + i * sz, off, n, c, hv, rfl⟩
theorem RdC.cellAt {L B q : Nat} (R : RdC w L B sz v n cs) (hA : AtV v q b o) : ∀ j u, cs[q + j]? = some u → w.cell? ⟨b, o + j, none⟩ = some u := by
  intro j u hu
  obtain ⟨off', n', c', hv', rfl⟩ := hA
  obtain ⟨h0, a, c, hv, h2, h3, h4⟩ := R
  rcases h4 with h4 | ⟨b2, off, ha, _, _, hc⟩
  · rw [h4] at hu; simp at hu
  · subst ha
    rw [hv] at hv'
    injection hv' with e1 e2 e3; injection e1 with e1; injection e1 with e1 e4; subst e1; subst e4
    have := hc (q + j) u hu
    rw [← Nat.add_assoc] at this
    exact this
end
end Go.Gx
namespace Go.Gx
open Go.RowKit
section
variable {P : Program} {Q : Exit → Act → World → Prop} {a : Act} {w : World} {l : List (Nat × Value)} {ops : Array Oper} {rest : List Oper} {d ty e xt yt sz by_ : Nat} {p : String} {af : Array Edge} {x y : Operand} {zv : Value}
end
end Go.Gx

namespace Go.Proofs.Ytmhdbphpmgjpcaa
open Go.Gx Go.RowKit
attribute [local irreducible] wpList wpStill Code.wp Calls

theorem in_eq {S : List KS} {s : Int} (h : 0 ≤ s) : decide (s < (S.length : Int)) = inS S s := by simp [inS, h]
theorem in_no {S : List KS} {s : Int} (h : ¬ 0 ≤ s) : false = inS S s := by simp [inS, h]
theorem had_in {S : List KS} {s : Int} (h : inS S s = true) : decide (0 < (((S.getD s.toNat default).texts.length : Nat) : Int)) = decide (0 < (atS S s).texts.length) := by rw [atS_in h]; simp
theorem had_out {S : List KS} {s : Int} (h : inS S s = false) : false = decide (0 < (atS S s).texts.length) := by rw [atS_out h]; simp

set_option maxHeartbeats 2000000 in
theorem KernAll_ret (L : List CSn) (q : Int) (vL : Value) (ops : List OpK) (vo : Value) (w : World) (hL : L.length ≤ 9223372036854775807) (hll : ∀ x ∈ L, x.1.2.length ≤ 9223372036854775807 ∧ x.2.2.length ≤ 9223372036854775807) (hr : RdC w 0 w.heap.size 2 vL L.length (L.flatMap cells2)) (hlab : ∀ x9 ∈ (L.map Prod.fst), RdC w 0 w.heap.size 1 x9.1 x9.2.length (x9.2.map u16v)) (hown : ∀ x9 ∈ (L.map Prod.snd), RdC w 0 w.heap.size 1 x9.1 x9.2.length (x9.2.map u16v)) (hlo : ops.length ≤ 9223372036854775807) (hxl : ∀ o ∈ ops, (oX o).length ≤ 9223372036854775807 ∧ (oT o).length ≤ 9223372036854775807) (hwf : ∀ o ∈ ops, (-9223372036854775808 ≤ oK o ∧ oK o ≤ 9223372036854775807) ∧ (-9223372036854775808 ≤ oS o ∧ oS o ≤ 9223372036854775807)) (hro : RdC w 0 w.heap.size 4 vo ops.length (ops.flatMap cellsOK)) (hto : ∀ o ∈ ops, RdC w 0 w.heap.size 1 (oV o) (oT o).length ((oT o).map u16v)) : Ret Try.prog 8 #[(.agg #[vL, (.int .i64 q)]), vo] w (fun v' w' => Below w.heap.size w w' ∧ v' = .bool true) := by
 have hb := Below.refl w.heap.size w
 refine enter (N := 214) Try.func8 rfl rfl (by simp) fun a hN hd hA => ?_
 have c : a.tmps.getD 0 undef = (.agg #[vL, (.int .i64 q)]) := hA 0 (by simp)
 have f : a.tmps.getD 1 undef = vo := hA 1 (by simp)
 clear hA
 refine zF fun _ g => zH (op_box (cs := [vL, (.int .i64 q)]) (zC hN rfl c) rfl ?_)
 intro s D B A l p
 obtain ⟨hb, _⟩ := yE hb p
 have hlab := all9 hlab fun _ h => h.keep0 p
 have hown := all9 hown fun _ h => h.keep0 p
 refine zD rfl (zB (g _ _ (zF fun _ g => zF fun _ F => zH (zj ok31 (begun24_ret _) trivial ?_))))
 rintro _ I ⟨H, rfl⟩
 have H := zQ H
 obtain ⟨hb, _⟩ := yE hb H
 have hr := (hr.keep0 p).keep0 H
 have hlab := all9 hlab fun _ h => h.keep0 H
 have hown := all9 hown fun _ h => h.keep0 H
 have hro := (hro.keep0 p).keep0 H
 have l := l.keep0 H
 refine op_not (zA hN rfl) (zB (F _ _ (wp_cond_false (zA hN rfl) (wp_skip (g _ _ (zF fun _ g => zF fun _ F => zH (zG (zC hN rfl f) (op_len_rd Try.underlying82 (zA hN rfl) hro (op_gtr (zA hN rfl) rfl (fun J => ?_) (fun J => ?_))))))))))
 ·
  refine zG (zA hN rfl) (zR (j := 3) (dj := 24) (b := false) rfl rfl rfl (zA hN rfl) rfl rfl (zR (j := 3) (dj := 24) (b := false) rfl rfl rfl (zA hN rfl) rfl rfl ?_))
  refine zR (j := 3) (dj := 24) (b := false) rfl rfl rfl (zA hN rfl) rfl rfl (zR (j := 3) (dj := 24) (b := false) rfl rfl rfl (zA hN rfl) rfl rfl (zc (zA hN rfl) rfl (zB (F _ _ (wp_cond_true (zA hN rfl) (zF fun _ F => zH (zD rfl (zB (F _ _ (wp_ret (zO ( (ret1 rfl hd (zA hN rfl) ⟨_, rfl, ?_⟩)))))))))))))
  exact ⟨hb, rfl⟩
 refine zG (zA hN rfl) (zS (j := 3) (dj := 24) (b := false) rfl rfl rfl (zA hN rfl) (zM fld59_0 (zA hN rfl) (zS (j := 3) (dj := 24) (b := false) rfl rfl rfl (zA hN rfl) (zN one57 (zA hN rfl) (l.cell rfl) (zS (j := 3) (dj := 24) (b := false) rfl rfl rfl (zA hN rfl) (op_len_rd Try.underlying57 (zA hN rfl) hr (zS (j := 3) (dj := 24) (b := false) rfl rfl rfl (zA hN rfl) (op_gtr (zA hN rfl) rfl (fun K => ?_) (fun K => ?_)))))))))
 ·
  refine zd (zA hN rfl) (zA hN rfl) (zB (F _ _ (wp_cond_true (zA hN rfl) (zF fun _ F => zH (zD rfl (zB (F _ _ (wp_ret (zO ( (ret1 rfl hd (zA hN rfl) ⟨_, rfl, ?_⟩)))))))))))
  exact ⟨hb, rfl⟩
 refine zd (zA hN rfl) (zA hN rfl) (zB (F _ _ (wp_cond_false (zA hN rfl) (wp_skip (g _ _ (zF fun _ g => zH (zY agg59 rfl (zA hN rfl) l ?_)))))))
 rcases Bool.eq_false_or_eq_true ((cfgOk L q)) with O | O
 ·
  refine zj ok32 (kernNewT O (L := L) (q := q) hL (by assumption) (hr.mono (Nat.zero_le _) zx) (fun x hx => (hlab x hx).mono (Nat.zero_le _) zx) (fun x hx => (hown x hx).mono (Nat.zero_le _) zx)) ⟨(zA hN rfl), trivial⟩ ?_
  rintro _ V ⟨P, U, R, rfl, Q⟩
  have W : ∀ x, R x → I.heap.size ≤ x := fun x hx => (Q.lt x hx).1
  have P := zQ P
  obtain ⟨hb, _⟩ := yE hb P
  have hr := hr.keep0 P
  have hlab := all9 hlab fun _ h => h.keep0 P
  have hown := all9 hown fun _ h => h.keep0 P
  have l := l.keep0 P
  have Q : KernR V w.heap.size U (L.map ksOf) ([] : List (List UInt8 × Int)) R := Q.mono zx
  have X : SOk (L.map ksOf) := (cfg_ok O).2.2.2.2
  refine zG (zA hN rfl) (zW (zA hN rfl) rfl (zW (zA hN rfl) rfl (zD (zA hN rfl) ?_)))
  refine zD (zA hN rfl) (zB (g _ _ (zF fun _ g => zH (zY agg59 rfl (zA hN rfl) l (zj ok36 (newDBT O (L := L) (q := q) hL (by assumption) (hr.mono (Nat.zero_le _) zx) (fun x hx => (hlab x hx).mono (Nat.zero_le _) zx) (fun x hx => (hown x hx).mono (Nat.zero_le _) zx)) ⟨(zA hN rfl), trivial⟩ ?_)))))
  rintro _ ac ⟨Z, Y, aa, rfl, ab⟩
  have ad : ∀ x, aa x → V.heap.size ≤ x := fun x hx => (ab.lt x hx).1
  have ae : Dj R aa := Dj.fresh (fun k hk => (Q.lt k hk).2) ad
  have Z := zQ Z
  obtain ⟨hb, _⟩ := yE hb Z
  have hr := hr.keep0 Z
  have hlab := all9 hlab fun _ h => h.keep0 Z
  have hown := all9 hown fun _ h => h.keep0 Z
  have hro := (hro.keep0 P).keep0 Z
  have Q := Q.kz Z
  have ab : DbR ac w.heap.size Y (L.map ksOf) ([] : List (List UInt16 × Int)) aa := ab.mono zx
  refine zG (zA hN rfl) (zW (zA hN rfl) rfl (zW (zA hN rfl) rfl (zD (zA hN rfl) ?_)))
  refine zD (zA hN rfl) (zB (g _ _ (zF fun _ g => zF fun _ F => zH (zG (zA hN rfl) (op_peq_some ptrt50 (zA hN rfl) rfl (zG (zA hN rfl) (zS (j := 2) (dj := 42) (b := false) rfl rfl rfl (zA hN rfl) (zG (zA hN rfl) ?_))))))))
  refine zS (j := 2) (dj := 42) (b := false) rfl rfl rfl (zA hN rfl) (op_peq_some ptrt65 (zA hN rfl) rfl (zd (zA hN rfl) (zA hN rfl) (zB (F _ _ (wp_cond_false (zA hN rfl) (wp_skip (g _ _ (zF fun _ g => zF fun _ F => zH (zD rfl (zB (F _ _ (wp_block ?_))))))))))))
  obtain ⟨ag, C0, af⟩ := ab.x
  refine loop_m (fun mz_ az_ w' => ∃ (i : Nat) (S : List KS) (M : List (List UInt8 × Int)) (T : ST) (kk : Nat) (ah : Value) (C : List DC) (FK FD : Nat → Prop), mz_ = ops.length - i ∧ (Sl az_ 1 vo) ∧ (Sl az_ 7 (ptr Y 0)) ∧ (Sl az_ 9 (.int .i64 ((i : Nat) : Int))) ∧ (Sl az_ 5 (ptr kk 0)) ∧ (i ≤ ops.length) ∧ (SOk S) ∧ (StEq M T) ∧ (∀ e ∈ T, e.1.length ≤ 100) ∧ (T.length ≤ i) ∧ (Dj FK FD) ∧ (Below w.heap.size w w') ∧ (ac.heap.size ≤ w'.heap.size) ∧ (RdC w' 0 w.heap.size 2 vL L.length (L.flatMap cells2)) ∧ (∀ x9 ∈ (L.map Prod.fst), RdC w' 0 w.heap.size 1 x9.1 x9.2.length (x9.2.map u16v)) ∧ (∀ x9 ∈ (L.map Prod.snd), RdC w' 0 w.heap.size 1 x9.1 x9.2.length (x9.2.map u16v)) ∧ (RdC w' 0 w.heap.size 4 vo ops.length (ops.flatMap cellsOK)) ∧ (KernR w' w.heap.size kk S M FK) ∧ (DbX w' w.heap.size Y S T ah C FD)) _ hN hd ⟨0, _, [], [], U, _, _, R, aa, rfl, (zL hN rfl f), (zU hN rfl), (zU hN rfl), (zU hN rfl), (Nat.zero_le _), X, StEq.start, (fun e he => by cases he), (Nat.le_refl _), ae, hb, (Nat.le_refl _), hr, hlab, hown, hro, Q, af⟩ ?_
  rintro _ aq ap ai ak ⟨i, S, M, T, kk, ah, C, FK, FD, rfl, al, an, am, ao, hi, hok, hst, aj, hTl, hdj, hb, ar, hr, hlab, hown, hro, hK, hD⟩
  have := hb.size
  refine zF fun _ F => zF fun _ J2 => zH (zG (zC ai rfl am) (zG (zC ai rfl al) (op_len_rd Try.underlying82 (zA ai rfl) hro (op_lss (zA ai rfl) (zA ai rfl) (fun au => ?_) (fun au => ?_)))))
  ·
   refine zB (J2 _ _ (wp_cond_true (zA ai rfl) (wp_skip (F _ _ (zF fun _ F => wp_block (zF fun _ J2 => zH ?_))))))
   have hio : i < ops.length := by omega
   have htg : RdC ap 0 w.heap.size 1 (oV (ops.getD i dK)) (oT (ops.getD i dK)).length ((oT (ops.getD i dK)).map u16v) := (hto _ (getD_mem (d := dK) hio)).keep0 (zQ hb)
   have hxo := hxl _ (getD_mem (d := dK) hio)
   have hwo := hwf _ (getD_mem (d := dK) hio)
   have hwok := hwo.1
   have hwos := hwo.2
   have av := tmod9 (oK (ops.getD i dK))
   refine zG (zC ai rfl al) (zG (zC ai rfl am) (zh slt82 (zA ai rfl) hro (zA ai rfl) zx zx ?_))
   intro ay az ax aB aw
   refine zX (cs := [(.int .i64 (oK (ops.getD i dK))), (.int .i64 (oS (ops.getD i dK))), (.string (bs (oX (ops.getD i dK)))), (oV (ops.getD i dK))]) agg84 rfl (zA ai rfl) (fun j u hu => aw j u (by have := (List.getElem?_eq_some_iff.1 hu).1; simpa using this) ((el_ok (i := i) zx zx) j u hu)) (op_alloc (cs := [(.int .i64 0), (.int .i64 0), (.string (bs [])), (.slice none 0 0)]) zero84 rfl ?_)
   intro aF aD aH aG aC aE
   have aI : ¬ FK aD := fun hf => by have := (hK.lt _ hf).2; omega
   have aJ : ¬ FD aD := fun hf => by have := (hD.lt _ hf).2; omega
   obtain ⟨hb, _⟩ := yE hb aE
   have hlab := all9 hlab fun _ h => h.keep0 aE
   have hown := all9 hown fun _ h => h.keep0 aE
   have htg := htg.keep0 aE
   refine zZ size84 (zA ai rfl) (zA ai rfl) rfl (by simp only [yA, yB, yC, yD, htg.one]; try rfl) aC rfl ?_
   intro aL aC aK
   have := aK.size
   have hr := (hr.keep0 aE).keep aK sR
   have hlab := all9 hlab fun _ h => h.keep aK sR
   have hown := all9 hown fun _ h => h.keep aK sR
   have hro := (hro.keep0 aE).keep aK sR
   have hK := (hK.kz aE).keepG (Gr.of aK) (Dj.one aI)
   have hD := (hD.kz aE).keepG (Gr.of aK) (Dj.one aJ)
   have htg := htg.keep aK sR
   have hb := below_step1 hb aK hb.size zx
   refine zB (J2 _ _ (zF fun _ J2 => zF fun _ J3 => zH (zM fld84_2 (zA ai rfl) (zN one9 (zA ai rfl) (aC.cell rfl) (op_len_str Try.underlying9 (zA ai rfl) (op_gtr (zA ai rfl) rfl (fun aM => ?_) (fun aM => ?_)))))))
   ·
    refine zG (zA ai rfl) (zR (j := 4) (dj := 66) (b := false) rfl rfl rfl (zA ai rfl) rfl rfl (zR (j := 4) (dj := 66) (b := false) rfl rfl rfl (zA ai rfl) rfl rfl ?_))
    refine zR (j := 4) (dj := 66) (b := false) rfl rfl rfl (zA ai rfl) rfl rfl (zR (j := 4) (dj := 66) (b := false) rfl rfl rfl (zA ai rfl) rfl rfl (zc (zA ai rfl) rfl (zB (J3 _ _ (wp_cond_true (zA ai rfl) (zF fun _ J3 => zH (zD rfl (zB (J3 _ _ (wp_ret (zO (zb (zO (zO (zb (zO ( (ret1 rfl ak (zA ai rfl) ⟨_, rfl, ?_⟩))))))))))))))))))
    exact ⟨hb, rfl⟩
   refine zG (zA ai rfl) (zS (j := 4) (dj := 66) (b := false) rfl rfl rfl (zA ai rfl) (zM fld84_3 (zA ai rfl) (zS (j := 4) (dj := 66) (b := false) rfl rfl rfl (zA ai rfl) (zN one45 (zA ai rfl) (aC.cell rfl) (zS (j := 4) (dj := 66) (b := false) rfl rfl rfl (zA ai rfl) (op_len_rd Try.underlying45 (zA ai rfl) htg (zS (j := 4) (dj := 66) (b := false) rfl rfl rfl (zA ai rfl) (op_gtr (zA ai rfl) rfl (fun aN => ?_) (fun aN => ?_)))))))))
   ·
    refine zd (zA ai rfl) (zA ai rfl) (zB (J3 _ _ (wp_cond_true (zA ai rfl) (zF fun _ J3 => zH (zD rfl (zB (J3 _ _ (wp_ret (zO (zb (zO (zO (zb (zO ( (ret1 rfl ak (zA ai rfl) ⟨_, rfl, ?_⟩))))))))))))))))
    exact ⟨hb, rfl⟩
   refine zd (zA ai rfl) (zA ai rfl) (zB (J3 _ _ (wp_cond_false (zA ai rfl) (wp_skip (J2 _ _ (zF fun _ J2 => zH (zM fld84_1 (zA ai rfl) (zN one3 (zA ai rfl) (aC.cell rfl) (zD (zA ai rfl) (zB (J2 _ _ (seq_join1 (N := 214) (fun az_ w' => (Sl az_ 1 vo) ∧ (Sl az_ 5 (ptr kk 0)) ∧ (Sl az_ 7 (ptr Y 0)) ∧ (Sl az_ 9 (.int .i64 ((i : Nat) : Int))) ∧ (Sl az_ 10 (ptr aD 0)) ∧ (Sl az_ 11 (.int .i64 (oS (ops.getD i dK)))) ∧ (Sl az_ 12 (.bool (inS S (oS (ops.getD i dK))))) ∧ (Below w.heap.size w w') ∧ (aL.heap.size ≤ w'.heap.size) ∧ (RdC w' 0 w.heap.size 2 vL L.length (L.flatMap cells2)) ∧ (∀ x9 ∈ (L.map Prod.fst), RdC w' 0 w.heap.size 1 x9.1 x9.2.length (x9.2.map u16v)) ∧ (∀ x9 ∈ (L.map Prod.snd), RdC w' 0 w.heap.size 1 x9.1 x9.2.length (x9.2.map u16v)) ∧ (RdC w' 0 w.heap.size 4 vo ops.length (ops.flatMap cellsOK)) ∧ (KernR w' w.heap.size kk S M FK) ∧ (DbX w' w.heap.size Y S T ah C FD) ∧ (RdC w' 0 w.heap.size 1 (oV (ops.getD i dK)) (oT (ops.getD i dK)).length ((oT (ops.getD i dK)).map u16v)) ∧ (Bx w' aD 84 [(.int .i64 (oK (ops.getD i dK))), (.int .i64 (oS (ops.getD i dK))), (.string (bs (oX (ops.getD i dK)))), (oV (ops.getD i dK))])) (fun aO => ?_) ?_))))))))))))
   ·
    refine zF fun _ J2 => zH ?_
    obtain ⟨mp, aP, hxd⟩ := hD.bx
    have hi_dx := hxd.lt
    have aQ := hD.own
    have aR := hD.len
    have aS := hok.1
    refine zG (zA ai rfl) (op_geq (zA ai rfl) rfl (fun aT => ?_) (fun aT => ?_))
    ·
     refine zG (zA ai rfl) (zS (j := 2) (dj := 76) (b := true) rfl rfl rfl (zA ai rfl) (zG (zA ai rfl) (zS (j := 2) (dj := 76) (b := true) rfl rfl rfl (zA ai rfl) (zG (zC ai rfl an) (zS (j := 2) (dj := 76) (b := true) rfl rfl rfl (zA ai rfl) (op_nil (zA ai rfl) (zS (j := 2) (dj := 76) (b := true) rfl rfl rfl (zA ai rfl) (zM fld72_1 (zA ai rfl) ?_))))))))
     refine zS (j := 2) (dj := 76) (b := true) rfl rfl rfl (zA ai rfl) (zN one69 (zA ai rfl) (hxd.cell rfl) (zS (j := 2) (dj := 76) (b := true) rfl rfl rfl (zA ai rfl) (op_len_rd Try.underlying69 (zA ai rfl) aQ.rdw (zS (j := 2) (dj := 76) (b := true) rfl rfl rfl (zA ai rfl) (op_cmp (b := (decide ((oS (ops.getD i dK)) < ((S.length : Nat) : Int)))) (zA ai rfl) (zA ai rfl) (b_lss rfl) (zc (zA ai rfl) (zA ai rfl) (zD (zA ai rfl) (zB (J2 _ _ ?_)))))))))
     exact aO _ _ _ ai ak ⟨(zL ai rfl al), (zL ai rfl ao), (zL ai rfl an), (zL ai rfl am), (zU ai rfl), (zU ai rfl), (zU ai rfl).trans (congrArg Value.bool (in_eq zx)), hb, zx, hr, hlab, hown, hro, hK, hD, htg, aC⟩
    refine zG (zA ai rfl) (zR (j := 2) (dj := 76) (b := true) rfl rfl rfl (zA ai rfl) rfl rfl ?_)
    refine zR (j := 2) (dj := 76) (b := true) rfl rfl rfl (zA ai rfl) rfl rfl (zR (j := 2) (dj := 76) (b := true) rfl rfl rfl (zA ai rfl) rfl rfl (zR (j := 2) (dj := 76) (b := true) rfl rfl rfl (zA ai rfl) rfl rfl (zR (j := 2) (dj := 76) (b := true) rfl rfl rfl (zA ai rfl) rfl rfl (zR (j := 2) (dj := 76) (b := true) rfl rfl rfl (zA ai rfl) rfl rfl (zR (j := 2) (dj := 76) (b := true) rfl rfl rfl (zA ai rfl) rfl rfl (zd (zA ai rfl) rfl (zD (zA ai rfl) (zB (J2 _ _ ?_)))))))))
    exact aO _ _ _ ai ak ⟨(zL ai rfl al), (zL ai rfl ao), (zL ai rfl an), (zL ai rfl am), (zU ai rfl), (zU ai rfl), (zU ai rfl).trans (congrArg Value.bool (in_no zx)), hb, zx, hr, hlab, hown, hro, hK, hD, htg, aC⟩
   rintro a3 a0 aT aZ ⟨aX, aW, aU, aY, a1, aV, a2, hb, a4, hr, hlab, hown, hro, hK, hD, htg, aC⟩
   have := hb.size
   refine seq_join1 (N := 214) (fun az_ w' => ∃ (S2 : List KS) (M2 : List (List UInt8 × Int)) (T2 : ST) (a7 : Nat) (a9 : Value) (C2 : List DC) (a8 a6 : Nat → Prop), (Sl az_ 1 vo) ∧ (Sl az_ 7 (ptr Y 0)) ∧ (Sl az_ 9 (.int .i64 ((i : Nat) : Int))) ∧ (Sl az_ 5 (ptr a7 0)) ∧ (SOk S2) ∧ (StEq M2 T2) ∧ (∀ e ∈ T2, e.1.length ≤ 100) ∧ (T2.length ≤ i + 1) ∧ (Dj a8 a6) ∧ (Below w.heap.size w w') ∧ (a0.heap.size ≤ w'.heap.size) ∧ (RdC w' 0 w.heap.size 2 vL L.length (L.flatMap cells2)) ∧ (∀ x9 ∈ (L.map Prod.fst), RdC w' 0 w.heap.size 1 x9.1 x9.2.length (x9.2.map u16v)) ∧ (∀ x9 ∈ (L.map Prod.snd), RdC w' 0 w.heap.size 1 x9.1 x9.2.length (x9.2.map u16v)) ∧ (RdC w' 0 w.heap.size 4 vo ops.length (ops.flatMap cellsOK)) ∧ (KernR w' w.heap.size a7 S2 M2 a8) ∧ (DbX w' w.heap.size Y S2 T2 a9 C2 a6)) (fun a5 => ?_) ?_
   ·
    refine zF fun _ J2 => zF fun _ J3 => zH (zM fld84_0 (zC aT rfl a1) ?_)
    refine zN one3 (zA aT rfl) (aC.cell rfl) (op_rem (r := ((oK (ops.getD i dK)).tmod 9)) (zA aT rfl) rfl zz rfl (op_add (zA aT rfl) rfl (add64 zx) (op_rem (r := (((oK (ops.getD i dK)).tmod 9 + 9).tmod 9)) (zA aT rfl) rfl zz rfl (zB (J3 _ _ (wp_block (zF fun _ J3 => zF fun _ J4 => zH (op_eql (zA aT rfl) rfl (fun ba => ?_) (fun ba => ?_)))))))))
    ·
     refine zD (zA aT rfl) (zB (J4 _ _ (wp_cond_true (zA aT rfl) (wp_skip (J3 _ _ (wp_cond_true (zA aT rfl) (seq_join1 (N := 214) (fun az_ w' => (Sl az_ 1 vo) ∧ (Sl az_ 5 (ptr kk 0)) ∧ (Sl az_ 7 (ptr Y 0)) ∧ (Sl az_ 9 (.int .i64 ((i : Nat) : Int))) ∧ (Sl az_ 11 (.int .i64 (oS (ops.getD i dK)))) ∧ (Sl az_ 13 (.bool (decide (0 < (atS S (oS (ops.getD i dK))).texts.length)))) ∧ (Below w.heap.size w w') ∧ (a0.heap.size ≤ w'.heap.size) ∧ (RdC w' 0 w.heap.size 2 vL L.length (L.flatMap cells2)) ∧ (∀ x9 ∈ (L.map Prod.fst), RdC w' 0 w.heap.size 1 x9.1 x9.2.length (x9.2.map u16v)) ∧ (∀ x9 ∈ (L.map Prod.snd), RdC w' 0 w.heap.size 1 x9.1 x9.2.length (x9.2.map u16v)) ∧ (RdC w' 0 w.heap.size 4 vo ops.length (ops.flatMap cellsOK)) ∧ (KernR w' w.heap.size kk S M FK) ∧ (DbX w' w.heap.size Y S T ah C FD) ∧ (RdC w' 0 w.heap.size 1 (oV (ops.getD i dK)) (oT (ops.getD i dK)).length ((oT (ops.getD i dK)).map u16v)) ∧ (Bx w' aD 84 [(.int .i64 (oK (ops.getD i dK))), (.int .i64 (oS (ops.getD i dK))), (.string (bs (oX (ops.getD i dK)))), (oV (ops.getD i dK))])) (fun bb => ?_) ?_)))))))
     ·
      refine zF fun _ J3 => zH (zG (zC aT rfl a2) (zG (zA aT rfl) ?_))
      skip
      rcases Bool.eq_false_or_eq_true ((inS S (oS (ops.getD i dK)))) with bc | bc
      ·
       rw [bc]
       have hin := bc
       obtain ⟨mp, aP, hxd⟩ := hD.bx
       have hi_dx := hxd.lt
       have aQ := hD.own
       have aR := hD.len
       have aS := hok.1
       have bd := inS_iff.1 hin
       have be : (oS (ops.getD i dK)).toNat < S.length := by omega
       obtain ⟨bg, bh, bf⟩ := hD.at_ be
       have bi : (atS S (oS (ops.getD i dK))).texts.length = (S.getD (oS (ops.getD i dK)).toNat default).texts.length := by rw [atS_in hin]
       refine zS (j := 1) (dj := 133) (b := true) rfl rfl rfl (zA aT rfl) ?_
       refine zG (zC aT rfl aU) (zS (j := 1) (dj := 133) (b := true) rfl rfl rfl (zA aT rfl) (op_nil (zA aT rfl) (zS (j := 1) (dj := 133) (b := true) rfl rfl rfl (zA aT rfl) (zM fld72_1 (zA aT rfl) (zS (j := 1) (dj := 133) (b := true) rfl rfl rfl (zA aT rfl) (zN one69 (zA aT rfl) (hxd.cell rfl) (zS (j := 1) (dj := 133) (b := true) rfl rfl rfl (zA aT rfl) (zG (zC aT rfl aV) (zS (j := 1) (dj := 133) (b := true) rfl rfl rfl (zA aT rfl) (zh slt69 (zA aT rfl) aQ.rdw (zA aT rfl) zx zx ?_))))))))))
       intro bn bm bk bl bj
       refine zS (j := 1) (dj := 133) (b := true) rfl rfl rfl (zA aT rfl) (zM fld75_2 (zA aT rfl) ?_)
       refine zS (j := 1) (dj := 133) (b := true) rfl rfl rfl (zA aT rfl) (zN (v := (C.getD (oS (ops.getD i dK)).toNat default).po) one26 (zA aT rfl) (bj 2 _ zz ((el_ds (i := (oS (ops.getD i dK)).toNat) zx zx) 2 _ rfl)) (zS (j := 1) (dj := 133) (b := true) rfl rfl rfl (zA aT rfl) (op_len_rd Try.underlying26 (zA aT rfl) bf.rdw (zS (j := 1) (dj := 133) (b := true) rfl rfl rfl (zA aT rfl) (op_cmp (b := (decide (0 < (((S.getD (oS (ops.getD i dK)).toNat default).texts.length : Nat) : Int)))) (zA aT rfl) rfl (b_gtr rfl) (zc (zA aT rfl) (zA aT rfl) (zD (zA aT rfl) (zB (J3 _ _ ?_)))))))))
       exact bb _ _ _ aT aZ ⟨(zL aT rfl aX), (zL aT rfl aW), (zL aT rfl aU), (zL aT rfl aY), (zL aT rfl aV), (zU aT rfl).trans (congrArg Value.bool (had_in bc)), hb, zx, hr, hlab, hown, hro, hK, hD, htg, aC⟩
      rw [bc]
      skip
      refine zR (j := 1) (dj := 133) (b := true) rfl rfl rfl (zA aT rfl) rfl rfl (zR (j := 1) (dj := 133) (b := true) rfl rfl rfl (zA aT rfl) rfl rfl (zR (j := 1) (dj := 133) (b := true) rfl rfl rfl (zA aT rfl) rfl rfl (zR (j := 1) (dj := 133) (b := true) rfl rfl rfl (zA aT rfl) rfl rfl ?_)))
      refine zR (j := 1) (dj := 133) (b := true) rfl rfl rfl (zA aT rfl) rfl rfl (zR (j := 1) (dj := 133) (b := true) rfl rfl rfl (zA aT rfl) rfl rfl (zR (j := 1) (dj := 133) (b := true) rfl rfl rfl (zA aT rfl) rfl rfl (zR (j := 1) (dj := 133) (b := true) rfl rfl rfl (zA aT rfl) rfl rfl (zR (j := 1) (dj := 133) (b := true) rfl rfl rfl (zA aT rfl) rfl rfl (zR (j := 1) (dj := 133) (b := true) rfl rfl rfl (zA aT rfl) rfl rfl (zd (zA aT rfl) rfl (zD (zA aT rfl) (zB (J3 _ _ ?_)))))))))
      exact bb _ _ _ aT aZ ⟨(zL aT rfl aX), (zL aT rfl aW), (zL aT rfl aU), (zL aT rfl aY), (zL aT rfl aV), (zU aT rfl).trans (congrArg Value.bool (had_out bc)), hb, zx, hr, hlab, hown, hro, hK, hD, htg, aC⟩
     rintro br bt bb bm ⟨bn, bl, bj, bp, bk, bo, hb, bq, hr, hlab, hown, hro, hK, hD, htg, aC⟩
     have := hb.size
     refine zF fun _ J3 => zF fun _ J4 => zH (zG (zC bb rfl bl) (zG (zC bb rfl bk) (zj ok42 (DoneR (oS (ops.getD i dK)) zx hok.1 hK) ⟨(zA bb rfl), ⟨(zA bb rfl), trivial⟩⟩ ?_)))
     rintro _ bv ⟨bq, rfl, bt, br, bu⟩
     have bv := hD.lt
     have bw := aC.lt
     have hK_old := hK
     have := bq.size
     have hr := hr.keepG bq (fun k hk => .inr (by have := hK_old.lt k hk; omega))
     have hlab := all9 hlab fun _ h => h.keepG bq (fun k hk => .inr (by have := hK_old.lt k hk; omega))
     have hown := all9 hown fun _ h => h.keepG bq (fun k hk => .inr (by have := hK_old.lt k hk; omega))
     have hro := hro.keepG bq (fun k hk => .inr (by have := hK_old.lt k hk; omega))
     have hD := hD.keepG bq hdj.symm
     have hb := below_stepG hb bq hb.size (fun k hk => (hK_old.lt k hk).1)
     have bq : Dj FD bt := Dj.stepF bu (fun k hk => (bv k hk).2) hdj.symm
     refine zG (zC bb rfl bo) (op_neb Try.underlying4 (zA bb rfl) (zA bb rfl) ?_)
     rcases Bool.eq_false_or_eq_true (((decide (0 < (atS S (oS (ops.getD i dK))).texts.length)) != (decide (0 < (atS S (oS (ops.getD i dK))).texts.length)))) with bu | bu
     ·
      simp at bu
     rw [bu]
     refine zB (J4 _ _ (wp_cond_false (zA bb rfl) (wp_skip (J3 _ _ (zF fun _ J3 => zH (zG (zC bb rfl bo) (zB (J3 _ _ (wp_cond_split (zA bb rfl) (fun bv => ?_) (fun bv => ?_))))))))))
     ·
      have bv := of_decide_eq_true bv
      have hin := had_inS bv
      obtain ⟨mp, aP, hxd⟩ := hD.bx
      have hi_dx := hxd.lt
      have aQ := hD.own
      have aR := hD.len
      have aS := hok.1
      have bd := inS_iff.1 hin
      have be : (oS (ops.getD i dK)).toNat < S.length := by omega
      obtain ⟨bg, bh, bf⟩ := hD.at_ be
      have bi : (atS S (oS (ops.getD i dK))).texts.length = (S.getD (oS (ops.getD i dK)).toNat default).texts.length := by rw [atS_in hin]
      refine reg_from mixed ?_
      intro bw bo
      obtain ⟨hb, _⟩ := yE hb bo
      have hlab := all9 hlab fun _ h => h.keep0 bo
      have hown := all9 hown fun _ h => h.keep0 bo
      have hD := hD.kz bo
      have br := br.kz bo
      have hxd := hxd.keep0 bo
      have aQ := aQ.keep0 bo
      have bf := bf.keep0 bo
      refine from_still (m := 16) 16 (hd := [_, _, _, _, _, _, _, _, _, _, _, _, _, _, _, _]) zy rfl rfl (st_step rfl (fun _ h9 => zG (zC bb rfl bj) h9) ?_)
      refine st_step rfl (fun _ h9 => op_nil (zA bb rfl) h9) (st_step rfl (fun _ h9 => zM fld72_1 (zA bb rfl) h9) (st_step rfl (fun _ h9 => zN one69 (zA bb rfl) (hxd.cell rfl) h9) (st_step rfl (fun _ h9 => zG (zC bb rfl bk) h9) (st_step rfl (fun _ h9 => zG (zC bb rfl bj) h9) (st_step rfl (fun _ h9 => op_nil (zA bb rfl) h9) (st_step rfl (fun _ h9 => zM fld72_1 (zA bb rfl) h9) (st_step rfl (fun _ h9 => zN one69 (zA bb rfl) (hxd.cell rfl) h9) (st_step rfl (fun _ h9 => zG (zC bb rfl bk) h9) (st_index_rd slt69 (zA bb rfl) aQ.rdw (zA bb rfl) zx zx ?_)))))))))
      intro bz bB bA bw bk
      refine st_step rfl (fun _ h9 => zM fld75_2 (zA bb rfl) h9) (st_step rfl (fun _ h9 => zN (v := (C.getD (oS (ops.getD i dK)).toNat default).po) one26 (zA bb rfl) (bk 2 _ zz ((el_ds (i := (oS (ops.getD i dK)).toNat) zx zx) 2 _ rfl)) h9) (st_step rfl (fun _ h9 => op_slice_cutS (k := 1) slt26 (zA bb rfl) bf rfl zx zx h9) ?_))
      have hD_b := hD
      obtain ⟨bg, bh, _⟩ := hD_b.at_ be
      have bk : Dj (Bl ah) bt := fun y hy h => bq.symm y h (hD_b.sub y hy)
      refine st_index_own (i := (oS (ops.getD i dK)).toNat) slt69 (zA bb rfl) aQ (zA bb rfl) zx zx ?_
      intro bB bA bz bw
      refine st_step rfl (fun _ h9 => zM fld75_2 (zA bb rfl) h9) (st_nil (from_seq (tl := [_]) zz zy rfl ?_))
      have bz := aQ
      refine op_store_own (vs := [(cutS 1 ((C.getD (oS (ops.getD i dK)).toNat default).po) 1)]) size26 (zA bb rfl) (zA bb rfl) (bf.cutO (k := 1) zx).cl rfl (by simp only [yA, yB, yC, yD, (bf.cutO (k := 1) zx).one]; try rfl) bz (bw.fld 2) (by have := bz.1; simp only [List.length_cons, List.length_nil]; omega) ?_
      intro bB bA bw
      have := bw.size
      have hr := (hr.keep0 bo).keepO bz bw zx
      have hlab := all9 hlab fun _ h => h.keepO bz bw zx
      have hown := all9 hown fun _ h => h.keepO bz bw zx
      have hro := (hro.keep0 bo).keepO bz bw zx
      have br := br.keepG (Gr.of bw) bk.symm
      have bf := bf.keepT bz bw zz
      have hb := below_stepO hb bz bw hb.size zx
      have bA : Own bB w.heap.size 75 4 ah S.length (((C.set (oS (ops.getD i dK)).toNat (⟨(C.getD (oS (ops.getD i dK)).toNat default).la, (C.getD (oS (ops.getD i dK)).toNat default).ow, (cutS 1 ((C.getD (oS (ops.getD i dK)).toNat default).po) 1)⟩ : DC))).flatMap cellsD) := by exact bA.cast (by simp) (set_dp zx)
      refine zB (J2 _ _ ?_)
      exact a5 _ _ _ bb bm ⟨doneS S (oS (ops.getD i dK)), M, T, kk, ah, (C.set (oS (ops.getD i dK)).toNat (⟨(C.getD (oS (ops.getD i dK)).toNat default).la, (C.getD (oS (ops.getD i dK)).toNat default).ow, (cutS 1 ((C.getD (oS (ops.getD i dK)).toNat default).po) 1)⟩ : DC)), bt, (fun y => FD y ∨ PartD (⟨(C.getD (oS (ops.getD i dK)).toNat default).la, (C.getD (oS (ops.getD i dK)).toNat default).ow, (cutS 1 ((C.getD (oS (ops.getD i dK)).toNat default).po) 1)⟩ : DC) y), (zL bb rfl bn), (zL bb rfl bj), (zL bb rfl bp), (zL bb rfl bl), (hok.done (oS (ops.getD i dK))), hst, aj, zx, (fun y hy hf => hf.elim (bq.symm y hy) (fun hp => hp.elim (fun z => bq.symm y hy (hD_b.part be y (.inl z))) (fun hp => hp.elim (fun z => bq.symm y hy (hD_b.part be y (.inr (.inl z)))) (fun z => bq.symm y hy (hD_b.part be y (.inr (.inr ((bf.cut_ob (k := 1)).symm.trans z)))))))), hb, zx, hr, hlab, hown, hro, br, (by rw [doneS_in hin]; exact hD_b.turn be bw (bA.cast zx rfl) ⟨bg.keepG (Gr.of bw) (fun y hy h => bg.notOwn hD_b.own zz y hy h), bh.keepG (Gr.of bw) (fun y hy h => bh.notOwn hD_b.own zz y hy h), (by have h9 := (bf.cutO (k := 1) zx); exact (h9.cast (by rw [List.length_drop]) (by rw [Nat.mul_one, List.map_drop])))⟩)⟩
     have bv := of_decide_eq_false bv
     refine wp_skip (J2 _ _ ?_)
     exact a5 _ _ _ bb bm ⟨doneS S (oS (ops.getD i dK)), M, T, kk, ah, C, bt, FD, (zL bb rfl bn), (zL bb rfl bj), (zL bb rfl bp), (zL bb rfl bl), (hok.done (oS (ops.getD i dK))), hst, aj, zx, bq.symm, hb, zx, hr, hlab, hown, hro, br, (by rw [doneS_none zx]; exact hD)⟩
    refine zD (zA aT rfl) (zB (J4 _ _ (wp_cond_false (zA aT rfl) (zH (op_eql (zA aT rfl) rfl (fun bb => ?_) (fun bb => ?_))))))
    ·
     refine zD (zA aT rfl) (zB (J3 _ _ (wp_cond_true (zA aT rfl) (seq_join1 (N := 214) (fun az_ w' => (Sl az_ 1 vo) ∧ (Sl az_ 5 (ptr kk 0)) ∧ (Sl az_ 7 (ptr Y 0)) ∧ (Sl az_ 9 (.int .i64 ((i : Nat) : Int))) ∧ (Sl az_ 11 (.int .i64 (oS (ops.getD i dK)))) ∧ (Sl az_ 13 (.bool (decide (0 < (atS S (oS (ops.getD i dK))).texts.length)))) ∧ (Below w.heap.size w w') ∧ (a0.heap.size ≤ w'.heap.size) ∧ (RdC w' 0 w.heap.size 2 vL L.length (L.flatMap cells2)) ∧ (∀ x9 ∈ (L.map Prod.fst), RdC w' 0 w.heap.size 1 x9.1 x9.2.length (x9.2.map u16v)) ∧ (∀ x9 ∈ (L.map Prod.snd), RdC w' 0 w.heap.size 1 x9.1 x9.2.length (x9.2.map u16v)) ∧ (RdC w' 0 w.heap.size 4 vo ops.length (ops.flatMap cellsOK)) ∧ (KernR w' w.heap.size kk S M FK) ∧ (DbX w' w.heap.size Y S T ah C FD) ∧ (RdC w' 0 w.heap.size 1 (oV (ops.getD i dK)) (oT (ops.getD i dK)).length ((oT (ops.getD i dK)).map u16v)) ∧ (Bx w' aD 84 [(.int .i64 (oK (ops.getD i dK))), (.int .i64 (oS (ops.getD i dK))), (.string (bs (oX (ops.getD i dK)))), (oV (ops.getD i dK))])) (fun bj => ?_) ?_))))
     ·
      refine zF fun _ J3 => zH (zG (zC aT rfl a2) (zG (zA aT rfl) ?_))
      skip
      rcases Bool.eq_false_or_eq_true ((inS S (oS (ops.getD i dK)))) with bc | bc
      ·
       rw [bc]
       have hin := bc
       obtain ⟨mp, aP, hxd⟩ := hD.bx
       have hi_dx := hxd.lt
       have aQ := hD.own
       have aR := hD.len
       have aS := hok.1
       have bd := inS_iff.1 hin
       have be : (oS (ops.getD i dK)).toNat < S.length := by omega
       obtain ⟨bg, bh, bf⟩ := hD.at_ be
       have bi : (atS S (oS (ops.getD i dK))).texts.length = (S.getD (oS (ops.getD i dK)).toNat default).texts.length := by rw [atS_in hin]
       refine zS (j := 1) (dj := 133) (b := true) rfl rfl rfl (zA aT rfl) ?_
       refine zG (zC aT rfl aU) (zS (j := 1) (dj := 133) (b := true) rfl rfl rfl (zA aT rfl) (op_nil (zA aT rfl) (zS (j := 1) (dj := 133) (b := true) rfl rfl rfl (zA aT rfl) (zM fld72_1 (zA aT rfl) (zS (j := 1) (dj := 133) (b := true) rfl rfl rfl (zA aT rfl) (zN one69 (zA aT rfl) (hxd.cell rfl) (zS (j := 1) (dj := 133) (b := true) rfl rfl rfl (zA aT rfl) (zG (zC aT rfl aV) (zS (j := 1) (dj := 133) (b := true) rfl rfl rfl (zA aT rfl) (zh slt69 (zA aT rfl) aQ.rdw (zA aT rfl) zx zx ?_))))))))))
       intro bm bo bn bl bk
       refine zS (j := 1) (dj := 133) (b := true) rfl rfl rfl (zA aT rfl) (zM fld75_2 (zA aT rfl) ?_)
       refine zS (j := 1) (dj := 133) (b := true) rfl rfl rfl (zA aT rfl) (zN (v := (C.getD (oS (ops.getD i dK)).toNat default).po) one26 (zA aT rfl) (bk 2 _ zz ((el_ds (i := (oS (ops.getD i dK)).toNat) zx zx) 2 _ rfl)) (zS (j := 1) (dj := 133) (b := true) rfl rfl rfl (zA aT rfl) (op_len_rd Try.underlying26 (zA aT rfl) bf.rdw (zS (j := 1) (dj := 133) (b := true) rfl rfl rfl (zA aT rfl) (op_cmp (b := (decide (0 < (((S.getD (oS (ops.getD i dK)).toNat default).texts.length : Nat) : Int)))) (zA aT rfl) rfl (b_gtr rfl) (zc (zA aT rfl) (zA aT rfl) (zD (zA aT rfl) (zB (J3 _ _ ?_)))))))))
       exact bj _ _ _ aT aZ ⟨(zL aT rfl aX), (zL aT rfl aW), (zL aT rfl aU), (zL aT rfl aY), (zL aT rfl aV), (zU aT rfl).trans (congrArg Value.bool (had_in bc)), hb, zx, hr, hlab, hown, hro, hK, hD, htg, aC⟩
      rw [bc]
      skip
      refine zR (j := 1) (dj := 133) (b := true) rfl rfl rfl (zA aT rfl) rfl rfl (zR (j := 1) (dj := 133) (b := true) rfl rfl rfl (zA aT rfl) rfl rfl (zR (j := 1) (dj := 133) (b := true) rfl rfl rfl (zA aT rfl) rfl rfl (zR (j := 1) (dj := 133) (b := true) rfl rfl rfl (zA aT rfl) rfl rfl ?_)))
      refine zR (j := 1) (dj := 133) (b := true) rfl rfl rfl (zA aT rfl) rfl rfl (zR (j := 1) (dj := 133) (b := true) rfl rfl rfl (zA aT rfl) rfl rfl (zR (j := 1) (dj := 133) (b := true) rfl rfl rfl (zA aT rfl) rfl rfl (zR (j := 1) (dj := 133) (b := true) rfl rfl rfl (zA aT rfl) rfl rfl (zR (j := 1) (dj := 133) (b := true) rfl rfl rfl (zA aT rfl) rfl rfl (zR (j := 1) (dj := 133) (b := true) rfl rfl rfl (zA aT rfl) rfl rfl (zd (zA aT rfl) rfl (zD (zA aT rfl) (zB (J3 _ _ ?_)))))))))
      exact bj _ _ _ aT aZ ⟨(zL aT rfl aX), (zL aT rfl aW), (zL aT rfl aU), (zL aT rfl aY), (zL aT rfl aV), (zU aT rfl).trans (congrArg Value.bool (had_out bc)), hb, zx, hr, hlab, hown, hro, hK, hD, htg, aC⟩
     rintro br bt bc bm ⟨bp, bl, bj, bo, bk, bn, hb, bq, hr, hlab, hown, hro, hK, hD, htg, aC⟩
     have := hb.size
     refine zF fun _ J3 => zF fun _ J4 => zH (zG (zC bc rfl bl) (zG (zC bc rfl bk) (zj ok42 (DoneR (oS (ops.getD i dK)) zx hok.1 hK) ⟨(zA bc rfl), ⟨(zA bc rfl), trivial⟩⟩ ?_)))
     rintro _ bz ⟨bq, rfl, bt, br, bw⟩
     have bz := hD.lt
     have bA := aC.lt
     have hK_old := hK
     have := bq.size
     have hr := hr.keepG bq (fun k hk => .inr (by have := hK_old.lt k hk; omega))
     have hlab := all9 hlab fun _ h => h.keepG bq (fun k hk => .inr (by have := hK_old.lt k hk; omega))
     have hown := all9 hown fun _ h => h.keepG bq (fun k hk => .inr (by have := hK_old.lt k hk; omega))
     have hro := hro.keepG bq (fun k hk => .inr (by have := hK_old.lt k hk; omega))
     have hD := hD.keepG bq hdj.symm
     have hb := below_stepG hb bq hb.size (fun k hk => (hK_old.lt k hk).1)
     have bq : Dj FD bt := Dj.stepF bw (fun k hk => (bz k hk).2) hdj.symm
     refine zG (zC bc rfl bn) (op_neb Try.underlying4 (zA bc rfl) (zA bc rfl) ?_)
     rcases Bool.eq_false_or_eq_true (((decide (0 < (atS S (oS (ops.getD i dK))).texts.length)) != (decide (0 < (atS S (oS (ops.getD i dK))).texts.length)))) with bu | bu
     ·
      simp at bu
     rw [bu]
     refine zB (J4 _ _ (wp_cond_false (zA bc rfl) (wp_skip (J3 _ _ (zF fun _ J3 => zH (zG (zC bc rfl bn) (zB (J3 _ _ (wp_cond_split (zA bc rfl) (fun bv => ?_) (fun bv => ?_))))))))))
     ·
      have bv := of_decide_eq_true bv
      have hin := had_inS bv
      obtain ⟨mp, aP, hxd⟩ := hD.bx
      have hi_dx := hxd.lt
      have aQ := hD.own
      have aR := hD.len
      have aS := hok.1
      have bd := inS_iff.1 hin
      have be : (oS (ops.getD i dK)).toNat < S.length := by omega
      obtain ⟨bg, bh, bf⟩ := hD.at_ be
      have bi : (atS S (oS (ops.getD i dK))).texts.length = (S.getD (oS (ops.getD i dK)).toNat default).texts.length := by rw [atS_in hin]
      refine reg_from mixed ?_
      intro bu bn
      obtain ⟨hb, _⟩ := yE hb bn
      have hlab := all9 hlab fun _ h => h.keep0 bn
      have hown := all9 hown fun _ h => h.keep0 bn
      have hD := hD.kz bn
      have br := br.kz bn
      have hxd := hxd.keep0 bn
      have aQ := aQ.keep0 bn
      have bf := bf.keep0 bn
      refine from_still (m := 16) 16 (hd := [_, _, _, _, _, _, _, _, _, _, _, _, _, _, _, _]) zy rfl rfl (st_step rfl (fun _ h9 => zG (zC bc rfl bj) h9) ?_)
      refine st_step rfl (fun _ h9 => op_nil (zA bc rfl) h9) (st_step rfl (fun _ h9 => zM fld72_1 (zA bc rfl) h9) (st_step rfl (fun _ h9 => zN one69 (zA bc rfl) (hxd.cell rfl) h9) (st_step rfl (fun _ h9 => zG (zC bc rfl bk) h9) (st_step rfl (fun _ h9 => zG (zC bc rfl bj) h9) (st_step rfl (fun _ h9 => op_nil (zA bc rfl) h9) (st_step rfl (fun _ h9 => zM fld72_1 (zA bc rfl) h9) (st_step rfl (fun _ h9 => zN one69 (zA bc rfl) (hxd.cell rfl) h9) (st_step rfl (fun _ h9 => zG (zC bc rfl bk) h9) (st_index_rd slt69 (zA bc rfl) aQ.rdw (zA bc rfl) zx zx ?_)))))))))
      intro bz bu bw bA bk
      refine st_step rfl (fun _ h9 => zM fld75_2 (zA bc rfl) h9) (st_step rfl (fun _ h9 => zN (v := (C.getD (oS (ops.getD i dK)).toNat default).po) one26 (zA bc rfl) (bk 2 _ zz ((el_ds (i := (oS (ops.getD i dK)).toNat) zx zx) 2 _ rfl)) h9) (st_step rfl (fun _ h9 => op_slice_cutS (k := 1) slt26 (zA bc rfl) bf rfl zx zx h9) ?_))
      have hD_b := hD
      obtain ⟨bg, bh, _⟩ := hD_b.at_ be
      have bk : Dj (Bl ah) bt := fun y hy h => bq.symm y h (hD_b.sub y hy)
      refine st_index_own (i := (oS (ops.getD i dK)).toNat) slt69 (zA bc rfl) aQ (zA bc rfl) zx zx ?_
      intro bw bz bA bu
      refine st_step rfl (fun _ h9 => zM fld75_2 (zA bc rfl) h9) (st_nil (from_seq (tl := [_]) zz zy rfl ?_))
      have bw := aQ
      refine op_store_own (vs := [(cutS 1 ((C.getD (oS (ops.getD i dK)).toNat default).po) 1)]) size26 (zA bc rfl) (zA bc rfl) (bf.cutO (k := 1) zx).cl rfl (by simp only [yA, yB, yC, yD, (bf.cutO (k := 1) zx).one]; try rfl) bw (bu.fld 2) (by have := bw.1; simp only [List.length_cons, List.length_nil]; omega) ?_
      intro bA bz bu
      have := bu.size
      have hr := (hr.keep0 bn).keepO bw bu zx
      have hlab := all9 hlab fun _ h => h.keepO bw bu zx
      have hown := all9 hown fun _ h => h.keepO bw bu zx
      have hro := (hro.keep0 bn).keepO bw bu zx
      have br := br.keepG (Gr.of bu) bk.symm
      have bf := bf.keepT bw bu zz
      have hb := below_stepO hb bw bu hb.size zx
      have bz : Own bA w.heap.size 75 4 ah S.length (((C.set (oS (ops.getD i dK)).toNat (⟨(C.getD (oS (ops.getD i dK)).toNat default).la, (C.getD (oS (ops.getD i dK)).toNat default).ow, (cutS 1 ((C.getD (oS (ops.getD i dK)).toNat default).po) 1)⟩ : DC))).flatMap cellsD) := by exact bz.cast (by simp) (set_dp zx)
      refine zB (J2 _ _ ?_)
      exact a5 _ _ _ bc bm ⟨doneS S (oS (ops.getD i dK)), M, T, kk, ah, (C.set (oS (ops.getD i dK)).toNat (⟨(C.getD (oS (ops.getD i dK)).toNat default).la, (C.getD (oS (ops.getD i dK)).toNat default).ow, (cutS 1 ((C.getD (oS (ops.getD i dK)).toNat default).po) 1)⟩ : DC)), bt, (fun y => FD y ∨ PartD (⟨(C.getD (oS (ops.getD i dK)).toNat default).la, (C.getD (oS (ops.getD i dK)).toNat default).ow, (cutS 1 ((C.getD (oS (ops.getD i dK)).toNat default).po) 1)⟩ : DC) y), (zL bc rfl bp), (zL bc rfl bj), (zL bc rfl bo), (zL bc rfl bl), (hok.done (oS (ops.getD i dK))), hst, aj, zx, (fun y hy hf => hf.elim (bq.symm y hy) (fun hp => hp.elim (fun z => bq.symm y hy (hD_b.part be y (.inl z))) (fun hp => hp.elim (fun z => bq.symm y hy (hD_b.part be y (.inr (.inl z)))) (fun z => bq.symm y hy (hD_b.part be y (.inr (.inr ((bf.cut_ob (k := 1)).symm.trans z)))))))), hb, zx, hr, hlab, hown, hro, br, (by rw [doneS_in hin]; exact hD_b.turn be bu (bz.cast zx rfl) ⟨bg.keepG (Gr.of bu) (fun y hy h => bg.notOwn hD_b.own zz y hy h), bh.keepG (Gr.of bu) (fun y hy h => bh.notOwn hD_b.own zz y hy h), (by have h9 := (bf.cutO (k := 1) zx); exact (h9.cast (by rw [List.length_drop]) (by rw [Nat.mul_one, List.map_drop])))⟩)⟩
     have bv := of_decide_eq_false bv
     refine wp_skip (J2 _ _ ?_)
     exact a5 _ _ _ bc bm ⟨doneS S (oS (ops.getD i dK)), M, T, kk, ah, C, bt, FD, (zL bc rfl bp), (zL bc rfl bj), (zL bc rfl bo), (zL bc rfl bl), (hok.done (oS (ops.getD i dK))), hst, aj, zx, bq.symm, hb, zx, hr, hlab, hown, hro, br, (by rw [doneS_none zx]; exact hD)⟩
    refine zD (zA aT rfl) (zB (J3 _ _ (wp_cond_false (zA aT rfl) (zF fun _ J3 => zH (op_eql (zA aT rfl) rfl (fun bc => ?_) (fun bc => ?_))))))
    ·
     refine zD (zA aT rfl) (zB (J3 _ _ (wp_cond_true (zA aT rfl) (seq_join2 (N := 214) (fun az_ w' => ∃ (bk : Value) (C3 : List DC) (bj : Nat → Prop), (Sl az_ 1 vo) ∧ (Sl az_ 5 (ptr kk 0)) ∧ (Sl az_ 7 (ptr Y 0)) ∧ (Sl az_ 9 (.int .i64 ((i : Nat) : Int))) ∧ (Sl az_ 10 (ptr aD 0)) ∧ (Sl az_ 11 (.int .i64 (oS (ops.getD i dK)))) ∧ (Sl az_ 14 (.int .i64 (raiseSE S (oS (ops.getD i dK)) (oT (ops.getD i dK))))) ∧ (Dj FK bj) ∧ (Below w.heap.size w w') ∧ (a0.heap.size ≤ w'.heap.size) ∧ (RdC w' 0 w.heap.size 2 vL L.length (L.flatMap cells2)) ∧ (∀ x9 ∈ (L.map Prod.fst), RdC w' 0 w.heap.size 1 x9.1 x9.2.length (x9.2.map u16v)) ∧ (∀ x9 ∈ (L.map Prod.snd), RdC w' 0 w.heap.size 1 x9.1 x9.2.length (x9.2.map u16v)) ∧ (RdC w' 0 w.heap.size 4 vo ops.length (ops.flatMap cellsOK)) ∧ (KernR w' w.heap.size kk S M FK) ∧ (RdC w' 0 w.heap.size 1 (oV (ops.getD i dK)) (oT (ops.getD i dK)).length ((oT (ops.getD i dK)).map u16v)) ∧ (Bx w' aD 84 [(.int .i64 (oK (ops.getD i dK))), (.int .i64 (oS (ops.getD i dK))), (.string (bs (oX (ops.getD i dK)))), (oV (ops.getD i dK))]) ∧ (DbX w' w.heap.size Y (raiseS S (oS (ops.getD i dK)) (oT (ops.getD i dK))) T bk C3 bj)) (fun bl => ?_) ?_))))
     ·
      refine zF fun _ J3 => zH (zD rfl (zB (J3 _ _ (zF fun _ J3 => zF fun _ J4 => zH (zG (zC aT rfl a2) (zB (J4 _ _ (wp_cond_split (zA aT rfl) (fun bm => ?_) (fun bm => ?_)))))))))
      ·
       refine zH ?_
       have hin := bm
       refine zG (zC aT rfl aU) (zG (zC aT rfl aV) (zM fld84_3 (zC aT rfl a1) (zN one45 (zA aT rfl) (aC.cell rfl) (zj ok43 (RaiseX (t := (oT (ops.getD i dK))) zx hok hin zx (htg.mono (Nat.zero_le _) zx) hD) ⟨(zA aT rfl), ⟨(zA aT rfl), ⟨(zA aT rfl), trivial⟩⟩⟩ ?_))))
       rintro _ bu ⟨bn, rfl, bp, bt, bo, bq, br⟩
       have bu := hK.lt
       have bv := aC.lt
       have hD_old := hD
       have := bn.size
       have hr := hr.keepG bn (fun k hk => .inr (by have := hD_old.lt k hk; omega))
       have hlab := all9 hlab fun _ h => h.keepG bn (fun k hk => .inr (by have := hD_old.lt k hk; omega))
       have hown := all9 hown fun _ h => h.keepG bn (fun k hk => .inr (by have := hD_old.lt k hk; omega))
       have hro := hro.keepG bn (fun k hk => .inr (by have := hD_old.lt k hk; omega))
       have hK := hK.keepG bn hdj
       have htg := htg.keepG bn (fun k hk => .inr (by have := hD_old.lt k hk; omega))
       have aC := aC.keepG bn aJ
       have hb := below_stepG hb bn hb.size (fun k hk => (hD_old.lt k hk).1)
       have bn : Dj FK bo := Dj.stepF br (fun k hk => (bu k hk).2) hdj
       refine zD (zA aT rfl) (zB (J3 _ _ ?_))
       exact bl _ _ _ aT aZ ⟨bp, bt, bo, (zL aT rfl aX), (zL aT rfl aW), (zL aT rfl aU), (zL aT rfl aY), (zL aT rfl a1), (zL aT rfl aV), (zU aT rfl), bn, hb, zx, hr, hlab, hown, hro, hK, htg, aC, bq⟩
      refine wp_skip (J3 _ _ ?_)
      exact bl _ _ _ aT aZ ⟨ah, C, FD, (zL aT rfl aX), (zL aT rfl aW), (zL aT rfl aU), (zL aT rfl aY), (zL aT rfl a1), (zL aT rfl aV), (zU aT rfl).trans (congrArg (Value.int .i64) ((raiseS_out bm).2).symm), hdj, hb, zx, hr, hlab, hown, hro, hK, htg, aC, (by rw [(raiseS_out bm).1]; exact hD)⟩
     rintro bA bz bl br ⟨bk, C3, bj, bq, bo, bt, bv, bp, bw, bu, bn, hb, bB, hr, hlab, hown, hro, hK, htg, aC, bm⟩
     have := hb.size
     refine zF fun _ J3 => ?_
     refine zH (zG (zC bl rfl bo) (zG (zC bl rfl bw) (zM fld84_3 (zC bl rfl bp) (zN one45 (zA bl rfl) (aC.cell rfl) (zj ok44 (RaiseR (oS (ops.getD i dK)) (t := (oT (ops.getD i dK))) zx hok.1 hK hok.lab (by first | assumption | omega | (simp only [List.length_append, List.length_cons, List.length_nil, List.length_drop, List.length_take]; omega) | (dsimp only; omega) | decide | (simp [keyV, be8_len]; done)) (htg.mono (Nat.zero_le _) zx)) ⟨(zA bl rfl), ⟨(zA bl rfl), ⟨(zA bl rfl), trivial⟩⟩⟩ ?_)))))
     rintro _ bB ⟨bp, rfl, bw, bA, bz⟩
     have bB := aC.lt
     have bB := bm.lt
     have hK_old := hK
     have := bp.size
     have hr := hr.keepG bp (fun k hk => .inr (by have := hK_old.lt k hk; omega))
     have hlab := all9 hlab fun _ h => h.keepG bp (fun k hk => .inr (by have := hK_old.lt k hk; omega))
     have hown := all9 hown fun _ h => h.keepG bp (fun k hk => .inr (by have := hK_old.lt k hk; omega))
     have hro := hro.keepG bp (fun k hk => .inr (by have := hK_old.lt k hk; omega))
     have bm := bm.keepG bp bn.symm
     have hb := below_stepG hb bp hb.size (fun k hk => (hK_old.lt k hk).1)
     have bp : Dj bj bw := Dj.stepF bz (fun k hk => (bB k hk).2) bn.symm
     refine zG (zC bl rfl bu) (op_neq (zA bl rfl) (zA bl rfl) (fun bz => ?_) (fun bz => ?_))
     ·
      exact absurd rfl bz
     refine zB (J3 _ _ (wp_cond_false (zA bl rfl) (wp_skip (J2 _ _ ?_))))
     exact a5 _ _ _ bl br ⟨raiseS S (oS (ops.getD i dK)) (oT (ops.getD i dK)), M, T, kk, bk, C3, bw, bj, (zL bl rfl bq), (zL bl rfl bt), (zL bl rfl bv), (zL bl rfl bo), (hok.raise (oS (ops.getD i dK)) (oT (ops.getD i dK))), hst, aj, zx, bp.symm, hb, zx, hr, hlab, hown, hro, bA, bm⟩
    refine zD (zA aT rfl) (zB (J3 _ _ (wp_cond_false (zA aT rfl) (zF fun _ J3 => zH (op_eql (zA aT rfl) rfl (fun bl => ?_) (fun bl => ?_))))))
    ·
     refine zD (zA aT rfl) ?_
     refine zB (J3 _ _ (wp_cond_true (zA aT rfl) (zF fun _ J3 => zH (zM fld84_3 (zC aT rfl a1) (zN one45 (zA aT rfl) (aC.cell rfl) (zj ok45 (rnormW_ret (oT (ops.getD i dK)) _ _ (by first | assumption | omega | (simp only [List.length_append, List.length_cons, List.length_nil, List.length_drop, List.length_take]; omega) | (dsimp only; omega) | decide | (simp [keyV, be8_len]; done)) (show RdC a0 0 a0.heap.size 1 (oV (ops.getD i dK)) (oT (ops.getD i dK)).length ((oT (ops.getD i dK)).map u16v) from by have hh : RdC a0 0 a0.heap.size 1 _ _ _ := (htg.mono (L' := 0) (B' := a0.heap.size) (Nat.zero_le _) zx); first | exact hh | exact hh.cast (by first | omega | (simp; try omega)) (by first | rfl | simp [u16v]))) ⟨(zA aT rfl), trivial⟩ ?_))))))
     rintro _ br ⟨bo, bq, rfl, bp⟩
     have br : Dj FK (Bl bq) := Dj.fresh (fun k hk => (hK.lt k hk).2) (fun k hk => (bp.lt k hk).1)
     have bt : Dj FD (Bl bq) := Dj.fresh (fun k hk => (hD.lt k hk).2) (fun k hk => (bp.lt k hk).1)
     have bo := zQ bo
     obtain ⟨hb, _⟩ := yE hb bo
     have hr := hr.keep0 bo
     have hlab := all9 hlab fun _ h => h.keep0 bo
     have hown := all9 hown fun _ h => h.keep0 bo
     have hro := hro.keep0 bo
     have hK := hK.kz bo
     have hD := hD.kz bo
     have aC := aC.keep0 bo
     have bp := bp.mono (base' := w.heap.size) zx
     have bo := normL_len (oT (ops.getD i dK))
     refine zG (zA aT rfl) (zW (zA aT rfl) rfl (zW (zA aT rfl) rfl (zD (zA aT rfl) (zD (zA aT rfl) (zB (J3 _ _ (zF fun _ J3 => zH (zG (zA aT rfl) (op_eql (zA aT rfl) rfl (fun bo => ?_) (fun bo => ?_))))))))))
     ·
      refine zG (zA aT rfl) ?_
      have hmay := nrm_of_e bo
      refine zS (j := 2) (dj := 192) (b := true) rfl rfl rfl (zA aT rfl) (zG (zC aT rfl aW) (zS (j := 2) (dj := 192) (b := true) rfl rfl rfl (zA aT rfl) (zG (zA aT rfl) (zS (j := 2) (dj := 192) (b := true) rfl rfl rfl (zA aT rfl) (zj ok35 (StampR (x := (normL (oT (ops.getD i dK)))) zx (by first | assumption | omega | (simp only [List.length_append, List.length_cons, List.length_nil, List.length_drop, List.length_take]; omega) | (dsimp only; omega) | decide | (simp [keyV, be8_len]; done)) (bp.rdw.mono (Nat.zero_le _) zx) hK) ⟨(zA aT rfl), ⟨(zA aT rfl), trivial⟩⟩ ?_)))))
      rintro _ bu ⟨bo, rfl, bq⟩
      have hK_old := hK
      have := bo.size
      have hlab := all9 hlab fun _ h => h.keepG bo (fun k hk => .inr (by have := hK_old.lt k hk; omega))
      have hown := all9 hown fun _ h => h.keepG bo (fun k hk => .inr (by have := hK_old.lt k hk; omega))
      have hD := hD.keepG bo hdj.symm
      have aC := aC.keepG bo aI
      have bp := bp.keepG bo br.symm
      have hb := below_stepG hb bo hb.size (fun k hk => (hK_old.lt k hk).1)
      refine zS (j := 2) (dj := 192) (b := true) rfl rfl rfl (zA aT rfl) (zG (zC aT rfl aU) (zS (j := 2) (dj := 192) (b := true) rfl rfl rfl (zA aT rfl) (zG (zA aT rfl) (zS (j := 2) (dj := 192) (b := true) rfl rfl rfl (zA aT rfl) ?_))))
      obtain ⟨bw, bz, bu, br, bv⟩ := bp.rdx
      refine zj ok46 (StampX (x := (normL (oT (ops.getD i dK)))) zx zx aj (by have := mayL_len hmay; omega) bu (fun y hy => Classical.byContradiction fun h9 => bt.symm y (bv y h9) hy) br hD) ⟨(zA aT rfl), ⟨(zA aT rfl), trivial⟩⟩ ?_
      rintro _ bA ⟨br, rfl, bw, bv, bt, bz, bu⟩
      have bA := aC.lt
      have bA := bp.lt
      have bp := bq.lt
      have hD_old := hD
      have := br.size
      have hr := (hr.keepG bo (fun k hk => .inr (by have := hK_old.lt k hk; omega))).keepG br (fun k hk => .inr (by have := hD_old.lt k hk; omega))
      have hlab := all9 hlab fun _ h => h.keepG br (fun k hk => .inr (by have := hD_old.lt k hk; omega))
      have hown := all9 hown fun _ h => h.keepG br (fun k hk => .inr (by have := hD_old.lt k hk; omega))
      have hro := (hro.keepG bo (fun k hk => .inr (by have := hK_old.lt k hk; omega))).keepG br (fun k hk => .inr (by have := hD_old.lt k hk; omega))
      have bq := bq.keepG br hdj
      have hb := below_stepG hb br hb.size (fun k hk => (hD_old.lt k hk).1)
      have bo : Dj FK bt := Dj.stepF bu (fun k hk => (bp k hk).2) hdj
      refine zS (j := 2) (dj := 192) (b := true) rfl rfl rfl (zA aT rfl) (op_neq (zA aT rfl) (zA aT rfl) (fun bp => ?_) (fun bp => ?_))
      ·
       exact absurd (hst.step hmay).1 bp
      refine zc (zA aT rfl) (zA aT rfl) (zB (J3 _ _ (wp_cond_false (zA aT rfl) (wp_skip (J2 _ _ ?_)))))
      exact a5 _ _ _ aT aZ ⟨S, mput M (labB (normL (oT (ops.getD i dK)))) (IntKind.u64.wrap ((mget M (labB (normL (oT (ops.getD i dK))))).getD 0 + 1)), tUp T (normL (oT (ops.getD i dK))), kk, bw, bv, FK, bt, (zL aT rfl aX), (zL aT rfl aU), (zL aT rfl aY), (zL aT rfl aW), hok, (hst.step hmay).2, (fun e he => (mem_tUp he).elim (fun q => by rw [q]; have := mayL_len hmay; omega) (fun ⟨e2, h1, h2⟩ => h2 ▸ aj e2 h1)), (Nat.le_trans tUp_len zx), bo, hb, zx, hr, hlab, hown, hro, bq, bz⟩
     refine zG (zA aT rfl) ?_
     skip
     refine zR (j := 2) (dj := 192) (b := true) rfl rfl rfl (zA aT rfl) rfl rfl (zR (j := 2) (dj := 192) (b := true) rfl rfl rfl (zA aT rfl) rfl rfl (zR (j := 2) (dj := 192) (b := true) rfl rfl rfl (zA aT rfl) rfl rfl (zR (j := 2) (dj := 192) (b := true) rfl rfl rfl (zA aT rfl) rfl rfl (zR (j := 2) (dj := 192) (b := true) rfl rfl rfl (zA aT rfl) rfl rfl (zR (j := 2) (dj := 192) (b := true) rfl rfl rfl (zA aT rfl) rfl rfl (zR (j := 2) (dj := 192) (b := true) rfl rfl rfl (zA aT rfl) rfl rfl (zd (zA aT rfl) rfl (zB (J3 _ _ (wp_cond_false (zA aT rfl) (wp_skip (J2 _ _ ?_))))))))))))
     exact a5 _ _ _ aT aZ ⟨S, M, T, kk, ah, C, FK, FD, (zL aT rfl aX), (zL aT rfl aU), (zL aT rfl aY), (zL aT rfl aW), hok, hst, aj, zx, hdj, hb, zx, hr, hlab, hown, hro, hK, hD⟩
    refine zD (zA aT rfl) (zB (J3 _ _ (wp_cond_false (zA aT rfl) (zF fun _ J3 => zH (op_eql (zA aT rfl) rfl (fun bo => ?_) (fun bo => ?_))))))
    ·
     refine zD (zA aT rfl) (zB (J3 _ _ (wp_cond_true (zA aT rfl) (zF fun _ J3 => zH (zG (zC aT rfl aW) (zj ok47 (CopyKR zx hok.1 (fun x hx => ⟨hok.lab x hx, hok.own x hx⟩) hK) ⟨(zA aT rfl), trivial⟩ ?_))))))
     rintro _ bw ⟨bp, bv, br, rfl, bq, bu, bt⟩
     have bw : ∀ y, br y → a0.heap.size ≤ y := fun y hy => (bq.lt y hy).1
     have bz : Dj FD br := Dj.fresh (fun k hk => (hD.lt k hk).2) bw
     have hK_old := hK
     have := bp.size
     have hlab := all9 hlab fun _ h => h.keepG bp (fun k hk => .inr (by have := hK_old.lt k hk; omega))
     have hown := all9 hown fun _ h => h.keepG bp (fun k hk => .inr (by have := hK_old.lt k hk; omega))
     have hD := hD.keepG bp hdj.symm
     have aC := aC.keepG bp aI
     have hb := below_stepG hb bp hb.size (fun k hk => (hK_old.lt k hk).1)
     have bq := bq.mono (base' := w.heap.size) zx
     refine zD (zA aT rfl) (zB (J3 _ _ (zF fun _ J3 => zH (zG (zC aT rfl aW) (zj ok40 (SayR 0 ([115, 112, 111, 105, 108, 116]) zx hok.1 bu) ⟨(zA aT rfl), ⟨rfl, ⟨rfl, trivial⟩⟩⟩ ?_)))))
     rintro _ bD ⟨bw, rfl, bC, bA, bB⟩
     have bD := hD.lt
     have bE := aC.lt
     have bE := bq.lt
     have bF := bu
     have := bw.size
     have hlab := all9 hlab fun _ h => h.keepG bw (fun k hk => .inr (by have := bF.lt k hk; omega))
     have hown := all9 hown fun _ h => h.keepG bw (fun k hk => .inr (by have := bF.lt k hk; omega))
     have hb := below_stepG hb bw hb.size (fun k hk => (bF.lt k hk).1)
     have bu : Dj FD bC := Dj.stepF bB (fun k hk => (bD k hk).2) hdj.symm
     have bD : Dj br bC := Dj.stepF bB (fun k hk => (bE k hk).2) bt.symm
     refine zB (J3 _ _ (zF fun _ J3 => zH (zG (zC aT rfl aW) (zj ok35 (StampR (x := []) zx (by first | assumption | omega | (simp only [List.length_append, List.length_cons, List.length_nil, List.length_drop, List.length_take]; omega) | (dsimp only; omega) | decide | (simp [keyV, be8_len]; done)) ((RdC.nil _ 0 0 _).mono (Nat.zero_le _) zx) bA) ⟨(zA aT rfl), ⟨rfl, trivial⟩⟩ ?_))))
     rintro _ bC ⟨bB, rfl, bE⟩
     have bC := bA
     have := bB.size
     have hr := ((hr.keepG bp (fun k hk => .inr (by have := hK_old.lt k hk; omega))).keepG bw (fun k hk => .inr (by have := bF.lt k hk; omega))).keepG bB (fun k hk => .inr (by have := bC.lt k hk; omega))
     have hlab := all9 hlab fun _ h => h.keepG bB (fun k hk => .inr (by have := bC.lt k hk; omega))
     have hown := all9 hown fun _ h => h.keepG bB (fun k hk => .inr (by have := bC.lt k hk; omega))
     have hro := ((hro.keepG bp (fun k hk => .inr (by have := hK_old.lt k hk; omega))).keepG bw (fun k hk => .inr (by have := bF.lt k hk; omega))).keepG bB (fun k hk => .inr (by have := bC.lt k hk; omega))
     have hD := (hD.keepG bw hdj.symm).keepG bB bu
     have bq := (bq.keepG bw bt.symm).keepG bB bD
     have hb := below_stepG hb bB hb.size (fun k hk => (bC.lt k hk).1)
     refine zB (J3 _ _ (zH (zG (zA aT rfl) (zD (zA aT rfl) (zB (J2 _ _ ?_))))))
     exact a5 _ _ _ aT aZ ⟨S, M, T, bv, ah, C, br, FD, (zL aT rfl aX), (zL aT rfl aU), (zL aT rfl aY), (zU aT rfl), hok, hst, aj, zx, bz.symm, hb, zx, hr, hlab, hown, hro, bq, hD⟩
    refine zD (zA aT rfl) (zB (J3 _ _ (wp_cond_false (zA aT rfl) (seq_join2 (N := 214) (fun az_ w' => ∃ (bk : Value) (C3 : List DC) (bj : Nat → Prop), (Sl az_ 1 vo) ∧ (Sl az_ 5 (ptr kk 0)) ∧ (Sl az_ 7 (ptr Y 0)) ∧ (Sl az_ 9 (.int .i64 ((i : Nat) : Int))) ∧ (Sl az_ 10 (ptr aD 0)) ∧ (Sl az_ 11 (.int .i64 (oS (ops.getD i dK)))) ∧ (Sl az_ 18 (.int .i64 (sayE S (oS (ops.getD i dK))))) ∧ (Dj FK bj) ∧ (Below w.heap.size w w') ∧ (a0.heap.size ≤ w'.heap.size) ∧ (RdC w' 0 w.heap.size 2 vL L.length (L.flatMap cells2)) ∧ (∀ x9 ∈ (L.map Prod.fst), RdC w' 0 w.heap.size 1 x9.1 x9.2.length (x9.2.map u16v)) ∧ (∀ x9 ∈ (L.map Prod.snd), RdC w' 0 w.heap.size 1 x9.1 x9.2.length (x9.2.map u16v)) ∧ (RdC w' 0 w.heap.size 4 vo ops.length (ops.flatMap cellsOK)) ∧ (KernR w' w.heap.size kk S M FK) ∧ (RdC w' 0 w.heap.size 1 (oV (ops.getD i dK)) (oT (ops.getD i dK)).length ((oT (ops.getD i dK)).map u16v)) ∧ (Bx w' aD 84 [(.int .i64 (oK (ops.getD i dK))), (.int .i64 (oS (ops.getD i dK))), (.string (bs (oX (ops.getD i dK)))), (oV (ops.getD i dK))]) ∧ (DbX w' w.heap.size Y (sayS S (oS (ops.getD i dK)) (oX (ops.getD i dK))) T bk C3 bj)) (fun bp => ?_) ?_))))
    ·
     refine zF fun _ J3 => zH (zD rfl (zB (J3 _ _ (zF fun _ J3 => zF fun _ J4 => zH (zG (zC aT rfl a2) (zB (J4 _ _ (wp_cond_split (zA aT rfl) (fun bq => ?_) (fun bq => ?_)))))))))
     ·
      refine zF fun _ J4 => zH (zD rfl (zB (J4 _ _ (zF fun _ J4 => zH ?_))))
      have hin := bq
      obtain ⟨mp, aP, hxd⟩ := hD.bx
      have hi_dx := hxd.lt
      have aQ := hD.own
      have aR := hD.len
      have aS := hok.1
      have bd := inS_iff.1 hin
      have be : (oS (ops.getD i dK)).toNat < S.length := by omega
      obtain ⟨bg, bh, bf⟩ := hD.at_ be
      have bi : (atS S (oS (ops.getD i dK))).texts.length = (S.getD (oS (ops.getD i dK)).toNat default).texts.length := by rw [atS_in hin]
      refine zG (zC aT rfl aU) (op_nil (zA aT rfl) (zM fld72_1 (zA aT rfl) (zN one69 (zA aT rfl) (hxd.cell rfl) (zG (zC aT rfl aV) (zh slt69 (zA aT rfl) aQ.rdw (zA aT rfl) zx zx ?_)))))
      intro bu bv bw bt br
      refine zM fld75_2 (zA aT rfl) (zN (v := (C.getD (oS (ops.getD i dK)).toNat default).po) one26 (zA aT rfl) (br 2 _ zz ((el_ds (i := (oS (ops.getD i dK)).toNat) zx zx) 2 _ rfl)) (op_len_rd Try.underlying26 (zA aT rfl) bf.rdw (op_lss (zA aT rfl) rfl (fun bz => ?_) (fun bz => ?_))))
      ·
       refine zB (J4 _ _ (wp_cond_true (zA aT rfl) (zF fun _ J4 => zH (zD rfl (zB (J4 _ _ ?_))))))
       have hin := bq
       obtain ⟨mp, aP, hxd⟩ := hD.bx
       have hi_dx := hxd.lt
       have aQ := hD.own
       have aR := hD.len
       have aS := hok.1
       have bd := inS_iff.1 hin
       have be : (oS (ops.getD i dK)).toNat < S.length := by omega
       obtain ⟨bg, bh, bf⟩ := hD.at_ be
       have bi : (atS S (oS (ops.getD i dK))).texts.length = (S.getD (oS (ops.getD i dK)).toNat default).texts.length := by rw [atS_in hin]
       have aR := aQ
       obtain ⟨b9, o9, _, aS⟩ := aQ.atV (i := (oS (ops.getD i dK)).toNat) zx
       refine reg_split (hd := [_, _, _, _, _, _, _, _, _, _, _, _, _, _, _, _, _, _, _]) (tl := _) 19 mixed zy rfl rfl (any_tree (φ := phiV [(fun uz => uz = (ptr Y 0)), (fun uz => uz = (ptr Y 0)), (fun uz => uz = (ptr Y 1)), (fun uz => uz = ah), (fun uz => uz = (.int .i64 (oS (ops.getD i dK)))), (fun _ => True), (fun uz => uz = (ptr Y 0)), (fun uz => uz = (ptr Y 0)), (fun uz => uz = (ptr Y 1)), (fun uz => uz = ah), (fun uz => uz = (.int .i64 (oS (ops.getD i dK)))), (fun uz => uz = (ptr b9 o9)), (fun uz => uz = (ptr b9 (o9 + 2))), (fun uz => uz = (C.getD (oS (ops.getD i dK)).toNat default).po), (fun _ => True), (fun uz => uz = (ptr aD 2)), (fun uz => uz = (.string (bs (oX (ops.getD i dK))))), (fun _ => True), (fun _ => True)]) (G := fun w' => Own w' w.heap.size 75 4 ah S.length (C.flatMap cellsD) ∧ Bx w' Y 72 [mp, ah, aP] ∧ Bx w' aD 84 [(.int .i64 (oK (ops.getD i dK))), (.int .i64 (oS (ops.getD i dK))), (.string (bs (oX (ops.getD i dK)))), (oV (ops.getD i dK))]) [5, 14, 17, 18] zy zy zy zy zy aT (fun s w2 E h => by obtain ⟨h0, h1, h2⟩ := h; exact ⟨h0.keep0 E, h1.keep0 E, h2.keep0 E⟩) ⟨aQ, hxd, aC⟩ (ObRs9.cons ?_ (ObRs9.cons ?_ (ObRs9.cons ?_ (ObRs9.cons ?_ (ObRs9.cons ?_ (ObRs9.pass rfl (ObRs9.cons ?_ (ObRs9.cons ?_ (ObRs9.cons ?_ (ObRs9.cons ?_ (ObRs9.cons ?_ (ObRs9.cons ?_ (ObRs9.cons ?_ (ObRs9.cons ?_ (ObRs9.pass rfl (ObRs9.cons ?_ (ObRs9.cons ?_ (ObRs9.pass rfl (ObRs9.pass rfl (ObRs9.nil)))))))))))))))))))) (by simp only [putsL_defers]) ?_)
       ·
        intro eA aA wA hNA hGA hbsA hdpA
        have aP := (hbsA 7 rfl).trans (zL aT rfl aU)
        refine zG (zC hNA rfl aP) ?_
        exact obT_end rfl rfl
       ·
        intro eA aA wA hNA hGA hbsA hdpA
        have bd : Sl aA 101 (ptr Y 0) := (hdpA 0 _ 101 zy rfl rfl).2 rfl
        refine op_nil (zC hNA rfl bd) ?_
        exact obT_end rfl rfl
       ·
        intro eA aA wA hNA hGA hbsA hdpA
        have bd : Sl aA 102 (ptr Y 0) := (hdpA 1 _ 102 zy rfl rfl).2 rfl
        refine zM fld72_1 (zC hNA rfl bd) ?_
        exact obT_end rfl rfl
       ·
        intro eA aA wA hNA hGA hbsA hdpA
        have bd : Sl aA 103 (ptr Y 1) := (hdpA 2 _ 103 zy rfl rfl).2 rfl
        obtain ⟨aQ, hxd, aC⟩ := hGA
        refine zN one69 (zC hNA rfl bd) (hxd.cell rfl) ?_
        exact obT_end rfl rfl
       ·
        intro eA aA wA hNA hGA hbsA hdpA
        have bd := (hbsA 11 rfl).trans (zL aT rfl aV)
        refine zG (zC hNA rfl bd) ?_
        exact obT_end rfl rfl
       ·
        intro eA aA wA hNA hGA hbsA hdpA
        have aP := (hbsA 7 rfl).trans (zL aT rfl aU)
        refine zG (zC hNA rfl aP) ?_
        exact obT_end rfl rfl
       ·
        intro eA aA wA hNA hGA hbsA hdpA
        have aP : Sl aA 107 (ptr Y 0) := (hdpA 6 _ 107 zy rfl rfl).2 rfl
        refine op_nil (zC hNA rfl aP) ?_
        exact obT_end rfl rfl
       ·
        intro eA aA wA hNA hGA hbsA hdpA
        have aP : Sl aA 108 (ptr Y 0) := (hdpA 7 _ 108 zy rfl rfl).2 rfl
        refine zM fld72_1 (zC hNA rfl aP) ?_
        exact obT_end rfl rfl
       ·
        intro eA aA wA hNA hGA hbsA hdpA
        have aP : Sl aA 109 (ptr Y 1) := (hdpA 8 _ 109 zy rfl rfl).2 rfl
        obtain ⟨aQ, hxd, aC⟩ := hGA
        refine zN one69 (zC hNA rfl aP) (hxd.cell rfl) ?_
        exact obT_end rfl rfl
       ·
        intro eA aA wA hNA hGA hbsA hdpA
        have bd := (hbsA 11 rfl).trans (zL aT rfl aV)
        refine zG (zC hNA rfl bd) ?_
        exact obT_end rfl rfl
       ·
        intro eA aA wA hNA hGA hbsA hdpA
        have aP : Sl aA 110 ah := (hdpA 9 _ 110 zy rfl rfl).2 rfl
        have bd : Sl aA 111 (.int .i64 (oS (ops.getD i dK))) := (hdpA 10 _ 111 zy rfl rfl).2 rfl
        obtain ⟨aQ, hxd, aC⟩ := hGA
        refine op_index_at (i := (oS (ops.getD i dK)).toNat) slt69 (zC hNA rfl aP) aR (zC hNA rfl bd) zx zx aS ?_
        exact obT_end rfl rfl
       ·
        intro eA aA wA hNA hGA hbsA hdpA
        have aP : Sl aA 112 (ptr b9 o9) := (hdpA 11 _ 112 zy rfl rfl).2 rfl
        refine zM fld75_2 (zC hNA rfl aP) ?_
        exact obT_end rfl rfl
       ·
        intro eA aA wA hNA hGA hbsA hdpA
        have aP : Sl aA 113 (ptr b9 (o9 + 2)) := (hdpA 12 _ 113 zy rfl rfl).2 rfl
        obtain ⟨aQ, hxd, aC⟩ := hGA
        refine zN (v := (C.getD (oS (ops.getD i dK)).toNat default).po) one26 (zC hNA rfl aP) (aQ.cellAt aS 2 _ (el_ds (e := (oS (ops.getD i dK))) (i := (oS (ops.getD i dK)).toNat) zx zx 2 _ rfl)) ?_
        exact obT_end rfl rfl
       ·
        intro eA aA wA hNA hGA hbsA hdpA
        have aP := (hbsA 10 rfl).trans (zL aT rfl a1)
        refine zM fld84_2 (zC hNA rfl aP) ?_
        exact obT_end rfl rfl
       ·
        intro eA aA wA hNA hGA hbsA hdpA
        have aP : Sl aA 116 (ptr aD 2) := (hdpA 15 _ 116 zy rfl rfl).2 rfl
        obtain ⟨aQ, hxd, aC⟩ := hGA
        refine zN one9 (zC hNA rfl aP) (aC.cell rfl) ?_
        exact obT_end rfl rfl
       refine kt_step (rs := [5, 17]) zy (more_mem ?_ ?_)
       ·
        intro bA aP _ bC bd bi bB o_ ho_; obtain rfl := zE ho_
        obtain ⟨hb, _⟩ := yE hb aP
        have hlab := all9 hlab fun _ h => h.keep0 aP
        have hown := all9 hown fun _ h => h.keep0 aP
        have hK := hK.kz aP
        have hD := hD.kz aP
        refine op_bslice (e := 9) (pv := []) (cs := []) trivial zy ?_
        intro bI bF bH bG bE bD
        have bJ : ¬ FK bF := fun hf => by have := (hK.lt _ hf).2; omega
        have bK : ¬ FD bF := fun hf => by have := (hD.lt _ hf).2; omega
        obtain ⟨hb, _⟩ := yE hb bD
        have hr := (hr.keep0 aP).keep0 bD
        have hlab := all9 hlab fun _ h => h.keep0 bD
        have hown := all9 hown fun _ h => h.keep0 bD
        have hro := (hro.keep0 aP).keep0 bD
        have hK := hK.kz bD
        have hD := hD.kz bD
        have htg := (htg.keep0 aP).keep0 bD
        have aC := (aC.keep0 aP).keep0 bD
        have hxd := (hxd.keep0 aP).keep0 bD
        have aQ := (aQ.keep0 aP).keep0 bD
        have bf := (bf.keep0 aP).keep0 bD
        refine kt_end rfl ⟨aQ, hxd, aC⟩ (kt_step (rs := [14, 17]) zy (more_mem ?_ ?_))
        ·
         intro bQ bL _ bO bM bP bN o_ ho_; obtain rfl := zE ho_
         obtain ⟨hb, _⟩ := yE hb bL
         have hlab := all9 hlab fun _ h => h.keep0 bL
         have hown := all9 hown fun _ h => h.keep0 bL
         have hK := hK.kz bL
         have hD := hD.kz bL
         have bf := bf.keep0 bL
         have bE := bE.keep0 bL
         have bR : Sl bO 106 (.slice (some ⟨bF, 0, none⟩) 0 0) := (zE ((bN 5 _ 106 zy rfl rfl).1 rfl)).symm
         have bS : Sl bO 114 (C.getD (oS (ops.getD i dK)).toNat default).po := (bN 13 _ 114 zy rfl rfl).2 rfl
         have bT := (Own.ofBx (base := w.heap.size) (sz := 1) (n := 0) bE rfl zz zx)
         refine op_append slt26 (zC bM rfl bR) bT (zC bM rfl bS) (Src.ofRd Try.underlying26 zz bf.rdw (one_sv _)) (by unfold maxLen; omega) zx hb.size ?_
         intro bW bY bV bU bX
         have bZ : Dj FK (Bl bW) := Dj.step bX (fun k hk => (hK.lt k hk).2) (Dj.one bJ)
         have b0 : Dj FD (Bl bW) := Dj.step bX (fun k hk => (hD.lt k hk).2) (Dj.one bK)
         have := bU.size
         have hlab := all9 hlab fun _ h => h.keepO bT bU zx
         have hown := all9 hown fun _ h => h.keepO bT bU zx
         have aC := (aC.keep0 bL).keep bU (by simp [Value.ownBlock]; try omega)
         have hxd := (hxd.keep0 bL).keep bU (by simp [Value.ownBlock]; try omega)
         have aQ := (aQ.keep0 bL).keepT bT bU zz
         have hb := below_stepO hb bT bU hb.size zx
         have bV : Own bY w.heap.size 9 1 bW (0 + (S.getD (oS (ops.getD i dK)).toNat default).texts.length) (((S.getD (oS (ops.getD i dK)).toNat default).texts).map sv) := by simpa [u8v, sv] using bV
         refine kt_end rfl ⟨aQ, hxd, aC⟩ (kt_step (rs := [17]) zy (one_mem ?_))
         intro b6 b1 _ b3 b2 b5 b4 o_ ho_; obtain rfl := zE ho_
         obtain ⟨hb, _⟩ := yE hb b1
         have hlab := all9 hlab fun _ h => h.keep0 b1
         have hown := all9 hown fun _ h => h.keep0 b1
         have hK := (hK.keepG (Gr.of bU) (Dj.one bJ)).kz b1
         have hD := (hD.keepG (Gr.of bU) (Dj.one bK)).kz b1
         have b7 : Sl b3 117 (.string (bs (oX (ops.getD i dK)))) := (b4 16 _ 117 zy rfl rfl).2 rfl
         refine op_bslice (e := 9) (pv := [(0, (.string (bs (oX (ops.getD i dK)))))]) (cs := [(.string (bs (oX (ops.getD i dK))))]) ⟨rfl, (zC b2 rfl b7), trivial⟩ zy ?_
         intro cc ca cd cb b9 b8
         obtain ⟨hb, _⟩ := yE hb b8
         have hlab := all9 hlab fun _ h => h.keep0 b8
         have hown := all9 hown fun _ h => h.keep0 b8
         have hK := hK.kz b8
         have hD := hD.kz b8
         have aC := (aC.keep0 b1).keep0 b8
         have hxd := (hxd.keep0 b1).keep0 b8
         have aQ := (aQ.keep0 b1).keep0 b8
         refine kt_end rfl ⟨aQ, hxd, aC⟩ (kt_step (rs := [18]) zy (one_mem ?_))
         intro ck ce _ cf ci cj cg o_ ho_; obtain rfl := zE ho_
         obtain ⟨hb, _⟩ := yE hb ce
         have hlab := all9 hlab fun _ h => h.keep0 ce
         have hown := all9 hown fun _ h => h.keep0 ce
         have hK := hK.kz ce
         have bV := ((bV.keep0 b1).keep0 b8).keep0 ce
         have b9 := b9.keep0 ce
         have bM : Sl cf 115 bW := (zE ((cg 14 _ 115 zy rfl rfl).1 rfl)).symm
         have bN : Sl cf 118 (.slice (some ⟨ca, 0, none⟩) 1 1) := (zE ((cg 17 _ 118 zy rfl rfl).1 rfl)).symm
         have bO := bV
         refine op_append slt26 (zC ci rfl bM) bO (zC ci rfl bN) (Src.ofRd Try.underlying26 zz (RdC.ofBx (sz := 1) (n := 1) b9 rfl zz) (by simp [Value.oneCell', u8v])) (by unfold maxLen; omega) zx hb.size ?_
         intro bP bQ bN bM bR
         have bS : Dj FK (Bl bP) := Dj.step bR (fun k hk => (hK.lt k hk).2) bZ
         have := bM.size
         have hlab := all9 hlab fun _ h => h.keepO bO bM zx
         have hown := all9 hown fun _ h => h.keepO bO bM zx
         have hD := (hD.kz ce).keepG (Gr.of bM) b0
         have aC := (aC.keep0 ce).keepO bO bM zz
         have hxd := (hxd.keep0 ce).keepO bO bM zz
         have aQ := (aQ.keep0 ce).keepT bO bM zz
         have hb := below_stepO hb bO bM hb.size zx
         have bN : Own bQ w.heap.size 9 1 bP ((0 + (S.getD (oS (ops.getD i dK)).toNat default).texts.length) + 1) ((((S.getD (oS (ops.getD i dK)).toNat default).texts ++ [(oX (ops.getD i dK))])).map sv) := by simpa [u8v, sv] using bN
         refine kt_end rfl ⟨aQ, hxd, aC⟩ ?_
         intro b0 bR bW bQ bX bV bY
         have bX := bX.trans ((by simp only [putsL_defers] : _ = _).trans aZ)
         obtain ⟨hb, _⟩ := yE hb bR
         have hlab := all9 hlab fun _ h => h.keep0 bR
         have hown := all9 hown fun _ h => h.keep0 bR
         have hK := (hK.keepG (Gr.of bM) bZ).kz bR
         have hD := hD.kz bR
         have aQ := aQ.keep0 bR
         have bN := bN.keep0 bR
         have bZ := (bV 1 rfl).trans (zL aT rfl aX)
         have b0 := (bV 5 rfl).trans (zL aT rfl aW)
         have b2 := (bV 7 rfl).trans (zL aT rfl aU)
         have b3 := (bV 9 rfl).trans (zL aT rfl aY)
         have b4 := (bV 10 rfl).trans (zL aT rfl a1)
         have b5 := (bV 11 rfl).trans (zL aT rfl aV)
         have b6 := (bV 18 rfl).trans (zU aT rfl)
         have bV : Sl bW 104 ah := (bY 3 _ 104 rfl rfl).2 rfl
         have b7 : Sl bW 105 (.int .i64 (oS (ops.getD i dK))) := (bY 4 _ 105 rfl rfl).2 rfl
         have b9 : Sl bW 119 bP := (zE ((bY 18 _ 119 rfl rfl).1 rfl)).symm
         refine split_end (from_seq (tl := [_, _, _]) zz zy rfl ?_)
         have hD_b := hD
         obtain ⟨bg, bh, _⟩ := hD_b.at_ be
         have dsvhK : Dj (Bl ah) FK := fun y hy h => hdj y h (hD_b.sub y hy)
         refine op_index_own (i := (oS (ops.getD i dK)).toNat) slt69 (zC bQ rfl bV) aQ (zC bQ rfl b7) zx zx ?_
         intro b7 bY bW bV
         refine zM fld75_2 (zA bQ rfl) ?_
         have bW := aQ
         refine op_store_own (vs := [bP]) size26 (zA bQ rfl) (zC bQ rfl b9) bN.cl rfl (by simp only [yA, yB, yC, yD, bN.one]; try rfl) bW (bV.fld 2) (by have := bW.1; simp only [List.length_cons, List.length_nil]; omega) ?_
         intro b7 bY bV
         have := bV.size
         have hr := (((((((hr.keep0 bL).keepO bT bU zx).keep0 b1).keep0 b8).keep0 ce).keepO bO bM zx).keep0 bR).keepO bW bV zx
         have hlab := all9 hlab fun _ h => h.keepO bW bV zx
         have hown := all9 hown fun _ h => h.keepO bW bV zx
         have hro := (((((((hro.keep0 bL).keepO bT bU zx).keep0 b1).keep0 b8).keep0 ce).keepO bO bM zx).keep0 bR).keepO bW bV zx
         have hK := hK.keepG (Gr.of bV) dsvhK.symm
         have htg := (((((((htg.keep0 bL).keepO bT bU zx).keep0 b1).keep0 b8).keep0 ce).keepO bO bM zx).keep0 bR).keepO bW bV zx
         have aC := (aC.keep0 bR).keepO bW bV zz
         have bN := bN.keepT bW bV zz
         have hb := below_stepO hb bW bV hb.size zx
         have bY : Own b7 w.heap.size 75 4 ah S.length (((C.set (oS (ops.getD i dK)).toNat (⟨(C.getD (oS (ops.getD i dK)).toNat default).la, (C.getD (oS (ops.getD i dK)).toNat default).ow, bP⟩ : DC))).flatMap cellsD) := by exact bY.cast (by simp) (set_dp zx)
         refine zB (J3 _ _ ?_)
         exact bp _ _ _ bQ bX ⟨ah, (C.set (oS (ops.getD i dK)).toNat (⟨(C.getD (oS (ops.getD i dK)).toNat default).la, (C.getD (oS (ops.getD i dK)).toNat default).ow, bP⟩ : DC)), (fun y => FD y ∨ PartD (⟨(C.getD (oS (ops.getD i dK)).toNat default).la, (C.getD (oS (ops.getD i dK)).toNat default).ow, bP⟩ : DC) y), (zL bQ rfl bZ), (zL bQ rfl b0), (zL bQ rfl b2), (zL bQ rfl b3), (zL bQ rfl b4), (zL bQ rfl b5), (zL bQ rfl b6).trans (congrArg (Value.int .i64) (sayE_room bq zx).symm), (fun y hy hf => hf.elim (hdj y hy) (fun hp => hp.elim (fun z => hdj y hy (hD_b.part be y (.inl z))) (fun hp => hp.elim (fun z => hdj y hy (hD_b.part be y (.inr (.inl z)))) (fun z => bS y hy z)))), hb, zx, hr, hlab, hown, hro, hK, htg, aC, (by rw [sayS_room bq zx]; exact hD_b.turn be bV (bY.cast zx rfl) ⟨bg.keepG (Gr.of bV) (fun y hy h => bg.notOwn hD_b.own zz y hy h), bh.keepG (Gr.of bV) (fun y hy h => bh.notOwn hD_b.own zz y hy h), (bN.cast (by simp) rfl)⟩)⟩
        refine one_mem ?_
        intro bP bL _ bO bN bQ bM o_ ho_; obtain rfl := zE ho_
        obtain ⟨hb, _⟩ := yE hb bL
        have hlab := all9 hlab fun _ h => h.keep0 bL
        have hown := all9 hown fun _ h => h.keep0 bL
        have hK := hK.kz bL
        have hD := hD.kz bL
        have bR : Sl bO 117 (.string (bs (oX (ops.getD i dK)))) := (bM 16 _ 117 zy rfl rfl).2 rfl
        refine op_bslice (e := 9) (pv := [(0, (.string (bs (oX (ops.getD i dK)))))]) (cs := [(.string (bs (oX (ops.getD i dK))))]) ⟨rfl, (zC bN rfl bR), trivial⟩ zy ?_
        intro bW bU bV bX bT bS
        obtain ⟨hb, _⟩ := yE hb bS
        have hlab := all9 hlab fun _ h => h.keep0 bS
        have hown := all9 hown fun _ h => h.keep0 bS
        have hK := hK.kz bS
        have hD := hD.kz bS
        have aC := (aC.keep0 bL).keep0 bS
        have hxd := (hxd.keep0 bL).keep0 bS
        have aQ := (aQ.keep0 bL).keep0 bS
        refine kt_end rfl ⟨aQ, hxd, aC⟩ (kt_step (rs := [14]) zy (one_mem ?_))
        intro b3 bY _ b1 b0 b2 bZ o_ ho_; obtain rfl := zE ho_
        obtain ⟨hb, _⟩ := yE hb bY
        have hlab := all9 hlab fun _ h => h.keep0 bY
        have hown := all9 hown fun _ h => h.keep0 bY
        have hK := hK.kz bY
        have hD := hD.kz bY
        have bf := ((bf.keep0 bL).keep0 bS).keep0 bY
        have bE := ((bE.keep0 bL).keep0 bS).keep0 bY
        have b4 : Sl b1 106 (.slice (some ⟨bF, 0, none⟩) 0 0) := (zE ((bZ 5 _ 106 zy rfl rfl).1 rfl)).symm
        have b5 : Sl b1 114 (C.getD (oS (ops.getD i dK)).toNat default).po := (bZ 13 _ 114 zy rfl rfl).2 rfl
        have b6 := (Own.ofBx (base := w.heap.size) (sz := 1) (n := 0) bE rfl zz zx)
        refine op_append slt26 (zC b0 rfl b4) b6 (zC b0 rfl b5) (Src.ofRd Try.underlying26 zz bf.rdw (one_sv _)) (by unfold maxLen; omega) zx hb.size ?_
        intro b9 cb b8 b7 ca
        have cc : Dj FK (Bl b9) := Dj.step ca (fun k hk => (hK.lt k hk).2) (Dj.one bJ)
        have cd : Dj FD (Bl b9) := Dj.step ca (fun k hk => (hD.lt k hk).2) (Dj.one bK)
        have := b7.size
        have hlab := all9 hlab fun _ h => h.keepO b6 b7 zx
        have hown := all9 hown fun _ h => h.keepO b6 b7 zx
        have aC := (aC.keep0 bY).keep b7 (by simp [Value.ownBlock]; try omega)
        have hxd := (hxd.keep0 bY).keep b7 (by simp [Value.ownBlock]; try omega)
        have aQ := (aQ.keep0 bY).keepT b6 b7 zz
        have hb := below_stepO hb b6 b7 hb.size zx
        have b8 : Own cb w.heap.size 9 1 b9 (0 + (S.getD (oS (ops.getD i dK)).toNat default).texts.length) (((S.getD (oS (ops.getD i dK)).toNat default).texts).map sv) := by simpa [u8v, sv] using b8
        refine kt_end rfl ⟨aQ, hxd, aC⟩ (kt_step (rs := [18]) zy (one_mem ?_))
        intro cj ce _ cf ci ck cg o_ ho_; obtain rfl := zE ho_
        obtain ⟨hb, _⟩ := yE hb ce
        have hlab := all9 hlab fun _ h => h.keep0 ce
        have hown := all9 hown fun _ h => h.keep0 ce
        have hK := (hK.keepG (Gr.of b7) (Dj.one bJ)).kz ce
        have bT := ((bT.keep0 bY).keep b7 (by simp [Value.ownBlock]; try omega)).keep0 ce
        have b8 := b8.keep0 ce
        have aP : Sl cf 115 b9 := (zE ((cg 14 _ 115 zy rfl rfl).1 rfl)).symm
        have bd : Sl cf 118 (.slice (some ⟨bU, 0, none⟩) 1 1) := (zE ((cg 17 _ 118 zy rfl rfl).1 rfl)).symm
        have bi := b8
        refine op_append slt26 (zC ci rfl aP) bi (zC ci rfl bd) (Src.ofRd Try.underlying26 zz (RdC.ofBx (sz := 1) (n := 1) bT rfl zz) (by simp [Value.oneCell', u8v])) (by unfold maxLen; omega) zx hb.size ?_
        intro bA bC bd aP bB
        have bD : Dj FK (Bl bA) := Dj.step bB (fun k hk => (hK.lt k hk).2) cc
        have := aP.size
        have hlab := all9 hlab fun _ h => h.keepO bi aP zx
        have hown := all9 hown fun _ h => h.keepO bi aP zx
        have hD := ((hD.keepG (Gr.of b7) (Dj.one bK)).kz ce).keepG (Gr.of aP) cd
        have aC := (aC.keep0 ce).keepO bi aP zz
        have hxd := (hxd.keep0 ce).keepO bi aP zz
        have aQ := (aQ.keep0 ce).keepT bi aP zz
        have hb := below_stepO hb bi aP hb.size zx
        have bd : Own bC w.heap.size 9 1 bA ((0 + (S.getD (oS (ops.getD i dK)).toNat default).texts.length) + 1) ((((S.getD (oS (ops.getD i dK)).toNat default).texts ++ [(oX (ops.getD i dK))])).map sv) := by simpa [u8v, sv] using bd
        refine kt_end rfl ⟨aQ, hxd, aC⟩ ?_
        intro bI bC bG bB bF bE bH
        have bF := bF.trans ((by simp only [putsL_defers] : _ = _).trans aZ)
        obtain ⟨hb, _⟩ := yE hb bC
        have hlab := all9 hlab fun _ h => h.keep0 bC
        have hown := all9 hown fun _ h => h.keep0 bC
        have hK := (hK.keepG (Gr.of aP) cc).kz bC
        have hD := hD.kz bC
        have aQ := aQ.keep0 bC
        have bd := bd.keep0 bC
        have bI := (bE 1 rfl).trans (zL aT rfl aX)
        have bJ := (bE 5 rfl).trans (zL aT rfl aW)
        have bK := (bE 7 rfl).trans (zL aT rfl aU)
        have bM := (bE 9 rfl).trans (zL aT rfl aY)
        have bN := (bE 10 rfl).trans (zL aT rfl a1)
        have bO := (bE 11 rfl).trans (zL aT rfl aV)
        have bP := (bE 18 rfl).trans (zU aT rfl)
        have bE : Sl bG 104 ah := (bH 3 _ 104 rfl rfl).2 rfl
        have bQ : Sl bG 105 (.int .i64 (oS (ops.getD i dK))) := (bH 4 _ 105 rfl rfl).2 rfl
        have bR : Sl bG 119 bA := (zE ((bH 18 _ 119 rfl rfl).1 rfl)).symm
        refine split_end (from_seq (tl := [_, _, _]) zz zy rfl ?_)
        have hD_b := hD
        obtain ⟨bg, bh, _⟩ := hD_b.at_ be
        have dsvhK : Dj (Bl ah) FK := fun y hy h => hdj y h (hD_b.sub y hy)
        refine op_index_own (i := (oS (ops.getD i dK)).toNat) slt69 (zC bB rfl bE) aQ (zC bB rfl bQ) zx zx ?_
        intro bG bH bQ bE
        refine zM fld75_2 (zA bB rfl) ?_
        have bG := aQ
        refine op_store_own (vs := [bA]) size26 (zA bB rfl) (zC bB rfl bR) bd.cl rfl (by simp only [yA, yB, yC, yD, bd.one]; try rfl) bG (bE.fld 2) (by have := bG.1; simp only [List.length_cons, List.length_nil]; omega) ?_
        intro bQ bH bE
        have := bE.size
        have hr := (((((((hr.keep0 bL).keep0 bS).keep0 bY).keepO b6 b7 zx).keep0 ce).keepO bi aP zx).keep0 bC).keepO bG bE zx
        have hlab := all9 hlab fun _ h => h.keepO bG bE zx
        have hown := all9 hown fun _ h => h.keepO bG bE zx
        have hro := (((((((hro.keep0 bL).keep0 bS).keep0 bY).keepO b6 b7 zx).keep0 ce).keepO bi aP zx).keep0 bC).keepO bG bE zx
        have hK := hK.keepG (Gr.of bE) dsvhK.symm
        have htg := (((((((htg.keep0 bL).keep0 bS).keep0 bY).keepO b6 b7 zx).keep0 ce).keepO bi aP zx).keep0 bC).keepO bG bE zx
        have aC := (aC.keep0 bC).keepO bG bE zz
        have bd := bd.keepT bG bE zz
        have hb := below_stepO hb bG bE hb.size zx
        have bH : Own bQ w.heap.size 75 4 ah S.length (((C.set (oS (ops.getD i dK)).toNat (⟨(C.getD (oS (ops.getD i dK)).toNat default).la, (C.getD (oS (ops.getD i dK)).toNat default).ow, bA⟩ : DC))).flatMap cellsD) := by exact bH.cast (by simp) (set_dp zx)
        refine zB (J3 _ _ ?_)
        exact bp _ _ _ bB bF ⟨ah, (C.set (oS (ops.getD i dK)).toNat (⟨(C.getD (oS (ops.getD i dK)).toNat default).la, (C.getD (oS (ops.getD i dK)).toNat default).ow, bA⟩ : DC)), (fun y => FD y ∨ PartD (⟨(C.getD (oS (ops.getD i dK)).toNat default).la, (C.getD (oS (ops.getD i dK)).toNat default).ow, bA⟩ : DC) y), (zL bB rfl bI), (zL bB rfl bJ), (zL bB rfl bK), (zL bB rfl bM), (zL bB rfl bN), (zL bB rfl bO), (zL bB rfl bP).trans (congrArg (Value.int .i64) (sayE_room bq zx).symm), (fun y hy hf => hf.elim (hdj y hy) (fun hp => hp.elim (fun z => hdj y hy (hD_b.part be y (.inl z))) (fun hp => hp.elim (fun z => hdj y hy (hD_b.part be y (.inr (.inl z)))) (fun z => bD y hy z)))), hb, zx, hr, hlab, hown, hro, hK, htg, aC, (by rw [sayS_room bq zx]; exact hD_b.turn be bE (bH.cast zx rfl) ⟨bg.keepG (Gr.of bE) (fun y hy h => bg.notOwn hD_b.own zz y hy h), bh.keepG (Gr.of bE) (fun y hy h => bh.notOwn hD_b.own zz y hy h), (bd.cast (by simp) rfl)⟩)⟩
       refine one_mem ?_
       intro bC aP _ bd bi bB bA o_ ho_; obtain rfl := zE ho_
       obtain ⟨hb, _⟩ := yE hb aP
       have hlab := all9 hlab fun _ h => h.keep0 aP
       have hown := all9 hown fun _ h => h.keep0 aP
       have hK := hK.kz aP
       have hD := hD.kz aP
       have bD : Sl bd 117 (.string (bs (oX (ops.getD i dK)))) := (bA 16 _ 117 zy rfl rfl).2 rfl
       refine op_bslice (e := 9) (pv := [(0, (.string (bs (oX (ops.getD i dK)))))]) (cs := [(.string (bs (oX (ops.getD i dK))))]) ⟨rfl, (zC bi rfl bD), trivial⟩ zy ?_
       intro bJ bG bH bI bF bE
       obtain ⟨hb, _⟩ := yE hb bE
       have hlab := all9 hlab fun _ h => h.keep0 bE
       have hown := all9 hown fun _ h => h.keep0 bE
       have hK := hK.kz bE
       have hD := hD.kz bE
       have aC := (aC.keep0 aP).keep0 bE
       have hxd := (hxd.keep0 aP).keep0 bE
       have aQ := (aQ.keep0 aP).keep0 bE
       refine kt_end rfl ⟨aQ, hxd, aC⟩ (kt_step (rs := [5]) zy (one_mem ?_))
       intro bO bK _ bL bP bM bN o_ ho_; obtain rfl := zE ho_
       obtain ⟨hb, _⟩ := yE hb bK
       have hlab := all9 hlab fun _ h => h.keep0 bK
       have hown := all9 hown fun _ h => h.keep0 bK
       have hK := hK.kz bK
       have hD := hD.kz bK
       refine op_bslice (e := 9) (pv := []) (cs := []) trivial zy ?_
       intro bV bS bT bU bR bQ
       have bW : ¬ FK bS := fun hf => by have := (hK.lt _ hf).2; omega
       have bX : ¬ FD bS := fun hf => by have := (hD.lt _ hf).2; omega
       obtain ⟨hb, _⟩ := yE hb bQ
       have hlab := all9 hlab fun _ h => h.keep0 bQ
       have hown := all9 hown fun _ h => h.keep0 bQ
       have hK := hK.kz bQ
       have hD := hD.kz bQ
       have aC := (aC.keep0 bK).keep0 bQ
       have hxd := (hxd.keep0 bK).keep0 bQ
       have aQ := (aQ.keep0 bK).keep0 bQ
       refine kt_end rfl ⟨aQ, hxd, aC⟩ (kt_step (rs := [14]) zy (one_mem ?_))
       intro b3 bY _ b1 bZ b2 b0 o_ ho_; obtain rfl := zE ho_
       obtain ⟨hb, _⟩ := yE hb bY
       have hlab := all9 hlab fun _ h => h.keep0 bY
       have hown := all9 hown fun _ h => h.keep0 bY
       have hK := hK.kz bY
       have hD := hD.kz bY
       have bf := ((((bf.keep0 aP).keep0 bE).keep0 bK).keep0 bQ).keep0 bY
       have bR := bR.keep0 bY
       have b4 : Sl b1 106 (.slice (some ⟨bS, 0, none⟩) 0 0) := (zE ((b0 5 _ 106 zy rfl rfl).1 rfl)).symm
       have b5 : Sl b1 114 (C.getD (oS (ops.getD i dK)).toNat default).po := (b0 13 _ 114 zy rfl rfl).2 rfl
       have b6 := (Own.ofBx (base := w.heap.size) (sz := 1) (n := 0) bR rfl zz zx)
       refine op_append slt26 (zC bZ rfl b4) b6 (zC bZ rfl b5) (Src.ofRd Try.underlying26 zz bf.rdw (one_sv _)) (by unfold maxLen; omega) zx hb.size ?_
       intro b8 ca b7 bf b9
       have cb : Dj FK (Bl b8) := Dj.step b9 (fun k hk => (hK.lt k hk).2) (Dj.one bW)
       have cc : Dj FD (Bl b8) := Dj.step b9 (fun k hk => (hD.lt k hk).2) (Dj.one bX)
       have := bf.size
       have hlab := all9 hlab fun _ h => h.keepO b6 bf zx
       have hown := all9 hown fun _ h => h.keepO b6 bf zx
       have aC := (aC.keep0 bY).keep bf (by simp [Value.ownBlock]; try omega)
       have hxd := (hxd.keep0 bY).keep bf (by simp [Value.ownBlock]; try omega)
       have aQ := (aQ.keep0 bY).keepT b6 bf zz
       have hb := below_stepO hb b6 bf hb.size zx
       have b7 : Own ca w.heap.size 9 1 b8 (0 + (S.getD (oS (ops.getD i dK)).toNat default).texts.length) (((S.getD (oS (ops.getD i dK)).toNat default).texts).map sv) := by simpa [u8v, sv] using b7
       refine kt_end rfl ⟨aQ, hxd, aC⟩ (kt_step (rs := [18]) zy (one_mem ?_))
       intro ci cd _ ce cf cj cg o_ ho_; obtain rfl := zE ho_
       obtain ⟨hb, _⟩ := yE hb cd
       have hlab := all9 hlab fun _ h => h.keep0 cd
       have hown := all9 hown fun _ h => h.keep0 cd
       have hK := (hK.keepG (Gr.of bf) (Dj.one bW)).kz cd
       have bF := ((((bF.keep0 bK).keep0 bQ).keep0 bY).keep bf (by simp [Value.ownBlock]; try omega)).keep0 cd
       have b7 := b7.keep0 cd
       have a : Sl ce 115 b8 := (zE ((cg 14 _ 115 zy rfl rfl).1 rfl)).symm
       have c : Sl ce 118 (.slice (some ⟨bG, 0, none⟩) 1 1) := (zE ((cg 17 _ 118 zy rfl rfl).1 rfl)).symm
       have f := b7
       refine op_append slt26 (zC cf rfl a) f (zC cf rfl c) (Src.ofRd Try.underlying26 zz (RdC.ofBx (sz := 1) (n := 1) bF rfl zz) (by simp [Value.oneCell', u8v])) (by unfold maxLen; omega) zx hb.size ?_
       intro p s c a A
       have B : Dj FK (Bl p) := Dj.step A (fun k hk => (hK.lt k hk).2) cb
       have := a.size
       have hlab := all9 hlab fun _ h => h.keepO f a zx
       have hown := all9 hown fun _ h => h.keepO f a zx
       have hD := ((hD.keepG (Gr.of bf) (Dj.one bX)).kz cd).keepG (Gr.of a) cc
       have aC := (aC.keep0 cd).keepO f a zz
       have hxd := (hxd.keep0 cd).keepO f a zz
       have aQ := (aQ.keep0 cd).keepT f a zz
       have hb := below_stepO hb f a hb.size zx
       have c : Own s w.heap.size 9 1 p ((0 + (S.getD (oS (ops.getD i dK)).toNat default).texts.length) + 1) ((((S.getD (oS (ops.getD i dK)).toNat default).texts ++ [(oX (ops.getD i dK))])).map sv) := by simpa [u8v, sv] using c
       refine kt_end rfl ⟨aQ, hxd, aC⟩ ?_
       intro K A I s J D H
       have J := J.trans ((by simp only [putsL_defers] : _ = _).trans aZ)
       obtain ⟨hb, _⟩ := yE hb A
       have hlab := all9 hlab fun _ h => h.keep0 A
       have hown := all9 hown fun _ h => h.keep0 A
       have hK := (hK.keepG (Gr.of a) cb).kz A
       have hD := hD.kz A
       have aQ := aQ.keep0 A
       have c := c.keep0 A
       have K := (D 1 rfl).trans (zL aT rfl aX)
       have P := (D 5 rfl).trans (zL aT rfl aW)
       have Q := (D 7 rfl).trans (zL aT rfl aU)
       have R := (D 9 rfl).trans (zL aT rfl aY)
       have U := (D 10 rfl).trans (zL aT rfl a1)
       have V := (D 11 rfl).trans (zL aT rfl aV)
       have W := (D 18 rfl).trans (zU aT rfl)
       have D : Sl I 104 ah := (H 3 _ 104 rfl rfl).2 rfl
       have X : Sl I 105 (.int .i64 (oS (ops.getD i dK))) := (H 4 _ 105 rfl rfl).2 rfl
       have Y : Sl I 119 p := (zE ((H 18 _ 119 rfl rfl).1 rfl)).symm
       refine split_end (from_seq (tl := [_, _, _]) zz zy rfl ?_)
       have hD_b := hD
       obtain ⟨bg, bh, _⟩ := hD_b.at_ be
       have dsvhK : Dj (Bl ah) FK := fun y hy h => hdj y h (hD_b.sub y hy)
       refine op_index_own (i := (oS (ops.getD i dK)).toNat) slt69 (zC s rfl D) aQ (zC s rfl X) zx zx ?_
       intro I H X D
       refine zM fld75_2 (zA s rfl) ?_
       have H := aQ
       refine op_store_own (vs := [p]) size26 (zA s rfl) (zC s rfl Y) c.cl rfl (by simp only [yA, yB, yC, yD, c.one]; try rfl) H (D.fld 2) (by have := H.1; simp only [List.length_cons, List.length_nil]; omega) ?_
       intro X I D
       have := D.size
       have hr := (((((((((hr.keep0 aP).keep0 bE).keep0 bK).keep0 bQ).keep0 bY).keepO b6 bf zx).keep0 cd).keepO f a zx).keep0 A).keepO H D zx
       have hlab := all9 hlab fun _ h => h.keepO H D zx
       have hown := all9 hown fun _ h => h.keepO H D zx
       have hro := (((((((((hro.keep0 aP).keep0 bE).keep0 bK).keep0 bQ).keep0 bY).keepO b6 bf zx).keep0 cd).keepO f a zx).keep0 A).keepO H D zx
       have hK := hK.keepG (Gr.of D) dsvhK.symm
       have htg := (((((((((htg.keep0 aP).keep0 bE).keep0 bK).keep0 bQ).keep0 bY).keepO b6 bf zx).keep0 cd).keepO f a zx).keep0 A).keepO H D zx
       have aC := (aC.keep0 A).keepO H D zz
       have c := c.keepT H D zz
       have hb := below_stepO hb H D hb.size zx
       have I : Own X w.heap.size 75 4 ah S.length (((C.set (oS (ops.getD i dK)).toNat (⟨(C.getD (oS (ops.getD i dK)).toNat default).la, (C.getD (oS (ops.getD i dK)).toNat default).ow, p⟩ : DC))).flatMap cellsD) := by exact I.cast (by simp) (set_dp zx)
       refine zB (J3 _ _ ?_)
       exact bp _ _ _ s J ⟨ah, (C.set (oS (ops.getD i dK)).toNat (⟨(C.getD (oS (ops.getD i dK)).toNat default).la, (C.getD (oS (ops.getD i dK)).toNat default).ow, p⟩ : DC)), (fun y => FD y ∨ PartD (⟨(C.getD (oS (ops.getD i dK)).toNat default).la, (C.getD (oS (ops.getD i dK)).toNat default).ow, p⟩ : DC) y), (zL s rfl K), (zL s rfl P), (zL s rfl Q), (zL s rfl R), (zL s rfl U), (zL s rfl V), (zL s rfl W).trans (congrArg (Value.int .i64) (sayE_room bq zx).symm), (fun y hy hf => hf.elim (hdj y hy) (fun hp => hp.elim (fun z => hdj y hy (hD_b.part be y (.inl z))) (fun hp => hp.elim (fun z => hdj y hy (hD_b.part be y (.inr (.inl z)))) (fun z => B y hy z)))), hb, zx, hr, hlab, hown, hro, hK, htg, aC, (by rw [sayS_room bq zx]; exact hD_b.turn be D (I.cast zx rfl) ⟨bg.keepG (Gr.of D) (fun y hy h => bg.notOwn hD_b.own zz y hy h), bh.keepG (Gr.of D) (fun y hy h => bh.notOwn hD_b.own zz y hy h), (c.cast (by simp) rfl)⟩)⟩
      refine zB (J4 _ _ (wp_cond_false (zA aT rfl) (wp_skip (J3 _ _ ?_))))
      exact bp _ _ _ aT aZ ⟨ah, C, FD, (zL aT rfl aX), (zL aT rfl aW), (zL aT rfl aU), (zL aT rfl aY), (zL aT rfl a1), (zL aT rfl aV), (zU aT rfl).trans (congrArg (Value.int .i64) (sayE_full bq zx).symm), hdj, hb, zx, hr, hlab, hown, hro, hK, htg, aC, (by rw [sayS_full bq zx]; exact hD)⟩
     refine wp_skip (J3 _ _ ?_)
     exact bp _ _ _ aT aZ ⟨ah, C, FD, (zL aT rfl aX), (zL aT rfl aW), (zL aT rfl aU), (zL aT rfl aY), (zL aT rfl a1), (zL aT rfl aV), (zU aT rfl).trans (congrArg (Value.int .i64) (sayE_out bq).symm), hdj, hb, zx, hr, hlab, hown, hro, hK, htg, aC, (by rw [sayS_out bq]; exact hD)⟩
    rintro K I a H ⟨bk, C3, bj, D, c, s, B, p, A, f, bn, hb, J, hr, hlab, hown, hro, hK, htg, aC, bm⟩
    have := hb.size
    refine zF fun _ J3 => ?_
    refine zH (zG (zC a rfl c) (zG (zC a rfl A) (zM fld84_2 (zC a rfl p) (zN one9 (zA a rfl) (aC.cell rfl) (zj ok40 (SayR (oS (ops.getD i dK)) (oX (ops.getD i dK)) zx hok.1 hK) ⟨(zA a rfl), ⟨(zA a rfl), ⟨(zA a rfl), trivial⟩⟩⟩ ?_)))))
    rintro _ K ⟨p, rfl, A, I, J⟩
    have K := aC.lt
    have K := bm.lt
    have hK_old := hK
    have := p.size
    have hr := hr.keepG p (fun k hk => .inr (by have := hK_old.lt k hk; omega))
    have hlab := all9 hlab fun _ h => h.keepG p (fun k hk => .inr (by have := hK_old.lt k hk; omega))
    have hown := all9 hown fun _ h => h.keepG p (fun k hk => .inr (by have := hK_old.lt k hk; omega))
    have hro := hro.keepG p (fun k hk => .inr (by have := hK_old.lt k hk; omega))
    have bm := bm.keepG p bn.symm
    have hb := below_stepG hb p hb.size (fun k hk => (hK_old.lt k hk).1)
    have p : Dj bj A := Dj.stepF J (fun k hk => (K k hk).2) bn.symm
    refine zG (zC a rfl f) (op_neq (zA a rfl) (zA a rfl) (fun J => ?_) (fun J => ?_))
    ·
     exact absurd rfl J
    refine zB (J3 _ _ (wp_cond_false (zA a rfl) (wp_skip (J2 _ _ ?_))))
    exact a5 _ _ _ a H ⟨sayS S (oS (ops.getD i dK)) (oX (ops.getD i dK)), M, T, kk, bk, C3, A, bj, (zL a rfl D), (zL a rfl s), (zL a rfl B), (zL a rfl c), (hok.say (oS (ops.getD i dK)) (oX (ops.getD i dK))), hst, aj, zx, p.symm, hb, zx, hr, hlab, hown, hro, I, bm⟩
   rintro R Q a D ⟨S2, M2, T2, a7, a9, C2, a8, a6, P, s, J, B, p, I, H, K, f, hb, U, hr, hlab, hown, hro, A, c⟩
   have := hb.size
   refine zF fun _ J2 => zH (zG (zC a rfl B) (zG (zC a rfl s) (zj ok48 (sameX zx A c f p) ⟨(zA a rfl), ⟨(zA a rfl), trivial⟩⟩ ?_)))
   rintro _ W ⟨Q, rfl, R, V, U⟩
   have W := c.lt
   have X := A
   have := Q.size
   have hr := hr.keepG Q (fun k hk => .inr (by have := X.lt k hk; omega))
   have hlab := all9 hlab fun _ h => h.keepG Q (fun k hk => .inr (by have := X.lt k hk; omega))
   have hown := all9 hown fun _ h => h.keepG Q (fun k hk => .inr (by have := X.lt k hk; omega))
   have hro := hro.keepG Q (fun k hk => .inr (by have := X.lt k hk; omega))
   have c := c.keepG Q f.symm
   have hb := below_stepG hb Q hb.size (fun k hk => (X.lt k hk).1)
   have A : Dj a6 R := Dj.stepF U (fun k hk => (W k hk).2) f.symm
   refine op_not (zA a rfl) (zB (J2 _ _ (wp_cond_false (zA a rfl) (wp_skip (F _ _ (zH (zG (zC a rfl J) (op_add (zA a rfl) rfl (add64 zx) (zD (zA a rfl) (zB ?_))))))))))
   -- round 23F 28F 32T 55T 65F 70F
   exact zg _ a D ⟨(i + 1), S2, M2, T2, a7, a9, C2, R, a6, rfl, (zL a rfl P), (zL a rfl s), (zU a rfl).trans (congrArg (Value.int .i64) zx), (zL a rfl B), zx, p, I, H, K, A.symm, hb, zx, hr, hlab, hown, hro, V, c⟩ zx
  refine zB (J2 _ _ (wp_cond_false (zA ai rfl) (wp_exit (then_exit (then_exit (blk_hit (g _ _ (zF fun _ g => zH (zD rfl (zB (g _ _ (wp_ret (ret1 rfl ak (zA ai rfl) ⟨_, rfl, ?_⟩)))))))))))))
  exact ⟨hb, rfl⟩
 refine zj ok32 (kernNewF O (L := L) (q := q) hL (by assumption) (hr.mono (Nat.zero_le _) zx) (fun x hx => (hlab x hx).mono (Nat.zero_le _) zx) (fun x hx => (hown x hx).mono (Nat.zero_le _) zx)) ⟨(zA hN rfl), trivial⟩ ?_
 rintro _ c ⟨a, rfl⟩
 have a := zQ a
 obtain ⟨hb, _⟩ := yE hb a
 have hr := hr.keep0 a
 have hlab := all9 hlab fun _ h => h.keep0 a
 have hown := all9 hown fun _ h => h.keep0 a
 have l := l.keep0 a
 refine zG (zA hN rfl) (zW (zA hN rfl) rfl (zW (zA hN rfl) rfl (zD (zA hN rfl) ?_)))
 refine zD (zA hN rfl) (zB (g _ _ (zF fun _ g => zH (zY agg59 rfl (zA hN rfl) l (zj ok36 (newDBF O (L := L) (q := q) hL (by assumption) (hr.mono (Nat.zero_le _) zx) (fun x hx => (hlab x hx).mono (Nat.zero_le _) zx) (fun x hx => (hown x hx).mono (Nat.zero_le _) zx)) ⟨(zA hN rfl), trivial⟩ ?_)))))
 rintro _ c ⟨a, rfl⟩
 have a := zQ a
 obtain ⟨hb, _⟩ := yE hb a
 refine zG (zA hN rfl) (zW (zA hN rfl) rfl (zW (zA hN rfl) rfl (zD (zA hN rfl) (zD (zA hN rfl) (zB (g _ _ (zF fun _ g => zF fun _ F => zH (zG (zA hN rfl) ?_))))))))
 refine op_peq_none ptrt50 (zA hN rfl) rfl (zG (zA hN rfl) (zR (j := 2) (dj := 42) (b := false) rfl rfl rfl (zA hN rfl) rfl rfl (zR (j := 2) (dj := 42) (b := false) rfl rfl rfl (zA hN rfl) rfl rfl (zc (zA hN rfl) rfl (zB (F _ _ (wp_cond_true (zA hN rfl) (zF fun _ F => zH (zG (zA hN rfl) (op_peq_none ptrt50 (zA hN rfl) rfl ?_))))))))))
 refine zG (zA hN rfl) (zS (j := 2) (dj := 48) (b := true) rfl rfl rfl (zA hN rfl) (zG (zA hN rfl) (zS (j := 2) (dj := 48) (b := true) rfl rfl rfl (zA hN rfl) (op_peq_none ptrt65 (zA hN rfl) rfl (zc (zA hN rfl) (zA hN rfl) (zD (zA hN rfl) (zB (F _ _ (wp_ret (zO ( (ret1 rfl hd (zA hN rfl) ⟨_, rfl, ?_⟩))))))))))))
 exact ⟨hb, rfl⟩

end Go.Proofs.Ytmhdbphpmgjpcaa
