/- Small laws for walks, the forty-ninth part: a region of open order in which some operations, each waiting for the one before, turn one object; each operation is told once, at any world that grew from the region's beginning. -/
import Derived.Test.YthflnkfghogaoaaGreatProg
import Derived.KernelRfl
import Derived.Test.YthflnkfghogaoaaGreatB6
set_option linter.unusedVariables false
set_option linter.unusedSimpArgs false

namespace Go.Gx
open Go.RowKit
section
variable {P : Program} {ol : List Oper} {Q : Exit → Act → World → Prop} {a0 : Act} {N : Nat} {F : Nat → Prop} {Pk : World → Prop}
def StR (F : Nat → Prop) : List (Value → World → Prop) → Prop
  | [] => True
  | φ :: L => (∀ u w1 w2, Gr w1 w2 F → φ u w1 → φ u w2) ∧ StR F L
theorem StR.get : ∀ {L : List (Value → World → Prop)}, StR F L → ∀ j u w1 w2, Gr w1 w2 F → phiL L j u w1 → phiL L j u w2
  | [], _, j, _, _, _, _, _ => by simp [phiL]
  | φ :: L, h, 0, u, w1, w2, E, hp => h.1 u w1 w2 E hp
  | φ :: L, h, j + 1, u, w1, w2, E, hp => StR.get h.2 j u w1 w2 E (by simpa [phiL] using hp)
theorem StR.nil : StR F [] := trivial
theorem StR.cons {φ : Value → World → Prop} {L : List (Value → World → Prop)} (h : ∀ u w1 w2, Gr w1 w2 F → φ u w1 → φ u w2) (h' : StR F L) : StR F (φ :: L) := ⟨h, h'⟩
def ObW9 (P : Program) (ol : List Oper) (Φ : Nat → Value → World → Prop) (Pk : World → Prop) (F : Nat → Prop) (a0 : Act) (N : Nat) (w0 : World) (i : Nat) (o : Oper) : Prop :=
  ∀ (a : Act) (w : World), a.tmps.size = N → Gr w0 w F → Pk w → (∀ t, safeB ol i t = true → a.tmps.getD t undef = a0.tmps.getD t undef) → (∀ j oj d, depB ol i j = true → ol[j]? = some oj → oj.dst = some d → Φ j (a.tmps.getD d undef) w) →
    wpList P ol.toArray (fun e a' w' => e = .normal ∧ (∃ d v, o.dst = some d ∧ a' = putsL a [(d, v)] ∧ Φ i v w') ∧ w.grownBy w' none) [o] (putsL a []) w
def ObT9 (P : Program) (ol : List Oper) (Φ : Nat → Value → World → Prop) (Pk : World → Prop) (F : Nat → Prop) (a0 : Act) (N : Nat) (w0 : World) (i : Nat) (o : Oper) : Prop :=
  ∀ (a : Act) (w : World), a.tmps.size = N → Gr w0 w F → Pk w → (∀ t, safeB ol i t = true → a.tmps.getD t undef = a0.tmps.getD t undef) → (∀ j oj d, depB ol i j = true → ol[j]? = some oj → oj.dst = some d → Φ j (a.tmps.getD d undef) w) →
    wpList P ol.toArray (fun e a' w' => e = .normal ∧ ((o.dst = none ∧ a' = a) ∨ ∃ d v, o.dst = some d ∧ a' = putsL a [(d, v)] ∧ Φ i v w') ∧ Pk w' ∧ Gr w w' F) [o] (putsL a []) w
def ObWs9 (P : Program) (ol : List Oper) (Φ : Nat → Value → World → Prop) (Pk : World → Prop) (F : Nat → Prop) (a0 : Act) (N : Nat) (w0 : World) (ops : List Nat) : Nat → List Oper → Prop
  | _, [] => True
  | i, o :: r => ((ops.contains i = false → ObW9 P ol Φ Pk F a0 N w0 i o) ∧ (ops.contains i = true → ObT9 P ol Φ Pk F a0 N w0 i o)) ∧ ObWs9 P ol Φ Pk F a0 N w0 ops (i + 1) r
section
variable {Φ : Nat → Value → World → Prop} {w0 : World} {ops : List Nat}
theorem ObWs9.nil {i : Nat} : ObWs9 P ol Φ Pk F a0 N w0 ops i [] := trivial
theorem ObWs9.cons {i : Nat} {o : Oper} {r : List Oper} (hh : ops.contains i = false) (h : ObW9 P ol Φ Pk F a0 N w0 i o) (h' : ObWs9 P ol Φ Pk F a0 N w0 ops (i + 1) r) : ObWs9 P ol Φ Pk F a0 N w0 ops i (o :: r) := ⟨⟨fun _ => h, fun g => absurd (hh.symm.trans g) (by decide)⟩, h'⟩
theorem ObWs9.turn {i : Nat} {o : Oper} {r : List Oper} (hh : ops.contains i = true) (h : ObT9 P ol Φ Pk F a0 N w0 i o) (h' : ObWs9 P ol Φ Pk F a0 N w0 ops (i + 1) r) : ObWs9 P ol Φ Pk F a0 N w0 ops i (o :: r) := ⟨⟨fun g => absurd (hh.symm.trans g) (by decide), fun _ => h⟩, h'⟩
theorem ObWs9.get : ∀ {l : List Oper} {i : Nat}, ObWs9 P ol Φ Pk F a0 N w0 ops i l → ∀ j o, l[j]? = some o → (ops.contains (i + j) = false → ObW9 P ol Φ Pk F a0 N w0 (i + j) o) ∧ (ops.contains (i + j) = true → ObT9 P ol Φ Pk F a0 N w0 (i + j) o)
  | [], _, _, j, o, h => by simp at h
  | o :: l, i, h, 0, o', hj => by simp at hj; subst hj; exact h.1
  | o :: l, i, h, j + 1, o', hj => by have := ObWs9.get h.2 j o' (by simpa using hj); rw [Nat.add_assoc, Nat.add_comm 1 j] at this; exact this
end
theorem any_rel (ops : List Nat) {L : List (Value → World → Prop)} (hlex : lexB' ol = true) (hdn : dstNB ol N = true) (hdst : dstsB ol = true) (hch : (⟨ops, fun _ => N⟩ : Chain).okB ol = true)
    {l : List (Nat × Value)} {w : World} (hN : a0.tmps.size = N) (hPk : ∀ w1 w2, w1.grownBy w2 none → Pk w1 → Pk w2) (p0 : Pk w) (hL : StR F L)
    (ob : ObWs9 P ol (phiL L) Pk F (putsL a0 l) N w ops 0 ol)
    (fin : ∀ a' w', a'.tmps.size = N → a'.defers = a0.defers → (∀ t, (ol.all fun o => o.dst != some t) = true → a'.tmps.getD t undef = (putsL a0 l).tmps.getD t undef) →
      (∀ j oj d, ol[j]? = some oj → oj.dst = some d → phiL L j (a'.tmps.getD d undef) w') → Pk w' → Gr w w' F → Q .normal (putsL a' []) w') : RegAny P ol Q (putsL a0 l) w := by
  refine any_mid0 (Φ := phiL L) (C := fun _ _ w => Pk w) (ch := ⟨ops, fun _ => N⟩) (R := fun w1 w2 => Gr w1 w2 F) hlex hdn hdst hch (fun w => Gr.refl w F) (fun _ _ _ h1 h2 => h1.go h2 fun _ _ h => h) (fun _ _ h => Gr.of0 h F) (fun j u w1 w2 E h => hL.get j u w1 w2 E h)
    (fun _ _ _ _ E h => hPk _ _ E h) hN p0 (fun i o hi hh => fun a w c h1 h2 h3 h4 h5 h6 h7 => ?_) (fun c i o hc hi => fun a w h1 h2 h3 h4 h5 => ?_) fin
  · have h9 := ob.get i o hi
    rw [Nat.zero_add] at h9
    exact h9.1 hh a w h1 h2 h5 h6 h7
  · have h9 := ob.get i o hi
    rw [Nat.zero_add] at h9
    have hm : ops.contains i = true := by simpa using List.mem_of_getElem? hc
    exact h9.2 hm a w h1 h2 h5 h3 h4
theorem obW_rel {Φ : Nat → Value → World → Prop} {o : Oper} {op : Array Oper} {i d : Nat} {v : Value} {a : Act} {w w' : World} (hd : o.dst = some d) (hφ : Φ i v w') (E : w.grownBy w' none) :
    wpList P op (fun e a' w' => e = .normal ∧ (∃ d v, o.dst = some d ∧ a' = putsL a [(d, v)] ∧ Φ i v w') ∧ w.grownBy w' none) [] (putsL a [(d, v)]) w' := ⟨rfl, ⟨d, v, hd, rfl, hφ⟩, E⟩
theorem obT_rel {Φ : Nat → Value → World → Prop} {o : Oper} {op : Array Oper} {i d : Nat} {v : Value} {a : Act} {w w' : World} (hd : o.dst = some d) (hφ : Φ i v w') (hp : Pk w') (E : Gr w w' F) :
    wpList P op (fun e a' w' => e = .normal ∧ ((o.dst = none ∧ a' = a) ∨ ∃ d v, o.dst = some d ∧ a' = putsL a [(d, v)] ∧ Φ i v w') ∧ Pk w' ∧ Gr w w' F) [] (putsL a [(d, v)]) w' := ⟨rfl, .inr ⟨d, v, hd, rfl, hφ⟩, hp, E⟩
end
theorem PtC.keepG {w w' : World} {L B b off : Nat} {cs : List Value} {F : Nat → Prop} (h : PtC w L B b off cs) (E : Gr w w' F) (hn : ∀ k, F k → k < L ∨ B ≤ k) : PtC w' L B b off cs := by
  obtain ⟨h0, h1, h2⟩ := h
  refine ⟨h0, h1, fun j u hu => ?_⟩
  have hc := h2 j u hu
  have hlt : b < w.heap.size := by
    by_cases hb : b < w.heap.size
    · exact hb
    · simp [World.cell?, hb] at hc
  have := E.block b hlt (fun hf => by rcases hn b hf with h | h <;> omega)
  simpa [World.cell?, this] using hc
end Go.Gx

namespace Go.Proofs.YthflnkfghogaoaaGreat
open Go.Gx Go.RowKit
attribute [local irreducible] wpList wpStill Code.wp Calls
theorem Over_t {base p n Bp : Nat} {lv : Value} {bl : List UInt8} {w : World} (hpk : PickR w base p lv bl n (fun k => k = p)) (hBp : Bp ≤ p) (hbl : RdC w 0 Bp 1 lv bl.length (bl.map u8v)) : Ret Tryz.prog 21 #[ptr p 0] w (fun v' w' => Gr w w' (fun k => k = p) ∧ v' = .bool (decide (bl.length ≤ n)) ∧ ∃ n' : Nat, PickR w' base p lv bl n' (fun k => k = p) ∧ n ≤ n' ∧ n' = n) :=
  (Over_ret hpk hBp hbl).mono fun v' w' h => ⟨h.1, h.2.1, n, h.2.2, Nat.le_refl _, rfl⟩

set_option maxHeartbeats 8000000 in
theorem Stmt_ret {base p n Bp : Nat} {lv : Value} {bl : List UInt8} {w : World} (hpk : PickR w base p lv bl n (fun k => k = p)) (hBp : Bp ≤ p) (hbl : RdC w 0 Bp 1 lv bl.length (bl.map u8v)) : Ret Tryz.prog 7 #[(ptr p 0)] w (fun v' w' => Gr w w' (fun k => k = p) ∧ ∃ s : XS, v' = (.agg #[(.int .i64 s.f.kind), (.string (bs s.f.tb)), (.string (bs s.f.nm)), s.f.cv, s.f.gv, s.f.vv, s.f.iv, (.string (bs s.f.join)), s.f.ov, s.f.wv, s.f.rv, (.bool s.f.desc), s.nv]) ∧ SFr w' w.heap.size w'.heap.size s ∧ ∃ n' : Nat, PickR w' base p lv bl n' (fun k => k = p) ∧ n ≤ n') := by
 have hi_p : p < w.heap.size := (hpk.lt p rfl).2
 have hb := Gr.refl w (fun k => k = p)
 refine enter (N := 130) Tryz.func7 rfl rfl (by simp) fun b hN hd hA => ?_
 have c : b.tmps.getD 0 undef = (ptr p 0) := hA 0 (by simp)
 clear hA
 have c_hbl : ∀ k, (fun k => k = p) k → k < 0 ∨ Bp ≤ k := fun k hk => .inr (by have := hpk.lt k hk; omega)
 refine zF fun _ b => zH (op_alloc (cs := [(.int .i64 0), (.string (bs [])), (.string (bs [])), (.slice none 0 0), (.slice none 0 0), (.slice none 0 0), (.slice none 0 0), (.string (bs [])), (.slice none 0 0), (.slice none 0 0), (.slice none 0 0), (.bool false), (.slice none 0 0)]) zero37 rfl ?_)
 intro o q y z g t
 have y : ¬ (fun k => k = p) q := fun hf => by have := (hpk.lt _ hf).2; omega
 obtain ⟨hb, _⟩ := yG hb t
 have hpk := hpk.kz t
 refine zB (b _ _ (zF fun _ b => zF fun _ t => zH (zG (zC hN rfl c) ?_)))
 have hbl' := hbl.keepG hb c_hbl
 refine zj ok15 (Num_ret (m := 14) hpk zx hbl' zx zx) ⟨(zA hN rfl), ⟨rfl, trivial⟩⟩ ?_
 rintro _ A ⟨C, H, rfl, G, D, z, J, I⟩
 have hpk_old := hpk
 have := C.size
 have g := g.keepG C y
 have hb := hb.stepF C (fun _ _ h => h)
 refine zB (t _ _ (wp_block (zF fun _ t => zH (op_eql (zA hN rfl) rfl (fun C => ?_) (fun C => ?_)))))
 ·
  refine zD (zA hN rfl) (zB (t _ _ (wp_cond_true (zA hN rfl) (zF fun _ t => zH (op_bslice (e := 9) (pv := [(0, (.string (bs [116]))), (1, (.string (bs [117]))), (2, (.string (bs [119]))), (3, (.string (bs [120])))]) (cs := [(.string (bs [116])), (.string (bs [117])), (.string (bs [119])), (.string (bs [120]))]) ⟨rfl, rfl, ⟨rfl, rfl, ⟨rfl, rfl, ⟨rfl, rfl, trivial⟩⟩⟩⟩ zy ?_)))))
  intro I H K J C G
  have I : ¬ (fun k => k = p) H := fun hf => by have := (z.lt _ hf).2; omega
  obtain ⟨hb, _⟩ := yG hb G
  have z := z.kz G
  refine zG (zC hN rfl c) ?_
  have hbl' := hbl.keepG hb c_hbl
  refine zj ok15 (Num_ret (m := 4) z zx hbl' zx zx) ⟨(zA hN rfl), ⟨rfl, trivial⟩⟩ ?_
  rintro _ P ⟨K, J, rfl, Q, R, M, O, S⟩
  have := K.size
  have C := C.keepG K I
  have hb := hb.stepF K (fun _ _ h => h)
  refine zh slt49 (zA hN rfl) (RdC.ofBx (sz := 1) (n := 4) C rfl zz) (zA hN rfl) zx zx ?_
  intro P Q S R O
  refine zN (v := (Value.string (bs (([[116], [117], [119], [120]] : List (List UInt8)).getD J [])))) one9 (zA hN rfl) (by have := O 0 (.string (bs (([[116], [117], [119], [120]] : List (List UInt8)).getD J []))) zz (el_sv (l := ([[116], [117], [119], [120]] : List (List UInt8))) (i := J) rfl (show _ < 4 by omega)); simpa using this) (zf (pv := [(0, (.int .i64 1)), (2, (.string (bs (([[116], [117], [119], [120]] : List (List UInt8)).getD J []))))]) (v := (Value.agg #[(.int .i64 1), (.string (bs [])), (.string (bs (([[116], [117], [119], [120]] : List (List UInt8)).getD J []))), (.slice none 0 0), (.slice none 0 0), (.slice none 0 0), (.slice none 0 0), (.string (bs [])), (.slice none 0 0), (.slice none 0 0), (.slice none 0 0), (.bool false), (.slice none 0 0)])) ⟨rfl, rfl, ⟨rfl, (zA hN rfl), trivial⟩⟩ zy (op_alloc (cs := [(.int .i64 0), (.string (bs [])), (.string (bs [])), (.slice none 0 0), (.slice none 0 0), (.slice none 0 0), (.slice none 0 0), (.string (bs [])), (.slice none 0 0), (.slice none 0 0), (.slice none 0 0), (.bool false), (.slice none 0 0)]) zero37 rfl ?_))
  intro R Q S T O P
  have R : ¬ (fun k => k = p) Q := fun hf => by have := (M.lt _ hf).2; omega
  obtain ⟨hb, _⟩ := yG hb P
  have C := C.keep0 P
  have S := O
  refine zZ size37 (zA hN rfl) (zA hN rfl) rfl rfl O rfl ?_
  intro U O T
  have := T.size
  have C := C.keep T (sN C S)
  have M := (M.kz P).keepG (Gr.of T) (Dj.one R)
  have hb := hb.step1 T zx
  refine zB (t _ _ (zF fun _ t => zF fun _ S => zH (zG (zC hN rfl c) ?_)))
  have hbl' := hbl.keepG hb c_hbl
  refine zj ok15 (Num_ret (m := 4) M zx hbl' zx zx) ⟨(zA hN rfl), ⟨rfl, trivial⟩⟩ ?_
  rintro _ U ⟨M, W, rfl, Z, X, V, aa, Y⟩
  have := M.size
  have g := ((((g.keep0 G).keepG K y).keep0 P).keep T sB).keepG M y
  have C := C.keepG M I
  have O := O.keepG M R
  have hb := hb.stepF M (fun _ _ h => h)
  refine zD (zA hN rfl) (zB (S _ _ (wp_block (loop_m (fun mz_ az_ w' => ∃ (i G : Nat) (M : Value) (K : List PCol), mz_ = (i + 1) ∧ (Sl az_ 0 (ptr p 0)) ∧ (Sl az_ 2 (ptr q 0)) ∧ (Sl az_ 3 (ptr Q 0)) ∧ (Sl az_ 4 (.int .i64 (((i : Nat) : Int) - 1))) ∧ (K.length + i ≤ 4) ∧ (n ≤ G) ∧ (Gr w w' (fun k => k = p)) ∧ (U.heap.size ≤ w'.heap.size) ∧ (Bx w' q 37 [(.int .i64 0), (.string (bs [])), (.string (bs [])), (.slice none 0 0), (.slice none 0 0), (.slice none 0 0), (.slice none 0 0), (.string (bs [])), (.slice none 0 0), (.slice none 0 0), (.slice none 0 0), (.bool false), (.slice none 0 0)]) ∧ (Bx w' H 9 [(.string (bs [116])), (.string (bs [117])), (.string (bs [119])), (.string (bs [120]))]) ∧ (Bx w' Q 37 [(.int .i64 1), (.string (bs [])), (.string (bs (([[116], [117], [119], [120]] : List (List UInt8)).getD J []))), M, (.slice none 0 0), (.slice none 0 0), (.slice none 0 0), (.string (bs [])), (.slice none 0 0), (.slice none 0 0), (.slice none 0 0), (.bool false), (.slice none 0 0)]) ∧ (PickR w' base p lv bl G (fun k => k = p)) ∧ (Own w' U.heap.size 48 3 M K.length (K.flatMap cellsC))) _ hN hd ⟨_, _, (.slice none 0 0), [], rfl, (zL hN rfl c), (zU hN rfl), (zU hN rfl), (zU hN rfl).trans (congrArg (Value.int .i64) (show _ = (((W + 1 : Nat) : Int) - 1) by omega)), (by simp; omega), zx, hb, (Nat.le_refl _), g, C, O, V, (Own.nil _ _ _ _)⟩ ?_))))
  rintro _ Z Q O W ⟨i, G, M, K, rfl, P, V, X, T, hil, Y, hb, aa, g, C, hxl, hpk, H⟩
  have := hb.size
  refine zF fun _ S => zF fun _ Z => zH (zG (zC O rfl T) (op_geq (zA O rfl) rfl (fun aa => ?_) (fun aa => ?_)))
  ·
   refine zB (Z _ _ (wp_cond_true (zA O rfl) (wp_skip (S _ _ (zF fun _ S => wp_block (zF fun _ Z => ?_))))))
   have aa := H.lt
   refine reg_split (hd := [_, _, _, _, _, _, _, _, _, _, _, _, _, _, _, _, _]) (tl := _) 17 mixed zy rfl rfl ?_
   refine any_rel (F := (fun k => k = p)) (Pk := (fun w' => ∃ nK, G ≤ nK ∧ PickR w' base p lv bl nK (fun k => k = p))) (L := [(fun uz w' => ∃ (ag : Nat), uz = (.slice (some ⟨ag, 0, none⟩) 4 4) ∧ (Q.heap.size ≤ ag) ∧ Bx w' ag 9 [(.string (bs [107])), (.string (bs [118])), (.string (bs [110])), (.string (bs [114]))]), (fun uz _ => uz = (.int .i64 (((i : Nat) : Int) - 1))), (fun uz _ => uz = (.int .i64 ((4 - i : Nat) : Int))), (fun uz _ => uz = (ptr p 0)), (fun uz _ => ∃ (am : Nat), uz = (.int .i64 ((am : Nat) : Int)) ∧ (am < 2)), (fun uz _ => uz = (ptr p 0)), (fun uz _ => ∃ (an : Nat), uz = (.int .i64 ((an : Nat) : Int)) ∧ (an < 3)), (fun uz _ => ∃ (au : Nat), uz = (.int .i64 ((au : Nat) : Int)) ∧ (au ≤ 8000)), (fun uz _ => ∃ (ao : Nat), uz = (.int .i64 ((ao : Nat) : Int)) ∧ (ao ≤ 9000)), (fun uz _ => ∃ (aj : Nat), uz = (.int .i64 ((aj : Nat) : Int)) ∧ (aj < 4)), (fun uz w' => ∃ (ai : Nat) (ap : Nat) (al : List UInt8), uz = (ptr ai ap) ∧ (Q.heap.size ≤ ai) ∧ PtC w' ai (ai + 1) ai ap [(.string (bs al))]), (fun uz _ => ∃ (aq : List UInt8), uz = (.string (bs aq))), (fun uz _ => uz = (ptr p 0)), (fun uz _ => ∃ (ar : Nat), uz = (.int .i64 ((ar : Nat) : Int)) ∧ (ar < 2)), (fun uz _ => ∃ (ak : Nat), uz = (.int .i64 ((ak : Nat) : Int)) ∧ (ak ≤ 15000)), (fun uz _ => ∃ (af : List UInt8) (ae : Nat), uz = (.agg #[(.string (bs af)), (.int .i64 ((ae : Nat) : Int)), (.string (bs []))]) ∧ (ae ≤ 16000)), (fun uz w' => ∃ (ah : Nat), uz = (ptr ah 0) ∧ (Q.heap.size ≤ ah) ∧ Bx w' ah 48 [(.string (bs [])), (.int .i64 0), (.string (bs []))])]) [4, 6, 13] zy zy zy zy O (fun o w2 E h => by obtain ⟨x, h1, h2⟩ := h; exact ⟨x, h1, h2.kz E⟩) ⟨_, Nat.le_refl _, hpk⟩ (StR.cons (fun u o w2 E h => by obtain ⟨ag, ad, ac, ab⟩ := h; exact ⟨ag, ad, ac, ab.keepG E (fun hf => by have h9 : ag = p := hf; omega)⟩) (StR.cons (fun _ _ _ _ h => h) (StR.cons (fun _ _ _ _ h => h) (StR.cons (fun _ _ _ _ h => h) (StR.cons (fun _ _ _ _ h => h) (StR.cons (fun _ _ _ _ h => h) (StR.cons (fun _ _ _ _ h => h) (StR.cons (fun _ _ _ _ h => h) (StR.cons (fun _ _ _ _ h => h) (StR.cons (fun _ _ _ _ h => h) (StR.cons (fun u o w2 E h => by obtain ⟨ai, ap, al, ad, ac, ab⟩ := h; exact ⟨ai, ap, al, ad, ac, ab.keepG E sP⟩) (StR.cons (fun _ _ _ _ h => h) (StR.cons (fun _ _ _ _ h => h) (StR.cons (fun _ _ _ _ h => h) (StR.cons (fun _ _ _ _ h => h) (StR.cons (fun _ _ _ _ h => h) (StR.cons (fun u o w2 E h => by obtain ⟨ah, ad, ac, ab⟩ := h; exact ⟨ah, ad, ac, ab.keepG E (fun hf => by have h9 : ah = p := hf; omega)⟩) (StR.nil)))))))))))))))))) (ObWs9.cons rfl ?_ (ObWs9.cons rfl ?_ (ObWs9.cons rfl ?_ (ObWs9.cons rfl ?_ (ObWs9.turn rfl ?_ (ObWs9.cons rfl ?_ (ObWs9.turn rfl ?_ (ObWs9.cons rfl ?_ (ObWs9.cons rfl ?_ (ObWs9.cons rfl ?_ (ObWs9.cons rfl ?_ (ObWs9.cons rfl ?_ (ObWs9.cons rfl ?_ (ObWs9.turn rfl ?_ (ObWs9.cons rfl ?_ (ObWs9.cons rfl ?_ (ObWs9.cons rfl ?_ (ObWs9.nil)))))))))))))))))) ?_
   ·
    intro aA wA hNA hRA hPA hbsA hdpA
    obtain ⟨nA, hnA, hkA⟩ := hPA
    have := hRA.size
    refine op_bslice (e := 9) (pv := [(0, (.string (bs [107]))), (1, (.string (bs [118]))), (2, (.string (bs [110]))), (3, (.string (bs [114])))]) (cs := [(.string (bs [107])), (.string (bs [118])), (.string (bs [110])), (.string (bs [114]))]) ⟨rfl, rfl, ⟨rfl, rfl, ⟨rfl, rfl, ⟨rfl, rfl, trivial⟩⟩⟩⟩ zy ?_
    intro ay aw az aB ax Q
    have ay : ¬ (fun k => k = p) aw := fun hf => by have := (hkA.lt _ hf).2; omega
    have := Q.size
    exact obW_rel rfl ⟨aw, rfl, (by first | assumption | omega), ax⟩ Q
   ·
    intro aA wA hNA hRA hPA hbsA hdpA
    have Q := (hbsA 4 rfl).trans (zL O rfl T)
    refine zG (zC hNA rfl Q) ?_
    exact obW_rel rfl rfl (grown_refl _ _)
   ·
    intro aA wA hNA hRA hPA hbsA hdpA
    have Q : Sl aA 25 (.int .i64 (((i : Nat) : Int) - 1)) := hdpA 1 _ 25 zy rfl rfl
    refine op_sub (r := ((4 - i : Nat) : Int)) rfl (zC hNA rfl Q) ((sub64 zx).trans zx) ?_
    exact obW_rel rfl rfl (grown_refl _ _)
   ·
    intro aA wA hNA hRA hPA hbsA hdpA
    have Q := (hbsA 0 rfl).trans (zL O rfl P)
    refine zG (zC hNA rfl Q) ?_
    exact obW_rel rfl rfl (grown_refl _ _)
   ·
    intro aA wA hNA hRA hPA hbsA hdpA
    obtain ⟨nA, hnA, hkA⟩ := hPA
    have := hRA.size
    have hb := hb.stepF hRA (fun _ _ h => h)
    have aw : Sl aA 27 (ptr p 0) := hdpA 3 _ 27 zy rfl rfl
    have hbl' := hbl.keepG hb c_hbl
    refine zj ok15 (Num_ret (m := 2) hkA zx hbl' zx zx) ⟨(zC hNA rfl aw), ⟨rfl, trivial⟩⟩ ?_
    rintro _ aC ⟨aw, az, rfl, aB, ay, ax, aE, aD⟩
    have := aw.size
    exact obT_rel rfl ⟨az, rfl, (by first | assumption | omega)⟩ ⟨ay, by omega, ax⟩ aw
   ·
    intro aA wA hNA hRA hPA hbsA hdpA
    have Q := (hbsA 0 rfl).trans (zL O rfl P)
    refine zG (zC hNA rfl Q) ?_
    exact obW_rel rfl rfl (grown_refl _ _)
   ·
    intro aA wA hNA hRA hPA hbsA hdpA
    obtain ⟨nA, hnA, hkA⟩ := hPA
    have := hRA.size
    have hb := hb.stepF hRA (fun _ _ h => h)
    have aw : Sl aA 29 (ptr p 0) := hdpA 5 _ 29 zy rfl rfl
    have hbl' := hbl.keepG hb c_hbl
    refine zj ok15 (Num_ret (m := 3) hkA zx hbl' zx zx) ⟨(zC hNA rfl aw), ⟨rfl, trivial⟩⟩ ?_
    rintro _ aB ⟨aw, ay, rfl, aC, az, ax, aE, aD⟩
    have := aw.size
    exact obT_rel rfl ⟨ay, rfl, (by first | assumption | omega)⟩ ⟨az, by omega, ax⟩ aw
   ·
    intro aA wA hNA hRA hPA hbsA hdpA
    obtain ⟨am, aw, ax⟩ := hdpA 4 _ 28 zy rfl rfl
    obtain ⟨an, ax, ay⟩ := hdpA 6 _ 30 zy rfl rfl
    have ay : am * an ≤ 1 * 2 := Nat.mul_le_mul zx zx
    refine op_mul (zC hNA rfl aw) (zC hNA rfl ax) (mul64 zx) ?_
    exact obW_rel rfl ⟨(am * an), rfl, (by first | assumption | omega)⟩ (grown_refl _ _)
   ·
    intro aA wA hNA hRA hPA hbsA hdpA
    have am : Sl aA 26 (.int .i64 ((4 - i : Nat) : Int)) := hdpA 2 _ 26 zy rfl rfl
    obtain ⟨au, aw, an⟩ := hdpA 7 _ 31 zy rfl rfl
    refine op_add (zC hNA rfl am) (zC hNA rfl aw) (add64 zx) ?_
    exact obW_rel rfl ⟨((4 - i) + au), rfl, (by first | assumption | omega)⟩ (grown_refl _ _)
   ·
    intro aA wA hNA hRA hPA hbsA hdpA
    obtain ⟨ao, am, au⟩ := hdpA 8 _ 32 zy rfl rfl
    refine op_rem (r := ((ao % 4 : Nat) : Int)) (zC hNA rfl am) rfl zz (by rw [Int.tmod_eq_emod_of_nonneg zx]; omega) ?_
    exact obW_rel rfl ⟨(ao % 4), rfl, (by first | assumption | omega)⟩ (grown_refl _ _)
   ·
    intro aA wA hNA hRA hPA hbsA hdpA
    obtain ⟨nA, hnA, hkA⟩ := hPA
    have := hRA.size
    obtain ⟨ag, ao, aw, am⟩ := hdpA 0 _ 24 zy rfl rfl
    obtain ⟨aj, ax, ay⟩ := hdpA 9 _ 33 zy rfl rfl
    refine zh slt49 (zC hNA rfl ao) (RdC.ofBx (sz := 1) (n := 4) am rfl zz) (zC hNA rfl ax) zx zx ?_
    intro am ao aB az ax
    have az : PtC wA ag (ag + 1) am ao [(.string (bs (([[107], [118], [110], [114]] : List (List UInt8)).getD aj [])))] := ⟨by omega, by omega, fun j u hu => ax j u (by have := (List.getElem?_eq_some_iff.1 hu).1; simpa using this) ((fun j u hu => one_at (el_sv (l := ([[107], [118], [110], [114]] : List (List UInt8))) (i := aj) rfl (show _ < 4 by omega)) hu) j u hu)⟩
    exact obW_rel rfl ⟨am, ao, (([[107], [118], [110], [114]] : List (List UInt8)).getD aj []), rfl, (by have h9 := az.1; first | assumption | omega), ⟨Nat.le_refl _, Nat.lt_succ_self _, az.2.2⟩⟩ (grown_refl _ _)
   ·
    intro aA wA hNA hRA hPA hbsA hdpA
    obtain ⟨nA, hnA, hkA⟩ := hPA
    have := hRA.size
    obtain ⟨ai, ap, al, am, aj, ag⟩ := hdpA 10 _ 34 zy rfl rfl
    refine zN (v := (Value.string (bs al))) one9 (zC hNA rfl am) (ag.2.2 0 _ rfl) ?_
    exact obW_rel rfl ⟨al, rfl⟩ (grown_refl _ _)
   ·
    intro aA wA hNA hRA hPA hbsA hdpA
    have Q := (hbsA 0 rfl).trans (zL O rfl P)
    refine zG (zC hNA rfl Q) ?_
    exact obW_rel rfl rfl (grown_refl _ _)
   ·
    intro aA wA hNA hRA hPA hbsA hdpA
    obtain ⟨nA, hnA, hkA⟩ := hPA
    have := hRA.size
    have hb := hb.stepF hRA (fun _ _ h => h)
    have ag : Sl aA 36 (ptr p 0) := hdpA 12 _ 36 zy rfl rfl
    have hbl' := hbl.keepG hb c_hbl
    refine zj ok15 (Num_ret (m := 2) hkA zx hbl' zx zx) ⟨(zC hNA rfl ag), ⟨rfl, trivial⟩⟩ ?_
    rintro _ ax ⟨ag, al, rfl, az, am, ai, ap, ao⟩
    have := ag.size
    exact obT_rel rfl ⟨al, rfl, (by first | assumption | omega)⟩ ⟨am, by omega, ai⟩ ag
   ·
    intro aA wA hNA hRA hPA hbsA hdpA
    obtain ⟨ar, ag, ai⟩ := hdpA 13 _ 37 zy rfl rfl
    refine op_add rfl (zC hNA rfl ag) (add64 zx) ?_
    exact obW_rel rfl ⟨(1 + ar), rfl, (by first | assumption | omega)⟩ (grown_refl _ _)
   ·
    intro aA wA hNA hRA hPA hbsA hdpA
    obtain ⟨aq, ag⟩ := hdpA 11 _ 35 zy rfl rfl
    obtain ⟨ak, ai, al⟩ := hdpA 14 _ 38 zy rfl rfl
    refine zf (pv := [(0, (.string (bs aq))), (1, (.int .i64 ((ak : Nat) : Int)))]) (v := (Value.agg #[(.string (bs aq)), (.int .i64 ((ak : Nat) : Int)), (.string (bs []))])) ⟨rfl, (zC hNA rfl ag), ⟨rfl, (zC hNA rfl ai), trivial⟩⟩ zy ?_
    exact obW_rel rfl ⟨aq, ak, rfl, (by first | assumption | omega)⟩ (grown_refl _ _)
   ·
    intro aA wA hNA hRA hPA hbsA hdpA
    obtain ⟨nA, hnA, hkA⟩ := hPA
    have := hRA.size
    refine op_alloc (cs := [(.string (bs [])), (.int .i64 0), (.string (bs []))]) zero48 rfl ?_
    intro am ag al ao ak ai
    have al : ¬ (fun k => k = p) ag := fun hf => by have := (hkA.lt _ hf).2; omega
    have := ai.size
    exact obW_rel rfl ⟨ag, rfl, (by first | assumption | omega), ak⟩ ai
   intro ap aq ag ak al am ao ai
   have ak := ak.trans ((by simp only [putsL_defers] : _ = _).trans W)
   obtain ⟨ar, aq, ap⟩ := ao
   have hpk_old := hpk
   have := ai.size
   have g := g.keepG ai y
   have C := C.keepG ai I
   have hxl := hxl.keepG ai R
   have H := H.keepG ai (hpk_old.notOwn H zz)
   have hb := hb.stepF ai (fun _ _ h => h)
   have ai := (al 0 rfl).trans (zL O rfl P)
   have P := (al 2 rfl).trans (zL O rfl V)
   have ao := (al 3 rfl).trans (zL O rfl X)
   have aq := (al 4 rfl).trans (zL O rfl T)
   obtain ⟨ah, al, ar, T⟩ := am 16 _ 5 rfl rfl
   obtain ⟨af, ae, ar, ax⟩ := am 15 _ 39 rfl rfl
   have am := T.lt
   have am : M.ownBlock ≠ some ah := fun hh => by have := (aa _ hh).2; omega
   refine split_end (from_seq (tl := [_]) zz zy rfl ?_)
   have aa := T
   refine zZ size48 (zC ag rfl al) (zC ag rfl ar) rfl rfl T rfl ?_
   intro ar T ah
   have := ah.size
   have g := g.keep ah (sN g aa)
   have C := C.keep ah (sN C aa)
   have hxl := hxl.keep ah (sN hxl aa)
   have H := H.keep ah (.inr am)
   have ap := ap.keepG (Gr.of ah) (Dj.one (ap.notBx aa zz))
   have hb := hb.step1 ah zx
   refine zB (Z _ _ (zF fun _ Z => zF fun _ J4 => zH (zG (zC ag rfl ai) ?_)))
   have hbl' := hbl.keepG hb c_hbl
   refine zj ok15 (Num_ret (m := 5) ap zx hbl' zx zx) ⟨(zA ag rfl), ⟨rfl, trivial⟩⟩ ?_
   rintro _ aC ⟨ar, aE, rfl, az, ax, ah, aD, aB⟩
   have az := ap
   have := ar.size
   have g := g.keepG ar y
   have C := C.keepG ar I
   have hxl := hxl.keepG ar R
   have H := H.keepG ar (az.notOwn H zz)
   have T := T.keepG ar (az.notBx T zz)
   have hb := hb.stepF ar (fun _ _ h => h)
   refine op_eql (zA ag rfl) rfl (fun ap => ?_) (fun ap => ?_)
   ·
    refine zB (J4 _ _ (wp_cond_true (zA ag rfl) (zH (op_bslice (e := 9) (pv := [(0, (.string (bs [116]))), (1, (.string (bs [117]))), (2, (.string (bs [113])))]) (cs := [(.string (bs [116])), (.string (bs [117])), (.string (bs [113]))]) ⟨rfl, rfl, ⟨rfl, rfl, ⟨rfl, rfl, trivial⟩⟩⟩ zy ?_))))
    intro aC az aD aB ar ap
    have aB : ¬ (fun k => k = p) az := fun hf => by have := (ah.lt _ hf).2; omega
    obtain ⟨hb, _⟩ := yG hb ap
    have H := H.keep0 ap
    have T := T.keep0 ap
    have ah := ah.kz ap
    refine zG (zC ag rfl ai) ?_
    have hbl' := hbl.keepG hb c_hbl
    refine zj ok15 (Num_ret (m := 3) ah zx hbl' zx zx) ⟨(zA ag rfl), ⟨rfl, trivial⟩⟩ ?_
    rintro _ aI ⟨aD, aC, rfl, aG, aE, az, aF, aH⟩
    have aF := ah
    have := aD.size
    have g := (g.keep0 ap).keepG aD y
    have C := (C.keep0 ap).keepG aD I
    have hxl := (hxl.keep0 ap).keepG aD R
    have H := H.keepG aD (aF.notOwn H zz)
    have T := T.keepG aD (aF.notBx T zz)
    have ar := ar.keepG aD aB
    have hb := hb.stepF aD (fun _ _ h => h)
    refine zh slt49 (zA ag rfl) (RdC.ofBx (sz := 1) (n := 3) ar rfl zz) (zA ag rfl) zx zx ?_
    intro ap aD ar aB I
    refine zN (v := (Value.string (bs (([[116], [117], [113]] : List (List UInt8)).getD aC [])))) one9 (zA ag rfl) (by have := I 0 (.string (bs (([[116], [117], [113]] : List (List UInt8)).getD aC []))) zz (el_sv (l := ([[116], [117], [113]] : List (List UInt8))) (i := aC) rfl (show _ < 3 by omega)); simpa using this) (zM fld48_2 (zC ag rfl al) ?_)
    have aa := T
    refine za (vs := [(.string (bs (([[116], [117], [113]] : List (List UInt8)).getD aC [])))]) (cs' := [(.string (bs af)), (.int .i64 ((ae : Nat) : Int)), (.string (bs (([[116], [117], [113]] : List (List UInt8)).getD aC [])))]) size9 (zA ag rfl) (zA ag rfl) rfl rfl rfl T (zI rfl) rfl ?_
    intro ap T I
    have := I.size
    have g := g.keep I (sN g aa)
    have C := C.keep I (sN C aa)
    have hxl := hxl.keep I (sN hxl aa)
    have az := az.keepG (Gr.of I) (Dj.one (az.notBx aa zz))
    have hb := hb.step1 I zx
    refine zB (Z _ _ (zH (zM fld37_3 (zC ag rfl ao) (zN one32 (zA ag rfl) (hxl.cell rfl) (zY agg48 rfl (zC ag rfl al) T (op_bslice (e := 48) (pv := [(0, (.agg #[(.string (bs af)), (.int .i64 ((ae : Nat) : Int)), (.string (bs (([[116], [117], [113]] : List (List UInt8)).getD aC [])))]))]) (cs := [(.string (bs af)), (.int .i64 ((ae : Nat) : Int)), (.string (bs (([[116], [117], [113]] : List (List UInt8)).getD aC [])))]) ⟨rfl, (zA ag rfl), trivial⟩ zy ?_))))))
    intro aD ap aB aF ar aa
    have aB : ¬ (fun k => k = p) ap := fun hf => by have := (az.lt _ hf).2; omega
    obtain ⟨hb, _⟩ := yG hb aa
    have H := (H.keep I (.inr am)).keep0 aa
    have az := az.kz aa
    have I := H
    refine op_append slt32 (zA ag rfl) I (zA ag rfl) (Src.ofRd Tryz.underlying32 zz (RdC.ofBx (sz := 3) (n := 1) ar rfl zz) (by simp [Value.oneCell', u8v])) (by unfold maxLen; omega) zx (by first | exact Nat.le_trans (by assumption) hb.size | (have := hb.size; omega)) ?_
    intro ar aB am ap aD
    have := ap.size
    have C := (C.keep0 aa).keepO I ap zz
    have hxl := (hxl.keep0 aa).keepO I ap zz
    have az := az.keepG (Gr.of ap) (az.notOwn I zz).symm
    have hb := hb.stepO I ap zx
    have am : Own aB U.heap.size 48 3 ar (K.length + 1) (((K ++ [(PCol.mk af ((ae : Nat) : Int) (([[116], [117], [113]] : List (List UInt8)).getD aC []))])).flatMap cellsC) := by simpa [u8v, u16v, sv, cellsI, cellsC] using am
    refine zM fld37_3 (zC ag rfl ao) ?_
    have hxl_old := hxl
    refine za (vs := [ar]) (cs' := [(.int .i64 1), (.string (bs [])), (.string (bs (([[116], [117], [119], [120]] : List (List UInt8)).getD J []))), ar, (.slice none 0 0), (.slice none 0 0), (.slice none 0 0), (.string (bs [])), (.slice none 0 0), (.slice none 0 0), (.slice none 0 0), (.bool false), (.slice none 0 0)]) size32 (zA ag rfl) (zA ag rfl) am.cl rfl (by simp only [yA, yB, yC, yD, am.one]; try rfl) hxl (zI rfl) rfl ?_
    intro aD hxl aB
    have := aB.size
    have g := ((g.keep0 aa).keepO I ap zz).keep aB sB
    have C := C.keep aB (sN C hxl_old)
    have az := az.keepG (Gr.of aB) (Dj.one R)
    have am := am.keepX hxl_old aB zz
    have hb := hb.step1 aB zx
    refine zB (S _ _ (zH (zG (zC ag rfl aq) (op_sub (zA ag rfl) rfl (sub64 zx) (zD (zA ag rfl) (zB ?_))))))
    -- round 11T 21T 42T
    exact zg _ ag ak ⟨(i - 1), aE, ar, (K ++ [(PCol.mk af ((ae : Nat) : Int) (([[116], [117], [113]] : List (List UInt8)).getD aC []))]), rfl, (zL ag rfl ai), (zL ag rfl P), (zL ag rfl ao), (zU ag rfl).trans (congrArg (Value.int .i64) zx), (by simp; omega), zx, hb, zx, g, C, hxl, az, (am.cast (by simp) rfl)⟩ zx
   refine zB (J4 _ _ (wp_cond_false (zA ag rfl) (wp_skip (Z _ _ (zH (zM fld37_3 (zC ag rfl ao) (zN one32 (zA ag rfl) (hxl.cell rfl) (zY agg48 rfl (zC ag rfl al) T (op_bslice (e := 48) (pv := [(0, (.agg #[(.string (bs af)), (.int .i64 ((ae : Nat) : Int)), (.string (bs []))]))]) (cs := [(.string (bs af)), (.int .i64 ((ae : Nat) : Int)), (.string (bs []))]) ⟨rfl, (zA ag rfl), trivial⟩ zy ?_)))))))))
   intro al T ap am aa I
   have al : ¬ (fun k => k = p) T := fun hf => by have := (ah.lt _ hf).2; omega
   obtain ⟨hb, _⟩ := yG hb I
   have H := H.keep0 I
   have ah := ah.kz I
   have T := H
   refine op_append slt32 (zA ag rfl) T (zA ag rfl) (Src.ofRd Tryz.underlying32 zz (RdC.ofBx (sz := 3) (n := 1) aa rfl zz) (by simp [Value.oneCell', u8v])) (by unfold maxLen; omega) zx (by first | exact Nat.le_trans (by assumption) hb.size | (have := hb.size; omega)) ?_
   intro am ap aa al ar
   have := al.size
   have C := (C.keep0 I).keepO T al zz
   have hxl := (hxl.keep0 I).keepO T al zz
   have ah := ah.keepG (Gr.of al) (ah.notOwn T zz).symm
   have hb := hb.stepO T al zx
   have aa : Own ap U.heap.size 48 3 am (K.length + 1) (((K ++ [(PCol.mk af ((ae : Nat) : Int) [])])).flatMap cellsC) := by simpa [u8v, u16v, sv, cellsI, cellsC] using aa
   refine zM fld37_3 (zC ag rfl ao) ?_
   have hxl_old := hxl
   refine za (vs := [am]) (cs' := [(.int .i64 1), (.string (bs [])), (.string (bs (([[116], [117], [119], [120]] : List (List UInt8)).getD J []))), am, (.slice none 0 0), (.slice none 0 0), (.slice none 0 0), (.string (bs [])), (.slice none 0 0), (.slice none 0 0), (.slice none 0 0), (.bool false), (.slice none 0 0)]) size32 (zA ag rfl) (zA ag rfl) aa.cl rfl (by simp only [yA, yB, yC, yD, aa.one]; try rfl) hxl (zI rfl) rfl ?_
   intro ap hxl U
   have := U.size
   have g := ((g.keep0 I).keepO T al zz).keep U sB
   have C := C.keep U (sN C hxl_old)
   have ah := ah.keepG (Gr.of U) (Dj.one R)
   have aa := aa.keepX hxl_old U zz
   have hb := hb.step1 U zx
   refine zB (S _ _ (zH (zG (zC ag rfl aq) (op_sub (zA ag rfl) rfl (sub64 zx) (zD (zA ag rfl) (zB ?_))))))
   -- round 11T 21T 42F
   exact zg _ ag ak ⟨(i - 1), ax, am, (K ++ [(PCol.mk af ((ae : Nat) : Int) [])]), rfl, (zL ag rfl ai), (zL ag rfl P), (zL ag rfl ao), (zU ag rfl).trans (congrArg (Value.int .i64) zx), (by simp; omega), zx, hb, zx, g, C, hxl, ah, (aa.cast (by simp) rfl)⟩ zx
  refine zB (Z _ _ (wp_cond_false (zA O rfl) (wp_exit (then_exit (then_exit (blk_hit (t _ _ (zF fun _ t => zH (zY agg37 rfl (zC O rfl X) hxl ?_)))))))))
  have C := g
  refine zZ size37 (zC O rfl V) (zA O rfl) rfl (by simp only [yA, yB, yC, yD, H.one]; try rfl) g rfl ?_
  intro P g I
  have := I.size
  have hpk := hpk.keepG (Gr.of I) (Dj.one y)
  have H := H.keepX C I zz
  have hb := hb.step1 I zx
  refine zB (t _ _ (wp_ret (zb (zO ( (retC rfl W (zC O rfl V) agg37 rfl g ⟨_, rfl, ?_⟩))))))
  exact ⟨hb, XS.mk (StF.mk 1 [] (([[116], [117], [119], [120]] : List (List UInt8)).getD J []) M K (.slice none 0 0) [] (.slice none 0 0) [] (.slice none 0 0) [] [] (.slice none 0 0) [] (.slice none 0 0) [] (.slice none 0 0) [] false) (.slice none 0 0) [], rfl, SFr.flat ⟨(H.rdw.mono zx zx), (rdN _ _ _ _), (XsFr.nil _ _ _), (rdN _ _ _ _), (XsFr.nil _ _ _), (XsFr.nil _ _ _), (XsFr.nil _ _ _)⟩ (by refine ⟨?_, ?_, ?_⟩ <;> (try simp [XS.f]) <;> omega) rfl rfl, G, hpk, by omega⟩
 refine zD (zA hN rfl) (zB (t _ _ (wp_cond_false (zA hN rfl) (zF fun _ t => zH (op_eql (zA hN rfl) rfl (fun H => ?_) (fun H => ?_))))))
 ·
  refine zD (zA hN rfl) (zB (t _ _ (wp_cond_true (zA hN rfl) (zF fun _ t => reg_split (hd := [_, _, _, _, _, _, _, _, _, _]) (tl := _) 10 mixed zy rfl rfl ?_))))
  refine any_rel (F := (fun k => k = p)) (Pk := (fun w' => ∃ nK, D ≤ nK ∧ PickR w' base p lv bl nK (fun k => k = p))) (L := [(fun uz w' => ∃ (H : Nat), uz = (.slice (some ⟨H, 0, none⟩) 3 3) ∧ (A.heap.size ≤ H) ∧ Bx w' H 9 [(.string (bs [116])), (.string (bs [117])), (.string (bs [119]))]), (fun uz _ => uz = (ptr p 0)), (fun uz _ => ∃ (O : Nat), uz = (.int .i64 ((O : Nat) : Int)) ∧ (O < 3)), (fun uz w' => ∃ (J : Nat) (V : Nat) (M : List UInt8), uz = (ptr J V) ∧ (A.heap.size ≤ J) ∧ PtC w' J (J + 1) J V [(.string (bs M))]), (fun uz _ => ∃ (U : List UInt8), uz = (.string (bs U))), (fun uz w' => ∃ (I : Nat), uz = (.slice (some ⟨I, 0, none⟩) 4 4) ∧ (A.heap.size ≤ I) ∧ Bx w' I 9 [(.string (bs [110])), (.string (bs [118])), (.string (bs [107])), (.string (bs [113]))]), (fun uz _ => uz = (ptr p 0)), (fun uz _ => ∃ (R : Nat), uz = (.int .i64 ((R : Nat) : Int)) ∧ (R < 4)), (fun uz w' => ∃ (K : Nat) (T : Nat) (P : List UInt8), uz = (ptr K T) ∧ (A.heap.size ≤ K) ∧ PtC w' K (K + 1) K T [(.string (bs P))]), (fun uz _ => ∃ (W : List UInt8), uz = (.string (bs W)))]) [2, 7] zy zy zy zy hN (fun o w2 E h => by obtain ⟨x, h1, h2⟩ := h; exact ⟨x, h1, h2.kz E⟩) ⟨_, Nat.le_refl _, z⟩ (StR.cons (fun u o w2 E h => by obtain ⟨H, ad, ac, ab⟩ := h; exact ⟨H, ad, ac, ab.keepG E (fun hf => by have h9 : H = p := hf; omega)⟩) (StR.cons (fun _ _ _ _ h => h) (StR.cons (fun _ _ _ _ h => h) (StR.cons (fun u o w2 E h => by obtain ⟨J, V, M, ad, ac, ab⟩ := h; exact ⟨J, V, M, ad, ac, ab.keepG E sP⟩) (StR.cons (fun _ _ _ _ h => h) (StR.cons (fun u o w2 E h => by obtain ⟨I, ad, ac, ab⟩ := h; exact ⟨I, ad, ac, ab.keepG E (fun hf => by have h9 : I = p := hf; omega)⟩) (StR.cons (fun _ _ _ _ h => h) (StR.cons (fun _ _ _ _ h => h) (StR.cons (fun u o w2 E h => by obtain ⟨K, T, P, ad, ac, ab⟩ := h; exact ⟨K, T, P, ad, ac, ab.keepG E sP⟩) (StR.cons (fun _ _ _ _ h => h) (StR.nil))))))))))) (ObWs9.cons rfl ?_ (ObWs9.cons rfl ?_ (ObWs9.turn rfl ?_ (ObWs9.cons rfl ?_ (ObWs9.cons rfl ?_ (ObWs9.cons rfl ?_ (ObWs9.cons rfl ?_ (ObWs9.turn rfl ?_ (ObWs9.cons rfl ?_ (ObWs9.cons rfl ?_ (ObWs9.nil))))))))))) ?_
  ·
   intro aA wA hNA hRA hPA hbsA hdpA
   obtain ⟨nA, hnA, hkA⟩ := hPA
   have := hRA.size
   refine op_bslice (e := 9) (pv := [(0, (.string (bs [116]))), (1, (.string (bs [117]))), (2, (.string (bs [119])))]) (cs := [(.string (bs [116])), (.string (bs [117])), (.string (bs [119]))]) ⟨rfl, rfl, ⟨rfl, rfl, ⟨rfl, rfl, trivial⟩⟩⟩ zy ?_
   intro ah aa ag af ae X
   have af : ¬ (fun k => k = p) aa := fun hf => by have := (hkA.lt _ hf).2; omega
   have := X.size
   exact obW_rel rfl ⟨aa, rfl, (by first | assumption | omega), ae⟩ X
  ·
   intro aA wA hNA hRA hPA hbsA hdpA
   have Q := (hbsA 0 rfl).trans (zL hN rfl c)
   refine zG (zC hNA rfl Q) ?_
   exact obW_rel rfl rfl (grown_refl _ _)
  ·
   intro aA wA hNA hRA hPA hbsA hdpA
   obtain ⟨nA, hnA, hkA⟩ := hPA
   have := hRA.size
   have hb := hb.stepF hRA (fun _ _ h => h)
   have X : Sl aA 59 (ptr p 0) := hdpA 1 _ 59 zy rfl rfl
   have hbl' := hbl.keepG hb c_hbl
   refine zj ok15 (Num_ret (m := 3) hkA zx hbl' zx zx) ⟨(zC hNA rfl X), ⟨rfl, trivial⟩⟩ ?_
   rintro _ ai ⟨X, aa, rfl, ag, af, ae, ah, ak⟩
   have := X.size
   exact obT_rel rfl ⟨aa, rfl, (by first | assumption | omega)⟩ ⟨af, by omega, ae⟩ X
  ·
   intro aA wA hNA hRA hPA hbsA hdpA
   obtain ⟨nA, hnA, hkA⟩ := hPA
   have := hRA.size
   obtain ⟨H, X, aw, aa⟩ := hdpA 0 _ 58 zy rfl rfl
   obtain ⟨O, ae, af⟩ := hdpA 2 _ 60 zy rfl rfl
   refine zh slt49 (zC hNA rfl X) (RdC.ofBx (sz := 1) (n := 3) aa rfl zz) (zC hNA rfl ae) zx zx ?_
   intro X aa ag af ae
   have af : PtC wA H (H + 1) X aa [(.string (bs (([[116], [117], [119]] : List (List UInt8)).getD O [])))] := ⟨by omega, by omega, fun j u hu => ae j u (by have := (List.getElem?_eq_some_iff.1 hu).1; simpa using this) ((fun j u hu => one_at (el_sv (l := ([[116], [117], [119]] : List (List UInt8))) (i := O) rfl (show _ < 3 by omega)) hu) j u hu)⟩
   exact obW_rel rfl ⟨X, aa, (([[116], [117], [119]] : List (List UInt8)).getD O []), rfl, (by have h9 := af.1; first | assumption | omega), ⟨Nat.le_refl _, Nat.lt_succ_self _, af.2.2⟩⟩ (grown_refl _ _)
  ·
   intro aA wA hNA hRA hPA hbsA hdpA
   obtain ⟨nA, hnA, hkA⟩ := hPA
   have := hRA.size
   obtain ⟨J, V, M, X, H, O⟩ := hdpA 3 _ 61 zy rfl rfl
   refine zN (v := (Value.string (bs M))) one9 (zC hNA rfl X) (O.2.2 0 _ rfl) ?_
   exact obW_rel rfl ⟨M, rfl⟩ (grown_refl _ _)
  ·
   intro aA wA hNA hRA hPA hbsA hdpA
   obtain ⟨nA, hnA, hkA⟩ := hPA
   have := hRA.size
   refine op_bslice (e := 9) (pv := [(0, (.string (bs [110]))), (1, (.string (bs [118]))), (2, (.string (bs [107]))), (3, (.string (bs [113])))]) (cs := [(.string (bs [110])), (.string (bs [118])), (.string (bs [107])), (.string (bs [113]))]) ⟨rfl, rfl, ⟨rfl, rfl, ⟨rfl, rfl, ⟨rfl, rfl, trivial⟩⟩⟩⟩ zy ?_
   intro aa J X V O M
   have V : ¬ (fun k => k = p) J := fun hf => by have := (hkA.lt _ hf).2; omega
   have := M.size
   exact obW_rel rfl ⟨J, rfl, (by first | assumption | omega), O⟩ M
  ·
   intro aA wA hNA hRA hPA hbsA hdpA
   have Q := (hbsA 0 rfl).trans (zL hN rfl c)
   refine zG (zC hNA rfl Q) ?_
   exact obW_rel rfl rfl (grown_refl _ _)
  ·
   intro aA wA hNA hRA hPA hbsA hdpA
   obtain ⟨nA, hnA, hkA⟩ := hPA
   have := hRA.size
   have hb := hb.stepF hRA (fun _ _ h => h)
   have J : Sl aA 64 (ptr p 0) := hdpA 6 _ 64 zy rfl rfl
   have hbl' := hbl.keepG hb c_hbl
   refine zj ok15 (Num_ret (m := 4) hkA zx hbl' zx zx) ⟨(zC hNA rfl J), ⟨rfl, trivial⟩⟩ ?_
   rintro _ af ⟨J, M, rfl, ae, O, V, aa, X⟩
   have := J.size
   exact obT_rel rfl ⟨M, rfl, (by first | assumption | omega)⟩ ⟨O, by omega, V⟩ J
  ·
   intro aA wA hNA hRA hPA hbsA hdpA
   obtain ⟨nA, hnA, hkA⟩ := hPA
   have := hRA.size
   obtain ⟨I, J, O, M⟩ := hdpA 5 _ 63 zy rfl rfl
   obtain ⟨R, V, an⟩ := hdpA 7 _ 65 zy rfl rfl
   refine zh slt49 (zC hNA rfl J) (RdC.ofBx (sz := 1) (n := 4) M rfl zz) (zC hNA rfl V) zx zx ?_
   intro M J aa X V
   have X : PtC wA I (I + 1) M J [(.string (bs (([[110], [118], [107], [113]] : List (List UInt8)).getD R [])))] := ⟨by omega, by omega, fun j u hu => V j u (by have := (List.getElem?_eq_some_iff.1 hu).1; simpa using this) ((fun j u hu => one_at (el_sv (l := ([[110], [118], [107], [113]] : List (List UInt8))) (i := R) rfl (show _ < 4 by omega)) hu) j u hu)⟩
   exact obW_rel rfl ⟨M, J, (([[110], [118], [107], [113]] : List (List UInt8)).getD R []), rfl, (by have h9 := X.1; first | assumption | omega), ⟨Nat.le_refl _, Nat.lt_succ_self _, X.2.2⟩⟩ (grown_refl _ _)
  ·
   intro aA wA hNA hRA hPA hbsA hdpA
   obtain ⟨nA, hnA, hkA⟩ := hPA
   have := hRA.size
   obtain ⟨K, T, P, J, au, I⟩ := hdpA 8 _ 66 zy rfl rfl
   refine zN (v := (Value.string (bs P))) one9 (zC hNA rfl J) (I.2.2 0 _ rfl) ?_
   exact obW_rel rfl ⟨P, rfl⟩ (grown_refl _ _)
  intro V T I K R M P J
  have K := K.trans ((by simp only [putsL_defers] : _ = _).trans hd)
  obtain ⟨V, X, T⟩ := P
  have := J.size
  have g := g.keepG J y
  have hb := hb.stepF J (fun _ _ h => h)
  have J := (R 2 rfl).trans (zU hN rfl)
  obtain ⟨U, P⟩ := M 4 _ 62 rfl rfl
  obtain ⟨W, R⟩ := M 9 _ 67 rfl rfl
  refine split_end (from_seq (tl := [_, _]) zz zy rfl (zf (pv := [(0, (.int .i64 2)), (1, (.string (bs U))), (2, (.string (bs W)))]) (v := (Value.agg #[(.int .i64 2), (.string (bs U)), (.string (bs W)), (.slice none 0 0), (.slice none 0 0), (.slice none 0 0), (.slice none 0 0), (.string (bs [])), (.slice none 0 0), (.slice none 0 0), (.slice none 0 0), (.bool false), (.slice none 0 0)])) ⟨rfl, rfl, ⟨rfl, (zC I rfl P), ⟨rfl, (zC I rfl R), trivial⟩⟩⟩ zy (zZ size37 (zC I rfl J) (zA I rfl) rfl rfl g rfl ?_)))
  intro P g M
  have := M.size
  have T := T.keepG (Gr.of M) (Dj.one y)
  have hb := hb.step1 M zx
  refine zB (t _ _ (wp_ret (zb (zO ( (retC rfl K (zC I rfl J) agg37 rfl g ⟨_, rfl, ?_⟩))))))
  exact ⟨hb, XS.mk (StF.mk 2 U W (.slice none 0 0) [] (.slice none 0 0) [] (.slice none 0 0) [] (.slice none 0 0) [] [] (.slice none 0 0) [] (.slice none 0 0) [] (.slice none 0 0) [] false) (.slice none 0 0) [], rfl, SFr.flat ⟨(rdN _ _ _ _), (rdN _ _ _ _), (XsFr.nil _ _ _), (rdN _ _ _ _), (XsFr.nil _ _ _), (XsFr.nil _ _ _), (XsFr.nil _ _ _)⟩ (by refine ⟨?_, ?_, ?_⟩ <;> (try simp [XS.f]) <;> omega) rfl rfl, V, T, by omega⟩
 refine zD (zA hN rfl) (zB (t _ _ (wp_cond_false (zA hN rfl) (zF fun _ t => zH (op_eql (zA hN rfl) rfl (fun I => ?_) (fun I => ?_))))))
 ·
  refine zD (zA hN rfl) (zB (t _ _ (wp_cond_true (zA hN rfl) (zF fun _ t => zH (zj ok16 (SchemaL_ret _) trivial ?_)))))
  rintro _ P ⟨K, M, I, rfl, R, J⟩
  have K := zQ K
  obtain ⟨hb, _⟩ := yG hb K
  have z := z.kz K
  have T := J.1
  obtain ⟨V, U⟩ := sch_3 R
  refine op_alloc (cs := [(.slice none 0 0), (.slice none 0 0)]) zero30 rfl ?_
  intro X W ae aa U V
  have X : ¬ (fun k => k = p) W := fun hf => by have := (z.lt _ hf).2; omega
  obtain ⟨hb, _⟩ := yG hb V
  have g := (g.keep0 K).keep0 V
  have T := T.keep0 V
  have K := U
  refine zZ size30 (zA hN rfl) (zA hN rfl) rfl (by simp only [yA, yB, yC, yD, T.one]; try rfl) U rfl ?_
  intro ae U aa
  have := aa.size
  have g := g.keep aa (sN g K)
  have z := (z.kz V).keepG (Gr.of aa) (Dj.one X)
  have T := T.keep aa sO
  have J := (J.keep0 V).keep aa sO
  have hb := hb.step1 aa zx
  refine zB (t _ _ (zF fun _ t => reg_split (hd := [_, _, _, _, _, _, _, _, _, _, _, _]) (tl := _) 12 mixed zy rfl rfl ?_))
  refine any_rel (F := (fun k => k = p)) (Pk := (fun w' => ∃ nK, D ≤ nK ∧ PickR w' base p lv bl nK (fun k => k = p))) (L := [(fun uz _ => uz = (ptr p 0)), (fun uz _ => ∃ (ah : List UInt8), uz = (.string (bs ah))), (fun uz _ => uz = (ptr p 0)), (fun uz w' => ∃ (V : Value) (af : List UInt16), uz = V ∧ (af.length ≤ 2) ∧ RdC w' ae.heap.size w'.heap.size 1 V af.length (af.map u16v)), (fun uz _ => uz = (ptr p 0)), (fun uz _ => uz = (.agg #[M, (.slice none 0 0)])), (fun uz _ => uz = (ptr W 0)), (fun uz _ => uz = M), (fun uz _ => uz = (ptr p 0)), (fun uz _ => ∃ (aa : Nat), uz = (.int .i64 ((aa : Nat) : Int)) ∧ (aa < 2)), (fun uz w' => ∃ (ai : Nat) (ak : Nat) (K : Nat), uz = (ptr ai ak) ∧ (K < 2) ∧ PtC w' A.heap.size P.heap.size ai ak [(.string (bs (I.getD K default).t.nm)), (I.getD K default).cv, (I.getD K default).iv]), (fun uz _ => ∃ (ag : Nat), uz = (.agg #[(.string (bs (I.getD ag default).t.nm)), (I.getD ag default).cv, (I.getD ag default).iv]) ∧ (ag < 2))]) [1, 3, 9] zy zy zy zy hN (fun o w2 E h => by obtain ⟨x, h1, h2⟩ := h; exact ⟨x, h1, h2.kz E⟩) ⟨_, Nat.le_refl _, z⟩ (StR.cons (fun _ _ _ _ h => h) (StR.cons (fun _ _ _ _ h => h) (StR.cons (fun _ _ _ _ h => h) (StR.cons (fun u o w2 E h => by obtain ⟨V, af, ad, ac, ab⟩ := h; exact ⟨V, af, ad, ac, (ab.keepG E sP).mono (Nat.le_refl _) E.size⟩) (StR.cons (fun _ _ _ _ h => h) (StR.cons (fun _ _ _ _ h => h) (StR.cons (fun _ _ _ _ h => h) (StR.cons (fun _ _ _ _ h => h) (StR.cons (fun _ _ _ _ h => h) (StR.cons (fun _ _ _ _ h => h) (StR.cons (fun u o w2 E h => by obtain ⟨ai, ak, K, ad, ac, ab⟩ := h; exact ⟨ai, ak, K, ad, ac, ab.keepG E sP⟩) (StR.cons (fun _ _ _ _ h => h) (StR.nil))))))))))))) (ObWs9.cons rfl ?_ (ObWs9.turn rfl ?_ (ObWs9.cons rfl ?_ (ObWs9.turn rfl ?_ (ObWs9.cons rfl ?_ (ObWs9.cons rfl ?_ (ObWs9.cons rfl ?_ (ObWs9.cons rfl ?_ (ObWs9.cons rfl ?_ (ObWs9.turn rfl ?_ (ObWs9.cons rfl ?_ (ObWs9.cons rfl ?_ (ObWs9.nil))))))))))))) ?_
  ·
   intro aA wA hNA hRA hPA hbsA hdpA
   have Q := (hbsA 0 rfl).trans (zL hN rfl c)
   refine zG (zC hNA rfl Q) ?_
   exact obW_rel rfl rfl (grown_refl _ _)
  ·
   intro aA wA hNA hRA hPA hbsA hdpA
   obtain ⟨nA, hnA, hkA⟩ := hPA
   have := hRA.size
   have hb := hb.stepF hRA (fun _ _ h => h)
   have D : Sl aA 72 (ptr p 0) := hdpA 0 _ 72 zy rfl rfl
   have hbl' := hbl.keepG hb c_hbl
   refine zj ok17 (pview_ret hkA zx hbl') ⟨(zC hNA rfl D), trivial⟩ ?_
   rintro _ an ⟨D, ae, rfl, am, al, ao⟩
   have := D.size
   exact obT_rel rfl ⟨ae, rfl⟩ ⟨am, by omega, al⟩ D
  ·
   intro aA wA hNA hRA hPA hbsA hdpA
   have Q := (hbsA 0 rfl).trans (zL hN rfl c)
   refine zG (zC hNA rfl Q) ?_
   exact obW_rel rfl rfl (grown_refl _ _)
  ·
   intro aA wA hNA hRA hPA hbsA hdpA
   obtain ⟨nA, hnA, hkA⟩ := hPA
   have := hRA.size
   have hb := hb.stepF hRA (fun _ _ h => h)
   have D : Sl aA 74 (ptr p 0) := hdpA 2 _ 74 zy rfl rfl
   have hbl' := hbl.keepG hb c_hbl
   refine zj ok18 (Tags_ret hkA zx hbl') ⟨(zC hNA rfl D), trivial⟩ ?_
   rintro ae ar ⟨D, ao, aq, al, an, am, ap⟩
   have := D.size
   exact obT_rel rfl ⟨ae, ao, rfl, (by first | assumption | omega), (al.mono zx zx)⟩ ⟨an, by omega, am⟩ D
  ·
   intro aA wA hNA hRA hPA hbsA hdpA
   have Q := (hbsA 0 rfl).trans (zL hN rfl c)
   refine zG (zC hNA rfl Q) ?_
   exact obW_rel rfl rfl (grown_refl _ _)
  ·
   intro aA wA hNA hRA hPA hbsA hdpA
   obtain ⟨nA, hnA, hkA⟩ := hPA
   have := hRA.size
   have U := U.keepG hRA X
   have D := (hbsA 6 rfl).trans (zU hN rfl)
   refine zY agg30 rfl (zC hNA rfl D) U ?_
   exact obW_rel rfl rfl (grown_refl _ _)
  ·
   intro aA wA hNA hRA hPA hbsA hdpA
   have D := (hbsA 6 rfl).trans (zU hN rfl)
   refine zM fld30_0 (zC hNA rfl D) ?_
   exact obW_rel rfl rfl (grown_refl _ _)
  ·
   intro aA wA hNA hRA hPA hbsA hdpA
   obtain ⟨nA, hnA, hkA⟩ := hPA
   have := hRA.size
   have U := U.keepG hRA X
   have D : Sl aA 78 (ptr W 0) := hdpA 6 _ 78 zy rfl rfl
   refine zN one27 (zC hNA rfl D) (U.cell rfl) ?_
   exact obW_rel rfl rfl (grown_refl _ _)
  ·
   intro aA wA hNA hRA hPA hbsA hdpA
   have Q := (hbsA 0 rfl).trans (zL hN rfl c)
   refine zG (zC hNA rfl Q) ?_
   exact obW_rel rfl rfl (grown_refl _ _)
  ·
   intro aA wA hNA hRA hPA hbsA hdpA
   obtain ⟨nA, hnA, hkA⟩ := hPA
   have := hRA.size
   have hb := hb.stepF hRA (fun _ _ h => h)
   have D : Sl aA 80 (ptr p 0) := hdpA 8 _ 80 zy rfl rfl
   have hbl' := hbl.keepG hb c_hbl
   refine zj ok15 (Num_ret (m := 2) hkA zx hbl' zx zx) ⟨(zC hNA rfl D), ⟨rfl, trivial⟩⟩ ?_
   rintro _ ae ⟨D, W, rfl, an, X, U, am, al⟩
   have := D.size
   exact obT_rel rfl ⟨W, rfl, (by first | assumption | omega)⟩ ⟨X, by omega, U⟩ D
  ·
   intro aA wA hNA hRA hPA hbsA hdpA
   obtain ⟨nA, hnA, hkA⟩ := hPA
   have := hRA.size
   have T := T.keepG hRA sP
   have D : Sl aA 79 M := hdpA 7 _ 79 zy rfl rfl
   obtain ⟨aa, U, ay⟩ := hdpA 9 _ 81 zy rfl rfl
   refine zh slt27 (zC hNA rfl D) T (zC hNA rfl U) zx zx ?_
   intro D T W X U
   have W : PtC wA A.heap.size P.heap.size D T [(.string (bs (I.getD aa default).t.nm)), (I.getD aa default).cv, (I.getD aa default).iv] := ⟨by omega, by omega, fun j u hu => U j u (by have := (List.getElem?_eq_some_iff.1 hu).1; simpa using this) ((el_dt (i := aa) zx zx) j u hu)⟩
   exact obW_rel rfl ⟨D, T, aa, rfl, (by have h9 := W.1; first | assumption | omega), W⟩ (grown_refl _ _)
  ·
   intro aA wA hNA hRA hPA hbsA hdpA
   obtain ⟨nA, hnA, hkA⟩ := hPA
   have := hRA.size
   obtain ⟨ai, ak, K, D, aj, P⟩ := hdpA 10 _ 82 zy rfl rfl
   refine zX (cs := [(.string (bs (I.getD K default).t.nm)), (I.getD K default).cv, (I.getD K default).iv]) agg51 rfl (zC hNA rfl D) (fun j u hu => P.2.2 j u hu) ?_
   exact obW_rel rfl ⟨K, rfl, (by first | assumption | omega)⟩ (grown_refl _ _)
  intro T X D P U I W K
  have P := P.trans ((by simp only [putsL_defers] : _ = _).trans hd)
  obtain ⟨ae, aa, X⟩ := W
  have := K.size
  have J := J.keepG K sP
  have hb := hb.stepF K (fun _ _ h => h)
  have W := (U 2 rfl).trans (zU hN rfl)
  obtain ⟨ah, U⟩ := I 1 _ 73 rfl rfl
  obtain ⟨V, af, ae, H, aa⟩ := I 3 _ 75 rfl rfl
  have ai : Sl T 76 (ptr p 0) := I 4 _ 76 rfl rfl
  have aj : Sl T 77 (.agg #[M, (.slice none 0 0)]) := I 5 _ 77 rfl rfl
  obtain ⟨ag, M, T⟩ := I 11 _ 83 rfl rfl
  refine split_end (from_seq (tl := [_, _, _, _]) zz zy rfl ?_)
  have hbl' := hbl.keepG hb c_hbl
  refine zj ok19 (selected_ret (r := ag) X zx hbl' J R zx zx zx) ⟨(zC D rfl ai), ⟨(zC D rfl aj), ⟨(zC D rfl M), trivial⟩⟩⟩ ?_
  rintro _ ag ⟨J, I, rfl, R, T, M, X⟩
  have := J.size
  have hb := hb.stepF J (fun _ _ h => h)
  refine op_bslice (e := 37) (pv := [(0, (.agg #[(.int .i64 I.f.kind), (.string (bs I.f.tb)), (.string (bs I.f.nm)), I.f.cv, I.f.gv, I.f.vv, I.f.iv, (.string (bs I.f.join)), I.f.ov, I.f.wv, I.f.rv, (.bool I.f.desc), I.nv]))]) (cs := [(.int .i64 I.f.kind), (.string (bs I.f.tb)), (.string (bs I.f.nm)), I.f.cv, I.f.gv, I.f.vv, I.f.iv, (.string (bs I.f.join)), I.f.ov, I.f.wv, I.f.rv, (.bool I.f.desc), I.nv]) ⟨rfl, (zA D rfl), trivial⟩ zy ?_
  intro ak ai al aj ag X
  have aj : ¬ (fun k => k = p) ai := fun hf => by have := (M.lt _ hf).2; omega
  obtain ⟨hb, _⟩ := yG hb X
  have g := ((g.keepG K y).keepG J y).keep0 X
  have aa := (aa.keepG J sP).keep0 X
  refine zf (pv := [(0, (.int .i64 3)), (2, (.string (bs ah))), (4, V), (12, (.slice (some ⟨ai, 0, none⟩) 1 1))]) (v := (Value.agg #[(.int .i64 3), (.string (bs [])), (.string (bs ah)), (.slice none 0 0), V, (.slice none 0 0), (.slice none 0 0), (.string (bs [])), (.slice none 0 0), (.slice none 0 0), (.slice none 0 0), (.bool false), (.slice (some ⟨ai, 0, none⟩) 1 1)])) ⟨rfl, rfl, ⟨rfl, (zC D rfl U), ⟨rfl, (zC D rfl ae), ⟨rfl, (zA D rfl), trivial⟩⟩⟩⟩ (by obtain ⟨_, _, _, rfl⟩ := aa.sl; kernel_rfl) (zZ size37 (zC D rfl W) (zA D rfl) rfl (by simp only [yA, yB, yC, yD, aa.one]; try rfl) g rfl ?_)
  intro K g J
  have := J.size
  have aa := aa.keep J sO
  have M := (M.kz X).keepG (Gr.of J) (Dj.one y)
  have R := (R.keep0 X).keep J sO
  have ag := ag.keep J sB
  have hb := hb.step1 J zx
  refine zB (t _ _ (wp_ret (zb (zO ( (retC rfl P (zC D rfl W) agg37 rfl g ⟨_, rfl, ?_⟩))))))
  exact ⟨hb, XS.mk (StF.mk 3 [] ah (.slice none 0 0) [] V af (.slice none 0 0) [] (.slice none 0 0) [] [] (.slice none 0 0) [] (.slice none 0 0) [] (.slice none 0 0) [] false) (.slice (some ⟨ai, 0, none⟩) 1 1) [I], rfl, SFr.one (a := I) ⟨(rdN _ _ _ _), (aa.mono zx zx), (XsFr.nil _ _ _), (rdN _ _ _ _), (XsFr.nil _ _ _), (XsFr.nil _ _ _), (XsFr.nil _ _ _)⟩ (by refine ⟨?_, ?_, ?_⟩ <;> (try simp [XS.f]) <;> omega) ag rfl rfl zx ag.lt (R.mono zx zx), T, M, by omega⟩
 refine zD (zA hN rfl) (zB (t _ _ (wp_cond_false (zA hN rfl) (zF fun _ t => zH (op_eql (zA hN rfl) rfl (fun D => ?_) (fun D => ?_))))))
 ·
  refine zD (zA hN rfl) (zB (t _ _ (wp_cond_true (zA hN rfl) (zF fun _ t => zH (zG (zC hN rfl c) ?_)))))
  have hbl' := hbl.keepG hb c_hbl
  refine zj ok20 (Data_ret z zx hbl') ⟨(zA hN rfl), trivial⟩ ?_
  rintro _ M ⟨J, K, rfl, D, P, I, R, T⟩
  have := J.size
  have hb := hb.stepF J (fun _ _ h => h)
  refine op_alloc (cs := [(.int .i64 0), (.string (bs [])), (.string (bs [])), (.slice none 0 0), (.slice none 0 0), (.slice none 0 0), (.slice none 0 0), (.string (bs [])), (.slice none 0 0), (.slice none 0 0), (.slice none 0 0), (.bool false), (.slice none 0 0)]) zero37 rfl ?_
  intro U P V W T R
  have U : ¬ (fun k => k = p) P := fun hf => by have := (I.lt _ hf).2; omega
  obtain ⟨hb, _⟩ := yG hb R
  have D := D.keep0 R
  refine zZ size37 (zA hN rfl) (zA hN rfl) rfl (by simp only [yA, yB, yC, yD, D.ff.1.one, D.ff.2.1.one, D.ff.2.2.1.1.one, D.ff.2.2.2.1.one, D.ff.2.2.2.2.1.1.one, D.ff.2.2.2.2.2.1.1.one, D.ff.2.2.2.2.2.2.1.one, D.nvr.one]; try rfl) T rfl ?_
  intro W T V
  have := V.size
  have g := ((g.keepG J y).keep0 R).keep V sB
  have I := (I.kz R).keepG (Gr.of V) (Dj.one U)
  have D := D.keep V sO
  have hb := hb.step1 V zx
  refine zB (t _ _ (zF fun _ t => wp_block (loop_m (fun mz_ az_ w' => ∃ (G : Nat) (J : XS) (R V : Nat), mz_ = (if J.f.kind = 6 then 1 + (bl.length - G) else 0) ∧ (Sl az_ 0 (ptr p 0)) ∧ (Sl az_ 2 (ptr q 0)) ∧ (Sl az_ 7 (ptr P 0)) ∧ ((P < R ∨ V ≤ P) ∧ w.heap.size ≤ R ∧ q < R) ∧ (V ≤ w'.heap.size) ∧ (P < w'.heap.size) ∧ (q < w'.heap.size) ∧ (n ≤ G) ∧ (Gr w w' (fun k => k = p)) ∧ (W.heap.size ≤ w'.heap.size) ∧ (Bx w' q 37 [(.int .i64 0), (.string (bs [])), (.string (bs [])), (.slice none 0 0), (.slice none 0 0), (.slice none 0 0), (.slice none 0 0), (.string (bs [])), (.slice none 0 0), (.slice none 0 0), (.slice none 0 0), (.bool false), (.slice none 0 0)]) ∧ (Bx w' P 37 [(.int .i64 J.f.kind), (.string (bs J.f.tb)), (.string (bs J.f.nm)), J.f.cv, J.f.gv, J.f.vv, J.f.iv, (.string (bs J.f.join)), J.f.ov, J.f.wv, J.f.rv, (.bool J.f.desc), J.nv]) ∧ (SFr w' R V J) ∧ (PickR w' base p lv bl G (fun k => k = p))) _ hN hd ⟨_, K, A.heap.size, M.heap.size, rfl, (zL hN rfl c), (zU hN rfl), (zU hN rfl), zx, zx, T.lt, g.lt, zx, hb, (Nat.le_refl _), g, T, D, I⟩ ?_)))
  rintro _ ae P q M ⟨G, J, R, V, rfl, A, I, D, af, X, T, aa, Y, hb, W, g, hxl, K, hpk⟩
  have := hb.size
  refine zF fun _ S => zF fun _ Z => zH (zM fld37_0 (zC q rfl D) (zN one3 (zA q rfl) (hxl.cell rfl) (op_eql (zA q rfl) rfl (fun R => ?_) (fun R => ?_))))
  ·
   refine zB (Z _ _ (wp_cond_true (zA q rfl) (wp_skip (S _ _ (wp_block (zF fun _ S => zH (zG (zC q rfl A) ?_)))))))
   have hbl' := hbl.keepG hb c_hbl
   refine zj ok21 (Over_t hpk zx hbl') ⟨(zA q rfl), trivial⟩ ?_
   rintro _ V ⟨R, rfl, W, T, X, Y⟩
   have := R.size
   have g := g.keepG R y
   have hxl := hxl.keepG R U
   have hb := hb.stepF R (fun _ _ h => h)
   rcases Bool.eq_false_or_eq_true ((decide (bl.length ≤ G))) with R | R
   ·
    rw [R]
    refine zB (S _ _ (wp_cond_true (zA q rfl) (zH ?_)))
    skip
    refine zf (pv := [(0, (.int .i64 8)), (1, (.string (bs [117])))]) (v := (Value.agg #[(.int .i64 8), (.string (bs [117])), (.string (bs [])), (.slice none 0 0), (.slice none 0 0), (.slice none 0 0), (.slice none 0 0), (.string (bs [])), (.slice none 0 0), (.slice none 0 0), (.slice none 0 0), (.bool false), (.slice none 0 0)])) ⟨rfl, rfl, ⟨rfl, rfl, trivial⟩⟩ zy (zZ size37 (zC q rfl D) (zA q rfl) rfl rfl hxl rfl ?_)
    intro Y hxl X
    have := X.size
    have g := g.keep X sB
    have T := T.keepG (Gr.of X) (Dj.one U)
    have hb := hb.step1 X zx
    refine zB (blk_normal ?_)
    -- round 11F 57F 70F 88T 93T 95T
    exact zg _ q M ⟨W, (XS.mk (StF.mk 8 ([117]) [] (.slice none 0 0) [] (.slice none 0 0) [] (.slice none 0 0) [] (.slice none 0 0) [] [] (.slice none 0 0) [] (.slice none 0 0) [] (.slice none 0 0) [] false) (.slice none 0 0) []), Y.heap.size, Y.heap.size, rfl, (zL q rfl A), (zL q rfl I), (zL q rfl D), zx, zx, zx, zx, zx, hb, zx, g, hxl, (SFr.flat (L := Y.heap.size) (B := Y.heap.size) (s := XS.mk (StF.mk 8 ([117]) [] (.slice none 0 0) [] (.slice none 0 0) [] (.slice none 0 0) [] (.slice none 0 0) [] [] (.slice none 0 0) [] (.slice none 0 0) [] (.slice none 0 0) [] false) (.slice none 0 0) []) ⟨(rdN _ _ _ _), (rdN _ _ _ _), (XsFr.nil _ _ _), (rdN _ _ _ _), (XsFr.nil _ _ _), (XsFr.nil _ _ _), (XsFr.nil _ _ _)⟩ (by refine ⟨?_, ?_, ?_⟩ <;> (try simp [XS.f]) <;> omega) rfl rfl), T⟩ (by rw [if_pos (show J.f.kind = 6 by assumption)]; rw [if_neg zz]; omega)
   rw [R]
   refine zB (S _ _ (wp_cond_false (zA q rfl) (zH ?_)))
   skip
   refine zG (zC q rfl A) ?_
   have hbl' := hbl.keepG hb c_hbl
   refine zj ok20 (Data_ret T zx hbl') ⟨(zA q rfl), trivial⟩ ?_
   rintro _ aa ⟨T, X, rfl, S, Y, W, af, ae⟩
   have := T.size
   have hxl := hxl.keepG T U
   have hb := hb.stepF T (fun _ _ h => h)
   refine zZ size37 (zC q rfl D) (zA q rfl) rfl (by simp only [yA, yB, yC, yD, S.ff.1.one, S.ff.2.1.one, S.ff.2.2.1.1.one, S.ff.2.2.2.1.one, S.ff.2.2.2.2.1.1.one, S.ff.2.2.2.2.2.1.1.one, S.ff.2.2.2.2.2.2.1.one, S.nvr.one]; try rfl) hxl rfl ?_
   intro ag hxl af
   have := af.size
   have g := (g.keepG T y).keep af sB
   have W := W.keepG (Gr.of af) (Dj.one U)
   have S := S.keep af sO
   have hb := hb.step1 af zx
   refine zB (blk_normal ?_)
   -- round 11F 57F 70F 88T 93T 95F
   exact zg _ q M ⟨Y, X, V.heap.size, aa.heap.size, rfl, (zL q rfl A), (zL q rfl I), (zL q rfl D), zx, zx, zx, zx, zx, hb, zx, g, hxl, S, W⟩ (by rw [if_pos (show J.f.kind = 6 by assumption)]; have h9 := of_decide_eq_false R; have h8 := ae zx; split <;> omega)
  refine zB (Z _ _ (wp_cond_false (zA q rfl) (wp_exit (then_exit (then_exit (blk_hit (t _ _ (zF fun _ t => reg_split (hd := [_, _, _, _, _, _]) (tl := _) 6 mixed zy rfl rfl (any_rel (F := (fun k => k = p)) (Pk := (fun w' => ∃ nK, G ≤ nK ∧ PickR w' base p lv bl nK (fun k => k = p))) (L := [(fun uz _ => uz = (ptr p 0)), (fun uz _ => ∃ (V : List UInt8), uz = (.string (bs V))), (fun uz _ => uz = (ptr p 0)), (fun uz w' => ∃ (S : Value) (T : List UInt16), uz = S ∧ (T.length ≤ 2) ∧ RdC w' P.heap.size w'.heap.size 1 S T.length (T.map u16v)), (fun uz _ => uz = (.agg #[(.int .i64 J.f.kind), (.string (bs J.f.tb)), (.string (bs J.f.nm)), J.f.cv, J.f.gv, J.f.vv, J.f.iv, (.string (bs J.f.join)), J.f.ov, J.f.wv, J.f.rv, (.bool J.f.desc), J.nv])), (fun uz w' => ∃ (R : Nat), uz = (.slice (some ⟨R, 0, none⟩) 1 1) ∧ (P.heap.size ≤ R) ∧ Bx w' R 37 [(.int .i64 J.f.kind), (.string (bs J.f.tb)), (.string (bs J.f.nm)), J.f.cv, J.f.gv, J.f.vv, J.f.iv, (.string (bs J.f.join)), J.f.ov, J.f.wv, J.f.rv, (.bool J.f.desc), J.nv])]) [1, 3] zy zy zy zy q (fun o w2 E h => by obtain ⟨x, h1, h2⟩ := h; exact ⟨x, h1, h2.kz E⟩) ⟨_, Nat.le_refl _, hpk⟩ (StR.cons (fun _ _ _ _ h => h) (StR.cons (fun _ _ _ _ h => h) (StR.cons (fun _ _ _ _ h => h) (StR.cons (fun u o w2 E h => by obtain ⟨S, T, ad, ac, ab⟩ := h; exact ⟨S, T, ad, ac, (ab.keepG E sP).mono (Nat.le_refl _) E.size⟩) (StR.cons (fun _ _ _ _ h => h) (StR.cons (fun u o w2 E h => by obtain ⟨R, ad, ac, ab⟩ := h; exact ⟨R, ad, ac, ab.keepG E (fun hf => by have h9 : R = p := hf; omega)⟩) (StR.nil))))))) (ObWs9.cons rfl ?_ (ObWs9.turn rfl ?_ (ObWs9.cons rfl ?_ (ObWs9.turn rfl ?_ (ObWs9.cons rfl ?_ (ObWs9.cons rfl ?_ (ObWs9.nil))))))) ?_)))))))))
  ·
   intro aA wA hNA hRA hPA hbsA hdpA
   have Q := (hbsA 0 rfl).trans (zL q rfl A)
   refine zG (zC hNA rfl Q) ?_
   exact obW_rel rfl rfl (grown_refl _ _)
  ·
   intro aA wA hNA hRA hPA hbsA hdpA
   obtain ⟨nA, hnA, hkA⟩ := hPA
   have := hRA.size
   have hb := hb.stepF hRA (fun _ _ h => h)
   have o : Sl aA 99 (ptr p 0) := hdpA 0 _ 99 zy rfl rfl
   have hbl' := hbl.keepG hb c_hbl
   refine zj ok17 (pview_ret hkA zx hbl') ⟨(zC hNA rfl o), trivial⟩ ?_
   rintro _ Y ⟨o, G, rfl, W, P, X⟩
   have := o.size
   exact obT_rel rfl ⟨G, rfl⟩ ⟨W, by omega, P⟩ o
  ·
   intro aA wA hNA hRA hPA hbsA hdpA
   have Q := (hbsA 0 rfl).trans (zL q rfl A)
   refine zG (zC hNA rfl Q) ?_
   exact obW_rel rfl rfl (grown_refl _ _)
  ·
   intro aA wA hNA hRA hPA hbsA hdpA
   obtain ⟨nA, hnA, hkA⟩ := hPA
   have := hRA.size
   have hb := hb.stepF hRA (fun _ _ h => h)
   have o : Sl aA 101 (ptr p 0) := hdpA 2 _ 101 zy rfl rfl
   have hbl' := hbl.keepG hb c_hbl
   refine zj ok18 (Tags_ret hkA zx hbl') ⟨(zC hNA rfl o), trivial⟩ ?_
   rintro G X ⟨o, A, Z, W, P, Q, Y⟩
   have := o.size
   exact obT_rel rfl ⟨G, A, rfl, (by first | assumption | omega), (W.mono zx zx)⟩ ⟨P, by omega, Q⟩ o
  ·
   intro aA wA hNA hRA hPA hbsA hdpA
   obtain ⟨nA, hnA, hkA⟩ := hPA
   have := hRA.size
   have hxl := hxl.keepG hRA U
   have o := (hbsA 7 rfl).trans (zL q rfl D)
   refine zY agg37 rfl (zC hNA rfl o) hxl ?_
   exact obW_rel rfl rfl (grown_refl _ _)
  ·
   intro aA wA hNA hRA hPA hbsA hdpA
   obtain ⟨nA, hnA, hkA⟩ := hPA
   have := hRA.size
   have o : Sl aA 103 (.agg #[(.int .i64 J.f.kind), (.string (bs J.f.tb)), (.string (bs J.f.nm)), J.f.cv, J.f.gv, J.f.vv, J.f.iv, (.string (bs J.f.join)), J.f.ov, J.f.wv, J.f.rv, (.bool J.f.desc), J.nv]) := hdpA 4 _ 103 zy rfl rfl
   refine op_bslice (e := 37) (pv := [(0, (.agg #[(.int .i64 J.f.kind), (.string (bs J.f.tb)), (.string (bs J.f.nm)), J.f.cv, J.f.gv, J.f.vv, J.f.iv, (.string (bs J.f.join)), J.f.ov, J.f.wv, J.f.rv, (.bool J.f.desc), J.nv]))]) (cs := [(.int .i64 J.f.kind), (.string (bs J.f.tb)), (.string (bs J.f.nm)), J.f.cv, J.f.gv, J.f.vv, J.f.iv, (.string (bs J.f.join)), J.f.ov, J.f.wv, J.f.rv, (.bool J.f.desc), J.nv]) ⟨rfl, (zC hNA rfl o), trivial⟩ zy ?_
   intro P A Q G D o
   have G : ¬ (fun k => k = p) A := fun hf => by have := (hkA.lt _ hf).2; omega
   have := o.size
   exact obW_rel rfl ⟨A, rfl, (by first | assumption | omega), D⟩ o
  intro W U o D P G Q A
  have D := D.trans ((by simp only [putsL_defers] : _ = _).trans M)
  obtain ⟨U, W, M⟩ := Q
  have := A.size
  have g := g.keepG A y
  have hb := hb.stepF A (fun _ _ h => h)
  have Q := (P 2 rfl).trans (zL q rfl I)
  obtain ⟨V, q⟩ := G 1 _ 100 rfl rfl
  obtain ⟨S, T, P, H, I⟩ := G 3 _ 102 rfl rfl
  obtain ⟨R, W, O, H⟩ := G 5 _ 104 rfl rfl
  have G := H.lt
  refine split_end (from_seq (tl := [_, _]) zz zy rfl (zf (pv := [(0, (.int .i64 4)), (2, (.string (bs V))), (4, S), (12, (.slice (some ⟨R, 0, none⟩) 1 1))]) (v := (Value.agg #[(.int .i64 4), (.string (bs [])), (.string (bs V)), (.slice none 0 0), S, (.slice none 0 0), (.slice none 0 0), (.string (bs [])), (.slice none 0 0), (.slice none 0 0), (.slice none 0 0), (.bool false), (.slice (some ⟨R, 0, none⟩) 1 1)])) ⟨rfl, rfl, ⟨rfl, (zC o rfl q), ⟨rfl, (zC o rfl P), ⟨rfl, (zC o rfl W), trivial⟩⟩⟩⟩ (by obtain ⟨_, _, _, rfl⟩ := I.sl; kernel_rfl) (zZ size37 (zC o rfl Q) (zA o rfl) rfl (by simp only [yA, yB, yC, yD, I.one]; try rfl) g rfl ?_)))
  intro G g q
  have := q.size
  have K := (K.keepG A sP).keep q sO
  have M := M.keepG (Gr.of q) (Dj.one y)
  have I := I.keep q sO
  have H := H.keep q sB
  have hb := hb.step1 q zx
  refine zB (t _ _ (wp_ret (zb (zO ( (retC rfl D (zC o rfl Q) agg37 rfl g ⟨_, rfl, ?_⟩))))))
  exact ⟨hb, XS.mk (StF.mk 4 [] V (.slice none 0 0) [] S T (.slice none 0 0) [] (.slice none 0 0) [] [] (.slice none 0 0) [] (.slice none 0 0) [] (.slice none 0 0) [] false) (.slice (some ⟨R, 0, none⟩) 1 1) [J], rfl, SFr.one (a := J) ⟨(rdN _ _ _ _), (I.mono zx zx), (XsFr.nil _ _ _), (rdN _ _ _ _), (XsFr.nil _ _ _), (XsFr.nil _ _ _), (XsFr.nil _ _ _)⟩ (by refine ⟨?_, ?_, ?_⟩ <;> (try simp [XS.f]) <;> omega) H rfl rfl zx H.lt (K.mono zx zx), U, M, by omega⟩
 refine zD (zA hN rfl) (zB (t _ _ (wp_cond_false (zA hN rfl) (zF fun _ t => zH (op_eql (zA hN rfl) rfl (fun o => ?_) (fun o => ?_))))))
 ·
  refine zD (zA hN rfl) (zB (t _ _ (wp_cond_true (zA hN rfl) (zF fun _ t => zH (zG (zC hN rfl c) ?_)))))
  have hbl' := hbl.keepG hb c_hbl
  refine zj ok15 (Num_ret (m := 3) z zx hbl' zx zx) ⟨(zA hN rfl), ⟨rfl, trivial⟩⟩ ?_
  rintro _ J ⟨o, A, rfl, G, D, q, I, H⟩
  have := o.size
  have g := g.keepG o y
  have hb := hb.stepF o (fun _ _ h => h)
  refine op_add rfl (zA hN rfl) (add64 zx) (zf (pv := [(0, (.int .i64 (9 + ((A : Nat) : Int))))]) (v := (Value.agg #[(.int .i64 (9 + ((A : Nat) : Int))), (.string (bs [])), (.string (bs [])), (.slice none 0 0), (.slice none 0 0), (.slice none 0 0), (.slice none 0 0), (.string (bs [])), (.slice none 0 0), (.slice none 0 0), (.slice none 0 0), (.bool false), (.slice none 0 0)])) ⟨rfl, (zA hN rfl), trivial⟩ zy (zZ size37 (zA hN rfl) (zA hN rfl) rfl rfl g rfl ?_))
  intro G g o
  have := o.size
  have q := q.keepG (Gr.of o) (Dj.one y)
  have hb := hb.step1 o zx
  refine zB (t _ _ (wp_ret (zb (zO ( (retC rfl hd (zA hN rfl) agg37 rfl g ⟨_, rfl, ?_⟩))))))
  exact ⟨hb, XS.mk (StF.mk (9 + ((A : Nat) : Int)) [] [] (.slice none 0 0) [] (.slice none 0 0) [] (.slice none 0 0) [] (.slice none 0 0) [] [] (.slice none 0 0) [] (.slice none 0 0) [] (.slice none 0 0) [] false) (.slice none 0 0) [], rfl, SFr.flat ⟨(rdN _ _ _ _), (rdN _ _ _ _), (XsFr.nil _ _ _), (rdN _ _ _ _), (XsFr.nil _ _ _), (XsFr.nil _ _ _), (XsFr.nil _ _ _)⟩ (by refine ⟨?_, ?_, ?_⟩ <;> (try simp [XS.f]) <;> omega) rfl rfl, D, q, by omega⟩
 refine zD (zA hN rfl) (zB (t _ _ (wp_cond_false (zA hN rfl) (zF fun _ t => zH (op_eql (zA hN rfl) rfl (fun o => ?_) (fun o => ?_))))))
 ·
  refine zD (zA hN rfl) (zB (t _ _ (wp_cond_true (zA hN rfl) (zF fun _ t => zH (zG (zC hN rfl c) ?_)))))
  have hbl' := hbl.keepG hb c_hbl
  refine zj ok15 (Num_ret (m := 3) z zx hbl' zx zx) ⟨(zA hN rfl), ⟨rfl, trivial⟩⟩ ?_
  rintro _ H ⟨A, o, rfl, D, I, q, J, G⟩
  have := A.size
  have hb := hb.stepF A (fun _ _ h => h)
  refine op_add rfl (zA hN rfl) (add64 zx) (op_conv (r := ((UInt16.ofNat (1 + o)).toNat : Int)) (zA hN rfl) us3 Tryz.underlying56 (wrap_tag zx) (op_bslice (e := 56) (pv := [(0, (.int .u16 ((UInt16.ofNat (1 + o)).toNat : Int)))]) (cs := [(.int .u16 ((UInt16.ofNat (1 + o)).toNat : Int))]) ⟨rfl, (zA hN rfl), trivial⟩ zy ?_))
  intro K H I J G D
  have I : ¬ (fun k => k = p) H := fun hf => by have := (q.lt _ hf).2; omega
  obtain ⟨hb, _⟩ := yG hb D
  have q := q.kz D
  refine zG (zC hN rfl c) ?_
  have hbl' := hbl.keepG hb c_hbl
  refine zj ok18 (Tags_ret q zx hbl') ⟨(zA hN rfl), trivial⟩ ?_
  rintro O P ⟨q, H, R, M, K, J, Q⟩
  have := q.size
  have G := G.keepG q I
  have hb := hb.stepF q (fun _ _ h => h)
  skip
  have O := (Own.ofBx (base := w.heap.size) (sz := 1) (n := 1) G rfl zz zx)
  refine op_append slt23 (zA hN rfl) O (zA hN rfl) (Src.ofRd Tryz.underlying23 zz M (one_u16 _)) (by unfold maxLen; omega) zx hb.size ?_
  intro P Q G M R
  have := M.size
  have g := (((g.keepG A y).keep0 D).keepG q y).keep M (by simp [Value.ownBlock]; try omega)
  have hb := hb.stepO O M zx
  have G : Own Q w.heap.size 56 1 P ([(UInt16.ofNat (1 + o))] ++ H).length ((([(UInt16.ofNat (1 + o))] ++ H)).map u16v) := by exact G.cast (by simp [Nat.add_comm]) (by simp [u16v])
  refine zf (pv := [(0, (.int .i64 12)), (4, P)]) (v := (Value.agg #[(.int .i64 12), (.string (bs [])), (.string (bs [])), (.slice none 0 0), P, (.slice none 0 0), (.slice none 0 0), (.string (bs [])), (.slice none 0 0), (.slice none 0 0), (.slice none 0 0), (.bool false), (.slice none 0 0)])) ⟨rfl, rfl, ⟨rfl, (zA hN rfl), trivial⟩⟩ (by obtain ⟨_, _, _, rfl⟩ := G.sl; kernel_rfl) ?_
  have C := g
  refine zZ size37 (zA hN rfl) (zA hN rfl) rfl (by simp only [yA, yB, yC, yD, G.one]; try rfl) g rfl ?_
  intro A g q
  have := q.size
  have J := (J.keepG (Gr.of M) (Dj.one I)).keepG (Gr.of q) (Dj.one y)
  have G := G.keepX C q zz
  have hb := hb.step1 q zx
  refine zB (t _ _ (wp_ret (zb (zO ( (retC rfl hd (zA hN rfl) agg37 rfl g ⟨_, rfl, ?_⟩))))))
  exact ⟨hb, XS.mk (StF.mk 12 [] [] (.slice none 0 0) [] P ([(UInt16.ofNat (1 + o))] ++ H) (.slice none 0 0) [] (.slice none 0 0) [] [] (.slice none 0 0) [] (.slice none 0 0) [] (.slice none 0 0) [] false) (.slice none 0 0) [], rfl, SFr.flat ⟨(rdN _ _ _ _), (G.rdw.mono zx zx), (XsFr.nil _ _ _), (rdN _ _ _ _), (XsFr.nil _ _ _), (XsFr.nil _ _ _), (XsFr.nil _ _ _)⟩ (by refine ⟨?_, ?_, ?_⟩ <;> (try simp [XS.f]) <;> omega) rfl rfl, K, J, by omega⟩
 refine zD (zA hN rfl) (zB (t _ _ (wp_cond_false (zA hN rfl) (zF fun _ t => zH (op_eql (zA hN rfl) rfl (fun o => ?_) (fun o => ?_))))))
 ·
  refine zD (zA hN rfl) (zB (t _ _ (wp_cond_true (zA hN rfl) (zF fun _ t => zH (zG (zC hN rfl c) ?_)))))
  have hbl' := hbl.keepG hb c_hbl
  refine zj ok17 (pview_ret z zx hbl') ⟨(zA hN rfl), trivial⟩ ?_
  rintro _ G ⟨o, A, rfl, C, q, D⟩
  have := o.size
  have g := g.keepG o y
  have hb := hb.stepF o (fun _ _ h => h)
  refine zf (pv := [(0, (.int .i64 13)), (2, (.string (bs A)))]) (v := (Value.agg #[(.int .i64 13), (.string (bs [])), (.string (bs A)), (.slice none 0 0), (.slice none 0 0), (.slice none 0 0), (.slice none 0 0), (.string (bs [])), (.slice none 0 0), (.slice none 0 0), (.slice none 0 0), (.bool false), (.slice none 0 0)])) ⟨rfl, rfl, ⟨rfl, (zA hN rfl), trivial⟩⟩ zy (zZ size37 (zA hN rfl) (zA hN rfl) rfl rfl g rfl ?_)
  intro D g o
  have := o.size
  have q := q.keepG (Gr.of o) (Dj.one y)
  have hb := hb.step1 o zx
  refine zB (t _ _ (wp_ret (zb (zO ( (retC rfl hd (zA hN rfl) agg37 rfl g ⟨_, rfl, ?_⟩))))))
  exact ⟨hb, XS.mk (StF.mk 13 [] A (.slice none 0 0) [] (.slice none 0 0) [] (.slice none 0 0) [] (.slice none 0 0) [] [] (.slice none 0 0) [] (.slice none 0 0) [] (.slice none 0 0) [] false) (.slice none 0 0) [], rfl, SFr.flat ⟨(rdN _ _ _ _), (rdN _ _ _ _), (XsFr.nil _ _ _), (rdN _ _ _ _), (XsFr.nil _ _ _), (XsFr.nil _ _ _), (XsFr.nil _ _ _)⟩ (by refine ⟨?_, ?_, ?_⟩ <;> (try simp [XS.f]) <;> omega) rfl rfl, C, q, by omega⟩
 refine zD (zA hN rfl) (zB (t _ _ (wp_cond_false (zA hN rfl) (wp_skip (b _ _ (zF fun _ b => zH (zG (zC hN rfl c) ?_)))))))
 have hbl' := hbl.keepG hb c_hbl
 refine zj ok20 (Data_ret z zx hbl') ⟨(zA hN rfl), trivial⟩ ?_
 rintro _ A ⟨o, z, rfl, c, t, q, D, C⟩
 have := o.size
 have g := g.keepG o y
 have hb := hb.stepF o (fun _ _ h => h)
 refine zZ size37 (zA hN rfl) (zA hN rfl) rfl (by simp only [yA, yB, yC, yD, c.ff.1.one, c.ff.2.1.one, c.ff.2.2.1.1.one, c.ff.2.2.2.1.one, c.ff.2.2.2.2.1.1.one, c.ff.2.2.2.2.2.1.1.one, c.ff.2.2.2.2.2.2.1.one, c.nvr.one]; try rfl) g rfl ?_
 intro A g o
 have := o.size
 have q := q.keepG (Gr.of o) (Dj.one y)
 have c := c.keep o sO
 have hb := hb.step1 o zx
 refine zB (b _ _ (wp_ret (retC rfl hd (zA hN rfl) agg37 rfl g ⟨_, rfl, ?_⟩)))
 exact ⟨hb, z, rfl, c.mono zx zx, t, q, by omega⟩

theorem SchemaAdds_ret {LL : List (Value × List UInt8)} {vL ow : Value} {o : Lb} {w : World} (hrL : RdC w 0 w.heap.size 1 vL LL.length (LL.flatMap (fun x9 => [x9.1]))) (hLs : LsRd w w.heap.size LL) (hoz : o.length ≤ 9223372036854775807) (ho : RdC w 0 w.heap.size 1 ow o.length (o.map u16v)) : Ret Tryz.prog 3 #[vL, ow] w (fun v' w' => Below w.heap.size w w' ∧ v' = .bool true) := by
 have hb := Below.refl w.heap.size w
 refine enter (N := 77) Tryz.func3 rfl rfl (by simp) fun c hN hd hA => ?_
 have e : c.tmps.getD 0 undef = vL := hA 0 (by simp)
 have g : c.tmps.getD 1 undef = ow := hA 1 (by simp)
 clear hA
 refine zF fun _ c => zH ?_
 refine zD rfl (zB (c _ _ (zF fun _ c => zF fun _ l => zH (zj ok4 (begun9_ret) trivial ?_))))
 rintro _ m ⟨p, rfl⟩
 have p := zQ p
 obtain ⟨hb, _⟩ := yE hb p
 refine op_not (zA hN rfl) (zB (l _ _ (wp_cond_false (zA hN rfl) (wp_skip (c _ _ (zF fun _ c => zF fun _ l => zH (zG (zC hN rfl e) ?_)))))))
 have hrL' := hrL.keep0 (zQ hb)
 refine op_len_rd Tryz.underlying22 (zA hN rfl) hrL' (op_gtr (zA hN rfl) rfl (fun p => ?_) (fun p => ?_))
 ·
  refine zG (zA hN rfl) (zR (j := 3) (dj := 19) (b := false) rfl rfl rfl (zA hN rfl) rfl rfl ?_)
  refine zR (j := 3) (dj := 19) (b := false) rfl rfl rfl (zA hN rfl) rfl rfl (zR (j := 3) (dj := 19) (b := false) rfl rfl rfl (zA hN rfl) rfl rfl (zc (zA hN rfl) rfl (zB (l _ _ (wp_cond_true (zA hN rfl) (zF fun _ l => zH (zD rfl (zB (l _ _ (wp_ret (zO ( (ret1 rfl hd (zA hN rfl) ⟨_, rfl, ?_⟩)))))))))))))
  exact ⟨hb, rfl⟩
 refine zG (zA hN rfl) (zS (j := 3) (dj := 19) (b := false) rfl rfl rfl (zA hN rfl) (zG (zC hN rfl g) (zS (j := 3) (dj := 19) (b := false) rfl rfl rfl (zA hN rfl) ?_)))
 have ho' := ho.keep0 (zQ hb)
 refine zj ok5 (refMay_ret o _ _ (by first | assumption | omega | (simp only [List.length_append, List.length_cons, List.length_nil, List.length_drop, List.length_take]; omega) | (dsimp only; omega) | decide | (simp [keyV, be8_len]; done)) (show RdC m 0 m.heap.size 1 ow o.length (o.map u16v) from by have hh : RdC m 0 m.heap.size 1 _ _ _ := (ho'.mono (L' := 0) (B' := m.heap.size) (Nat.zero_le _) zx); first | exact hh | exact hh.cast (by first | omega | (simp; try omega)) (by first | rfl | simp [u16v]))) ⟨(zA hN rfl), trivial⟩ ?_
 rintro _ q ⟨p, rfl⟩
 have p := zQ p
 obtain ⟨hb, _⟩ := yE hb p
 rcases Bool.eq_false_or_eq_true ((mayL o)) with p | p
 ·
  rw [p]
  refine zS (j := 3) (dj := 19) (b := false) rfl rfl rfl (zA hN rfl) (op_not (zA hN rfl) (zd (zA hN rfl) (zA hN rfl) (zB (l _ _ (wp_cond_false (zA hN rfl) (wp_skip (c _ _ (zF fun _ c => zH (op_alloc (cs := [(.slice none 0 0), (.slice none 0 0)]) zero30 rfl ?_)))))))))
  intro y r u z q t
  obtain ⟨hb, _⟩ := yE hb t
  refine op_alloc (cs := [(.slice none 0 0), (.slice none 0 0)]) zero30 rfl ?_
  intro t y A B z u
  obtain ⟨hb, _⟩ := yE hb u
  have q := q.keep0 u
  refine zB (c _ _ (zF fun _ c => zF fun _ l => zH (zD rfl (zB (l _ _ (wp_block ?_))))))
  have u := q.lt
  have u := z.lt
  refine loop_m (fun mz_ az_ w' => ∃ (i : Nat) (tv vv : Value) (D : List DTab) (V : List DVw) (Bs : Nat) (tu vu : Value) (D2 : List DTab) (u : List DVw) (Br : Nat), mz_ = LL.length - i ∧ (Sl az_ 0 vL) ∧ (Sl az_ 1 ow) ∧ (Sl az_ 5 (ptr r 0)) ∧ (Sl az_ 6 (ptr y 0)) ∧ (Sl az_ 7 (.int .i64 ((i : Nat) : Int))) ∧ (i ≤ LL.length) ∧ (InvT (D.map DTab.t) i) ∧ (NcT (D.map DTab.t)) ∧ (V.length ≤ 8) ∧ (D.map DTab.t = D2.map DTab.t) ∧ (VsSame V u) ∧ (t.heap.size ≤ Bs ∧ Bs ≤ w'.heap.size ∧ t.heap.size ≤ Br ∧ Br ≤ w'.heap.size) ∧ (Below w.heap.size w w') ∧ (t.heap.size ≤ w'.heap.size) ∧ (Bx w' r 30 [tv, vv]) ∧ (Bx w' y 30 [tu, vu]) ∧ (TsFr w' t.heap.size Bs tv D) ∧ (RdC w' t.heap.size Bs 3 tv D.length (D.flatMap cellsT)) ∧ (VsFr w' t.heap.size Bs vv V) ∧ (RdC w' t.heap.size Bs 15 vv V.length (V.flatMap cellsW)) ∧ (TsFr w' t.heap.size Br tu D2) ∧ (RdC w' t.heap.size Br 3 tu D2.length (D2.flatMap cellsT)) ∧ (VsFr w' t.heap.size Br vu u) ∧ (RdC w' t.heap.size Br 15 vu u.length (u.flatMap cellsW))) _ hN hd ⟨0, (.slice none 0 0), (.slice none 0 0), [], [], t.heap.size, (.slice none 0 0), (.slice none 0 0), [], [], t.heap.size, rfl, (zL hN rfl e), (zL hN rfl g), (zU hN rfl), (zU hN rfl), (zU hN rfl), (Nat.zero_le _), (InvT.nil _), (fun _ h => (by cases h)), (Nat.zero_le _), rfl, (VsSame.refl _), ⟨Nat.le_refl _, Nat.le_refl _, Nat.le_refl _, Nat.le_refl _⟩, hb, (Nat.le_refl _), q, z, ⟨RdC.nil _ _ _ _, fun _ h => (by cases h)⟩, (RdC.nil _ _ _ _), (VsFr.nil _ _ _), (RdC.nil _ _ _ _), ⟨RdC.nil _ _ _ _, fun _ h => (by cases h)⟩, (RdC.nil _ _ _ _), (VsFr.nil _ _ _), (RdC.nil _ _ _ _)⟩ ?_
  rintro _ J I e A ⟨i, tv, vv, D, V, Bs, tu, vu, D2, u, Br, rfl, z, B, r, C, y, hi, hIn, hNc, F, hMr, hVQ, hBl, hb, H, g, q, hTl, hRl, hVl, hVRl, hTr, hRr, hVr, hVRr⟩
  have := hb.size
  refine zF fun _ l => zF fun _ H => zH ?_
  have hol : o.length ≤ 100 := by have h9 := mayL_len p; omega
  refine zG (zC e rfl y) (zG (zC e rfl z) ?_)
  have hrL' := hrL.keep0 (zQ hb)
  refine op_len_rd Tryz.underlying22 (zA e rfl) hrL' (op_lss (zA e rfl) (zA e rfl) (fun I => ?_) (fun I => ?_))
  ·
   refine zB (H _ _ (wp_cond_true (zA e rfl) (wp_skip (l _ _ (zF fun _ l => wp_block (zF fun _ H => zF fun _ I => zH ?_))))))
   have hLs' := hLs.keep0 (zQ hb)
   have hbl := lsrd_at hLs' (show i < LL.length by omega)
   refine zG (zC e rfl z) (zG (zC e rfl y) (zh slt22 (zA e rfl) hrL' (zA e rfl) zx zx ?_))
   intro P K M O J
   refine zN (v := (LL.getD i default).1) one31 (zA e rfl) (by have := J 0 (LL.getD i default).1 zz (el_lb (i := i) zx zx); simpa using this) (op_len_rd Tryz.underlying31 (zA e rfl) hbl (op_gtr (zA e rfl) rfl (fun K => ?_) (fun K => ?_)))
   ·
    refine zB (I _ _ (wp_cond_true (zA e rfl) (zF fun _ I => zH (zD rfl (zB (I _ _ (wp_ret (zO (zb (zO (zO (zb (zO ( (ret1 rfl A (zA e rfl) ⟨_, rfl, ?_⟩)))))))))))))))
    exact ⟨hb, rfl⟩
   refine zB (I _ _ (wp_cond_false (zA e rfl) (wp_skip (H _ _ (zF fun _ H => zH (zG (zC e rfl z) (zG (zC e rfl y) (zh slt22 (zA e rfl) hrL' (zA e rfl) zx zx ?_))))))))
   intro O P M K J
   refine zN (v := (LL.getD i default).1) one31 (zA e rfl) (by have := J 0 (LL.getD i default).1 zz (el_lb (i := i) zx zx); simpa using this) (zj ok6 (Made_ret (B0 := w.heap.size) zx (hbl.mono (Nat.zero_le _) zx) zx) ⟨(zA e rfl), trivial⟩ ?_)
   rintro _ O ⟨J, K, rfl, P, M⟩
   have J := zQ J
   obtain ⟨hb, _⟩ := yE hb J
   have g := g.keep0 J
   have q := q.keep0 J
   have hbl := hbl.keep0 J
   have O := (M.lt K rfl).2
   refine zj ok7 (Stmt_ret M zx hbl) ⟨(zA e rfl), trivial⟩ ?_
   rintro _ T ⟨P, Q, rfl, O, S, R, U⟩
   have S := M
   have := P.size
   have g := g.keepG P (S.notBx g zz)
   have q := q.keepG P (S.notBx q zz)
   have hb := below_stepG hb P hb.size (fun k hk => (S.lt k hk).1)
   refine op_alloc (cs := [(.int .i64 0), (.string (bs [])), (.string (bs [])), (.slice none 0 0), (.slice none 0 0), (.slice none 0 0), (.slice none 0 0), (.string (bs [])), (.slice none 0 0), (.slice none 0 0), (.slice none 0 0), (.bool false), (.slice none 0 0)]) zero37 rfl ?_
   intro X T W U M S
   have U : ¬ (fun k => k = K) T := fun hf => by have := (R.lt _ hf).2; omega
   obtain ⟨hb, _⟩ := yE hb S
   have g := g.keep0 S
   have q := q.keep0 S
   have O := O.keep0 S
   have R := M
   refine zZ size37 (zA e rfl) (zA e rfl) rfl (by simp only [yA, yB, yC, yD, O.ff.1.one, O.ff.2.1.one, O.ff.2.2.1.1.one, O.ff.2.2.2.1.one, O.ff.2.2.2.2.1.1.one, O.ff.2.2.2.2.2.1.1.one, O.ff.2.2.2.2.2.2.1.one, O.nvr.one]; try rfl) M rfl ?_
   intro U M T
   have := T.size
   have g := g.keep T (sN g R)
   have q := q.keep T (sN q R)
   have hTl := (((hTl.keep0 J).keepG P (fun k hk => by have h9 : k = K := hk; omega)).keep0 S).keep T sO
   have hVl := (((hVl.keep0 J).keepG P (fun k hk => by have h9 : k = K := hk; omega)).keep0 S).keep T sO
   have hb := below_step1 hb T hb.size zx
   refine zB (H _ _ (zF fun _ H => zH ?_))
   have hDz := SzT.d (InvT.sz hIn zx)
   have R := SzT.d (by rw [← hMr]; exact InvT.sz hIn zx : SzT (D2.map DTab.t))
   have W : D.length ≤ 8 := by have h9 := hIn.1; rwa [List.length_map] at h9
   have W : D2.length ≤ 8 := by have h9 := congrArg List.length hMr; rw [List.length_map, List.length_map] at h9; omega
   have hNm := vs_names hVQ
   refine zY agg30 rfl (zC e rfl r) g (zj ok8 (Copy9_ret (D := D) (V := V) (hTl.rd.mono zx) hDz.1 hDz.2 (hVl.mono (Nat.zero_le _) zx) (Nat.le_refl _)) ⟨(zA e rfl), trivial⟩ ?_)
   rintro _ ad ⟨X, ag, af, ab, aa, rfl, Y, W, ac, Z, ae⟩
   have ae : ∀ x, aa x → U.heap.size ≤ x := fun x hx => (W.lt x hx).1
   have X := zQ X
   obtain ⟨hb, _⟩ := yE hb X
   have Y := Y.mono (base' := w.heap.size) zx
   have Z := Z.mono (base' := w.heap.size) zx
   have W : TabsR ad w.heap.size ab aa := W.mono zx
   refine op_alloc (cs := [(.slice none 0 0), (.slice none 0 0)]) zero30 rfl ?_
   intro af ad ae ag ab U
   have ae : ¬ aa ad := fun hf => by have := (W.lt _ hf).2; omega
   obtain ⟨hb, _⟩ := yE hb U
   have M := (M.keep0 X).keep0 U
   have Y := Y.keep0 U
   have Z := Z.keep0 U
   have ad := ab
   refine zZ size30 (zA e rfl) (zA e rfl) rfl (by simp only [yA, yB, yC, yD, Y.one, Z.one]; try rfl) ab rfl ?_
   intro ag ab af
   have := af.size
   have g := ((g.keep0 X).keep0 U).keep af sB
   have hTl := ((hTl.keep0 X).keep0 U).keep af sO
   have hVl := ((hVl.keep0 X).keep0 U).keep af sO
   have O := (((O.keep T sO).keep0 X).keep0 U).keep af sO
   have M := M.keep af (sN M ad)
   have W := (W.kz U).keepG (Gr.of af) (Dj.one ae)
   have hb := below_step1 hb af hb.size zx
   refine zB (H _ _ (zF fun _ H => zH (zY agg30 rfl (zC e rfl r) g (zY agg37 rfl (zA e rfl) M (zG (zC e rfl B) ?_)))))
   have ho' := ho.keep0 (zQ hb)
   refine zj ok9 (Add_ret (D := D) (V := V) (o := o) (s := Q) (hTl.rd.mono zx) hDz.1 hDz.2 (hVl.mono (Nat.zero_le _) zx) (O.mono (Nat.zero_le _) zx) zx (ho'.mono (Nat.le_refl _) zx)) ⟨(zA e rfl), ⟨(zA e rfl), ⟨(zA e rfl), trivial⟩⟩⟩ ?_
   rintro _ an ⟨ag, ai, aj, al, ao, rfl, ah, ae, ak, am⟩
   have ap := ah.1
   have aq := ae.1
   have ag := zQ ag
   obtain ⟨hb, _⟩ := yE hb ag
   have W := W.kz ag
   refine zG (zA e rfl) (zW (zA e rfl) rfl (zW (zA e rfl) rfl (op_alloc (cs := [(.slice none 0 0), (.slice none 0 0)]) zero30 rfl ?_)))
   intro ax au aw ay aq ar
   have aw : ¬ aa au := fun hf => by have := (W.lt _ hf).2; omega
   obtain ⟨hb, _⟩ := yE hb ar
   have M := (M.keep0 ag).keep0 ar
   have ap := ap.keep0 ar
   have ae := ae.keep0 ar
   have ax := aq
   refine zZ size30 (zA e rfl) (zA e rfl) rfl (by simp only [yA, yB, yC, yD, ap.one, ae.rdc.one]; try rfl) aq rfl ?_
   intro az aq ay
   have := ay.size
   have q := (((((q.keep0 X).keep0 U).keep af sB).keep0 ag).keep0 ar).keep ay sB
   have hTr := (((((((((hTr.keep0 J).keepG P (fun k hk => by have h9 : k = K := hk; omega)).keep0 S).keep T sO).keep0 X).keep0 U).keep af sO).keep0 ag).keep0 ar).keep ay sO
   have hVr := (((((((((hVr.keep0 J).keepG P (fun k hk => by have h9 : k = K := hk; omega)).keep0 S).keep T sO).keep0 X).keep0 U).keep af sO).keep0 ag).keep0 ar).keep ay sO
   have O := ((O.keep0 ag).keep0 ar).keep ay sO
   have M := M.keep ay (sN M ax)
   have W := (W.kz ar).keepG (Gr.of ay) (Dj.one aw)
   have hb := below_step1 hb ay hb.size zx
   refine zD (zA e rfl) (zB (H _ _ (zF fun _ H => zH (zY agg30 rfl (zC e rfl C) q (zY agg37 rfl (zA e rfl) M (zG (zC e rfl B) ?_))))))
   have ho' := ho.keep0 (zQ hb)
   refine zj ok10 (Add9_ret (D := D2) (V := u) (o := o) (s := Q) (L := t.heap.size) (hTr.rd.mono zx) R.1 R.2 (hVr.mono (Nat.le_refl _) zx) (O.mono zx zx) zx hol (ho'.mono (Nat.le_refl _) zx) (by rw [← hMr]; exact hNc) (by rw [← hMr]; exact hIn.2.2.1)) ⟨(zA e rfl), ⟨(zA e rfl), ⟨(zA e rfl), trivial⟩⟩⟩ ?_
   rintro _ S ⟨t, O, M, R, T, rfl, K, J, P, Q⟩
   have U := K.1
   have X := J.1
   have t := zQ t
   obtain ⟨hb, _⟩ := yE hb t
   have W := W.kz t
   refine zG (zA e rfl) (zW (zA e rfl) rfl (zW (zA e rfl) rfl (op_alloc (cs := [(.slice none 0 0), (.slice none 0 0)]) zero30 rfl ?_)))
   intro aB az aD aC aw X
   have aB : ¬ aa az := fun hf => by have := (W.lt _ hf).2; omega
   obtain ⟨hb, _⟩ := yE hb X
   have U := U.keep0 X
   have J := J.keep0 X
   have aa := aw
   refine zZ size30 (zA e rfl) (zA e rfl) rfl (by simp only [yA, yB, yC, yD, U.one, J.rdc.one]; try rfl) aw rfl ?_
   intro aD aw aC
   have := aC.size
   have W := (W.kz X).keepG (Gr.of aC) (Dj.one aB)
   have ah := ((((ah.keep0 ar).keep ay sO).keep0 t).keep0 X).keep aC sO
   have ae := (((ae.keep ay sO).keep0 t).keep0 X).keep aC sO
   have aq := ((aq.keep0 t).keep0 X).keep aC sB
   have K := (K.keep0 X).keep aC sO
   have J := J.keep aC sO
   have hb := below_step1 hb aC hb.size zx
   refine zD (zA e rfl) (zB (H _ _ (zF fun _ H => zF fun _ I => zH (zG (zA e rfl) (zG (zA e rfl) (op_cmp (b := false) (zA e rfl) (zA e rfl) (b_neq (decide_eq_false (fun h => h (by rw [hMr, hNm])))) (zG (zA e rfl) ?_)))))))
   have hXY := adds_same hMr hVQ ak am P Q
   refine zS (j := 3) (dj := 61) (b := false) rfl rfl rfl (zA e rfl) (zY agg30 rfl (zA e rfl) aq (zS (j := 3) (dj := 61) (b := false) rfl rfl rfl (zA e rfl) (zY agg30 rfl (zA e rfl) aw (zS (j := 3) (dj := 61) (b := false) rfl rfl rfl (zA e rfl) (zj ok11 (SameSchema_ret (ah.rd.mono zx) (K.rd.mono zx) hXY.1 (szl hXY.1 P Q zx) (ae.mono (Nat.zero_le _) zx) (J.mono (Nat.zero_le _) zx) hXY.2) ⟨(zA e rfl), ⟨(zA e rfl), trivial⟩⟩ ?_)))))
   rintro _ Q ⟨P, rfl⟩
   have P := zQ P
   obtain ⟨hb, _⟩ := yE hb P
   have g := ((((((g.keep0 ag).keep0 ar).keep ay sB).keep0 t).keep0 X).keep aC sB).keep0 P
   have hTl := ((((((hTl.keep0 ag).keep0 ar).keep ay sO).keep0 t).keep0 X).keep aC sO).keep0 P
   have hVl := ((((((hVl.keep0 ag).keep0 ar).keep ay sO).keep0 t).keep0 X).keep aC sO).keep0 P
   have Y := (((((((Y.keepX ad af zz).keep0 ag).keep0 ar).keepX ax ay zz).keep0 t).keep0 X).keepX aa aC zz).keep0 P
   have W := W.kz P
   have Z := (((((((Z.keepX ad af zz).keep0 ag).keep0 ar).keepX ax ay zz).keep0 t).keep0 X).keepX aa aC zz).keep0 P
   have ab := ((((((ab.keep0 ag).keep0 ar).keep ay sB).keep0 t).keep0 X).keep aC sB).keep0 P
   refine zS (j := 3) (dj := 61) (b := false) rfl rfl rfl (zA e rfl) (op_not (zA e rfl) (zd (zA e rfl) (zA e rfl) (zG (zA e rfl) ?_)))
   refine zS (j := 9) (dj := 67) (b := false) rfl rfl rfl (zA e rfl) (zY agg30 rfl (zC e rfl r) g (zS (j := 9) (dj := 67) (b := false) rfl rfl rfl (zA e rfl) (zY agg30 rfl (zA e rfl) ab (zS (j := 9) (dj := 67) (b := false) rfl rfl rfl (zA e rfl) (zj ok11 (SameSchema_ret (hTl.rd.mono zx) (W.rd Y) ac.symm hDz.1 (hVl.mono (Nat.zero_le _) zx) ⟨Z.rdw.mono (Nat.zero_le _) (Nat.le_refl _), fun a ha => (hVl.2 a ha).mono (Nat.zero_le _) zx, hVl.3⟩ (VsSame.refl _)) ⟨(zA e rfl), ⟨(zA e rfl), trivial⟩⟩ ?_)))))
   rintro _ W ⟨Q, rfl⟩
   have Q := zQ Q
   obtain ⟨hb, _⟩ := yE hb Q
   have g := g.keep0 Q
   have q := ((((q.keep0 t).keep0 X).keep aC sB).keep0 P).keep0 Q
   have hTl := hTl.keep0 Q
   have hVl := hVl.keep0 Q
   have hTr := ((((hTr.keep0 t).keep0 X).keep aC sO).keep0 P).keep0 Q
   have hVr := ((((hVr.keep0 t).keep0 X).keep aC sO).keep0 P).keep0 Q
   have ah := (ah.keep0 P).keep0 Q
   have ap := (((((ap.keep ay sO).keep0 t).keep0 X).keep aC sO).keep0 P).keep0 Q
   have ae := (ae.keep0 P).keep0 Q
   have aq := (aq.keep0 P).keep0 Q
   have K := (K.keep0 P).keep0 Q
   have U := ((U.keep aC sO).keep0 P).keep0 Q
   have J := (J.keep0 P).keep0 Q
   have aw := (aw.keep0 P).keep0 Q
   refine zS (j := 9) (dj := 67) (b := false) rfl rfl rfl (zA e rfl) (op_not (zA e rfl) (zd (zA e rfl) (zA e rfl) (zB (I _ _ (wp_cond_false (zA e rfl) (wp_skip (H _ _ (zF fun _ H => zH (zG (zA e rfl) (op_eql (zA e rfl) rfl (fun t => ?_) (fun t => ?_)))))))))))
   ·
    refine zB (H _ _ (wp_cond_true (zA e rfl) ?_))
    obtain ⟨I, P, Q, hDE, _, _⟩ := grow_D hIn F t ak
    have Q : NcT (al.map DTab.t) := by rw [(ak t).1]; exact nc_step hNc t
    refine reg_tree (φ := phiV [(fun uz => uz = (.agg #[ai, aj])), (fun uz => uz = (.agg #[O, M])), (fun _ => True), (fun _ => True)]) (G := fun w' => Bx w' au 30 [ai, aj] ∧ Bx w' az 30 [O, M]) [2, 3] mixed zy zy zy zy zy e (fun m X E h => by obtain ⟨t, W⟩ := h; exact ⟨t.keep0 E, W.keep0 E⟩) ⟨aq, aw⟩ (ObRs9.cons ?_ (ObRs9.cons ?_ (ObRs9.pass rfl (ObRs9.pass rfl (ObRs9.nil))))) (by simp only [putsL_defers]) ?_
    ·
     intro eA aA wA hNA hGA hbsA hdpA
     have m := (hbsA 10 rfl).trans (zU e rfl)
     obtain ⟨aq, aw⟩ := hGA
     refine zY agg30 rfl (zC hNA rfl m) aq ?_
     exact obT_end rfl rfl
    ·
     intro eA aA wA hNA hGA hbsA hdpA
     have m := (hbsA 12 rfl).trans (zU e rfl)
     obtain ⟨aq, aw⟩ := hGA
     refine zY agg30 rfl (zC hNA rfl m) aw ?_
     exact obT_end rfl rfl
    refine kt_step (rs := [2]) zy (one_mem ?_)
    intro Z m _ X t W Y o_ ho_; obtain rfl := zE ho_
    obtain ⟨hb, _⟩ := yE hb m
    have g := g.keep0 m
    have ap := ap.keep0 m
    have ae := ae.keep0 m
    have Z := (W 5 rfl).trans (zL e rfl r)
    have W : Sl X 75 (.agg #[ai, aj]) := (Y 0 _ 75 zy rfl rfl).2 rfl
    refine zZ size30 (zC t rfl Z) (zC t rfl W) rfl (by simp only [yA, yB, yC, yD, ap.one, ae.rdc.one]; try rfl) g rfl ?_
    intro W g t
    have := t.size
    have aq := (aq.keep0 m).keep t sB
    have aw := (aw.keep0 m).keep t sB
    have hb := below_step1 hb t hb.size zx
    refine kt_end0 rfl ⟨aq, aw⟩ (kt_step (rs := [3]) zy (one_mem ?_))
    intro ab W _ Y X Z aa o_ ho_; obtain rfl := zE ho_
    obtain ⟨hb, _⟩ := yE hb W
    have q := ((q.keep0 m).keep t sB).keep0 W
    have U := ((U.keep0 m).keep t sO).keep0 W
    have J := ((J.keep0 m).keep t sO).keep0 W
    have ab := (Z 6 rfl).trans (zL e rfl C)
    have Z : Sl Y 76 (.agg #[O, M]) := (aa 1 _ 76 zy rfl rfl).2 rfl
    refine zZ size30 (zC X rfl ab) (zC X rfl Z) rfl (by simp only [yA, yB, yC, yD, U.one, J.rdc.one]; try rfl) q rfl ?_
    intro X q U
    have := U.size
    have aq := (aq.keep0 W).keep U sB
    have aw := (aw.keep0 W).keep U sB
    have hb := below_step1 hb U hb.size zx
    refine kt_end0 rfl ⟨aq, aw⟩ ?_
    intro ab Y ac X aa Z ad
    have aa := aa.trans ((by simp only [putsL_defers] : _ = _).trans A)
    obtain ⟨hb, _⟩ := yE hb Y
    have ah := ((((ah.keep0 m).keep t sO).keep0 W).keep U sO).keep0 Y
    have ae := (((ae.keep t sO).keep0 W).keep U sO).keep0 Y
    have K := ((((K.keep0 m).keep t sO).keep0 W).keep U sO).keep0 Y
    have J := (J.keep U sO).keep0 Y
    have g := ((g.keep0 W).keep U sB).keep0 Y
    have q := q.keep0 Y
    have m := (Z 0 rfl).trans (zL e rfl z)
    have t := (Z 1 rfl).trans (zL e rfl B)
    have U := (Z 5 rfl).trans (zL e rfl r)
    have W := (Z 6 rfl).trans (zL e rfl C)
    have Y := (Z 7 rfl).trans (zL e rfl y)
    refine l _ _ (zH (zG (zC X rfl Y) (op_add (zA X rfl) rfl (add64 zx) (zD (zA X rfl) (zB ?_)))))
    -- round 18F 21T 27T 35F 74T
    exact zg _ X aa ⟨(i + 1), ai, aj, al, ao, an.heap.size, O, M, R, T, S.heap.size, rfl, (zL X rfl m), (zL X rfl t), (zL X rfl U), (zL X rfl W), (zU X rfl).trans (congrArg (Value.int .i64) zx), zx, I, Q, P, hXY.1, hXY.2, zx, hb, zx, g, q, (ah.mono zx (Nat.le_refl _)), ((ah.mono zx (Nat.le_refl _)).1), (ae.mono zx (Nat.le_refl _)), ((ae.mono zx (Nat.le_refl _)).1), (K.mono zx (Nat.le_refl _)), ((K.mono zx (Nat.le_refl _)).1), (J.mono zx (Nat.le_refl _)), ((J.mono zx (Nat.le_refl _)).1)⟩ zx
   refine zB (H _ _ (wp_cond_false (zA e rfl) (wp_skip (l _ _ (zH (zG (zC e rfl y) (op_add (zA e rfl) rfl (add64 zx) (zD (zA e rfl) (zB ?_)))))))))
   -- round 18F 21T 27T 35F 74F
   exact zg _ e A ⟨(i + 1), tv, vv, D, V, Bs, tu, vu, D2, u, Br, rfl, (zL e rfl z), (zL e rfl B), (zL e rfl r), (zL e rfl C), (zU e rfl).trans (congrArg (Value.int .i64) zx), zx, (hIn.mono (Nat.le_succ _)), hNc, F, hMr, hVQ, zx, hb, zx, g, q, (hTl.mono zx (Nat.le_refl _)), ((hTl.mono zx (Nat.le_refl _)).1), (hVl.mono zx (Nat.le_refl _)), ((hVl.mono zx (Nat.le_refl _)).1), (hTr.mono zx (Nat.le_refl _)), ((hTr.mono zx (Nat.le_refl _)).1), (hVr.mono zx (Nat.le_refl _)), ((hVr.mono zx (Nat.le_refl _)).1)⟩ zx
  refine zB (H _ _ (wp_cond_false (zA e rfl) (wp_exit (then_exit (then_exit (blk_hit (c _ _ (zF fun _ c => zH (zD rfl (zB (c _ _ (wp_ret (ret1 rfl A (zA e rfl) ⟨_, rfl, ?_⟩)))))))))))))
  exact ⟨hb, rfl⟩
 rw [p]
 refine zS (j := 3) (dj := 19) (b := false) rfl rfl rfl (zA hN rfl) (op_not (zA hN rfl) (zd (zA hN rfl) (zA hN rfl) (zB (l _ _ (wp_cond_true (zA hN rfl) (zF fun _ l => zH (zD rfl (zB (l _ _ (wp_ret (zO ( (ret1 rfl hd (zA hN rfl) ⟨_, rfl, ?_⟩)))))))))))))
 exact ⟨hb, rfl⟩

end Go.Proofs.YthflnkfghogaoaaGreat

namespace Go.Gx
open Go.RowKit Go.WideShapes
section
variable {H : Type} {enc : TypeId × Value → H} {P : Program} {w : World} {base : Nat} {spare : Nat → Bool} {held : Bool} {t e : TypeId}
end
end Go.Gx

namespace Go.Proofs.YthflnkfghogaoaaGreat
open Go.Gx Go.RowKit
theorem rd_le {w : World} {L B sz n : Nat} {v : Value} {cs : List Value} (h : RdC w L B sz v n cs) : n ≤ 9223372036854775807 := by obtain ⟨_, _, _, _, hq, hm, _⟩ := h; exact Nat.le_trans hq hm
theorem cells5 : Tryz.prog.cellsOf 5 = 1 := by kernel_rfl
theorem flat_u8v (l : List UInt8) : l.flatMap (fun c => [u8v c]) = l.map u8v := by induction l with | nil => rfl | cons c l ih => simp [ih]
theorem dec31 {H : Type} {enc : TypeId × Value → H} {w : World} {base : Nat} {spare : Nat → Bool} {held : Bool} : Dec enc Tryz.prog w base spare held 31 (fun p : Value × List UInt8 => [p.1]) (fun p => RdC w 0 w.heap.size 1 p.1 p.2.length (p.2.map u8v)) :=
  (Dec.slice Tryz.underlying31 (by rw [cells5]; decide) (Dec.u8 Tryz.underlying5) (fun _ _ => by rw [cells5]; rfl)).map fun p hp => ⟨p, rfl, by have hq := hp.1; rwa [cells5, flat_u8v] at hq⟩
theorem cells31 : Tryz.prog.cellsOf 31 = 1 := by kernel_rfl
theorem dec22 {H : Type} {enc : TypeId × Value → H} {w : World} {base : Nat} {spare : Nat → Bool} {held : Bool} : Dec enc Tryz.prog w base spare held 22 (fun p : Value × List (Value × List UInt8) => [p.1]) (fun p => RdC w 0 w.heap.size 1 p.1 p.2.length (p.2.flatMap (fun (x9 : Value × List UInt8) => [x9.1])) ∧ ∀ x ∈ p.2, (RdC w 0 w.heap.size 1 x.1 x.2.length (x.2.map u8v))) :=
  (Dec.slice Tryz.underlying22 (by rw [cells31]; decide) dec31 (fun _ _ => by rw [cells31]; rfl)).map fun p hp => ⟨p, rfl, by have hq := hp.1; rw [cells31] at hq; exact hq, hp.2⟩
theorem cells56 : Tryz.prog.cellsOf 56 = 1 := by kernel_rfl
theorem flat_u16v (l : List UInt16) : l.flatMap (fun c => [u16v c]) = l.map u16v := by induction l with | nil => rfl | cons c l ih => simp [ih]
theorem dec24 {H : Type} {enc : TypeId × Value → H} {w : World} {base : Nat} {spare : Nat → Bool} {held : Bool} : Dec enc Tryz.prog w base spare held 24 (fun p : Value × List UInt16 => [p.1]) (fun p => RdC w 0 w.heap.size 1 p.1 p.2.length (p.2.map u16v)) :=
  (Dec.slice Tryz.underlying24 (by rw [cells56]; decide) (Dec.u16 Tryz.underlying56) (fun _ _ => by rw [cells56]; rfl)).map fun p hp => ⟨p, rfl, by have hq := hp.1; rwa [cells56, flat_u16v] at hq⟩
end Go.Proofs.YthflnkfghogaoaaGreat
