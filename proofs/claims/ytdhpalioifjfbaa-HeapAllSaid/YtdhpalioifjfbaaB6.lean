/- Small laws for walks, the forty-first part: as the thirty-third, where what light operations look at may end with one of the great ones. -/
import Derived.Lib.AppendZerosOnto
import Derived.Lib.Overlaps
import Derived.Laws.Externs
import Derived.Lib.Bytealg
import Derived.Lib.UnsafeStr
import Derived.Test.YtdhpalioifjfbaaProg
import Derived.KernelRfl
import Derived.Test.YtdhpalioifjfbaaB5
set_option linter.unusedVariables false
set_option linter.unusedSimpArgs false

namespace Go.Gx
open Go.RowKit
section
variable {P : Program} {ol : List Oper} {Q : Exit → Act → World → Prop} {bigs : List Nat} {φ : Nat → Value → Prop} {G : List Nat → World → Prop} {a0 : Act} {N : Nat}
def KIk (P : Program) (ol : List Oper) (bigs : List Nat) (φ : Nat → Value → Prop) (G : List Nat → World → Prop) (a0 : Act) (N : Nat) (e : List (Nat × Value)) (todo : List Nat) (i : Nat) (w : World) (K : Value → World → Prop) : Prop :=
  ∀ w1, w.grownBy w1 none → G todo w1 → ∀ a, a.tmps.size = N → (∀ t, safeB ol i t = true → a.tmps.getD t undef = a0.tmps.getD t undef) → (∀ j oj d, depB ol i j = true → ol[j]? = some oj → oj.dst = some d → PhT bigs φ e j (a.tmps.getD d undef)) →
    ∀ o, ol[i]? = some o → wpList P ol.toArray (fun ex a' w' => ex = .normal ∧ ∃ v, ((o.dst = none ∧ a' = a) ∨ ∃ d, o.dst = some d ∧ a' = putsL a [(d, v)]) ∧ K v w' ∧ G (todo.erase i) w') [o] (putsL a []) w1
def KTk (P : Program) (ol : List Oper) (bigs : List Nat) (φ : Nat → Value → Prop) (G : List Nat → World → Prop) (a0 : Act) (N : Nat) (Q : Exit → Act → World → Prop) : Nat → List Nat → List (Nat × Value) → World → Prop
  | 0, _, e, w => ∀ w1, w.grownBy w1 none → ∀ a', a'.tmps.size = N → a'.defers = a0.defers → (∀ t, (ol.all fun o => o.dst != some t) = true → a'.tmps.getD t undef = a0.tmps.getD t undef) →
      (∀ j oj d, ol[j]? = some oj → oj.dst = some d → PhT bigs φ e j (a'.tmps.getD d undef)) → Q .normal (putsL a' []) w1
  | n + 1, todo, e, w => ∀ i ∈ readyT ol todo, KIk P ol bigs φ G a0 N e todo i w fun v w' => KTk P ol bigs φ G a0 N Q n (todo.erase i) ((i, v) :: e) w'
theorem KTk.stable : ∀ {n : Nat} {todo : List Nat} {e : List (Nat × Value)} {w w2 : World}, KTk P ol bigs φ G a0 N Q n todo e w → w.grownBy w2 none → KTk P ol bigs φ G a0 N Q n todo e w2
  | 0, _, _, _, _, h, E => fun w1 E1 => h w1 (grown_trans E E1)
  | _ + 1, _, _, _, _, h, E => fun i hi w1 E1 => h i hi w1 (grown_trans E E1)
def ObQ9 (P : Program) (ol : List Oper) (bigs : List Nat) (φ : Nat → Value → Prop) (G : List Nat → World → Prop) (a0 : Act) (N : Nat) (i : Nat) (o : Oper) : Prop :=
  ∀ (e : List (Nat × Value)) (todo : List Nat) (a : Act) (w : World), a.tmps.size = N → (∀ j, bigs.contains j = true → depB ol j i = true → j ∈ todo) → G todo w → (∀ t, safeB ol i t = true → a.tmps.getD t undef = a0.tmps.getD t undef) → (∀ j oj d, depB ol i j = true → ol[j]? = some oj → oj.dst = some d → PhT bigs φ e j (a.tmps.getD d undef)) →
    wpList P ol.toArray (fun ex a' w' => ex = .normal ∧ (∃ d v, o.dst = some d ∧ a' = putsL a [(d, v)] ∧ φ i v) ∧ w.grownBy w' none) [o] (putsL a []) w
def ObRk9 (P : Program) (ol : List Oper) (bigs : List Nat) (φ : Nat → Value → Prop) (G : List Nat → World → Prop) (a0 : Act) (N : Nat) : Nat → List Oper → Prop
  | _, [] => True
  | i, o :: r => (bigs.contains i = false → ObQ9 P ol bigs φ G a0 N i o) ∧ ObRk9 P ol bigs φ G a0 N (i + 1) r
theorem ObRk9.nil {i : Nat} : ObRk9 P ol bigs φ G a0 N i [] := trivial
theorem ObRk9.cons {i : Nat} {o : Oper} {r : List Oper} (h : ObQ9 P ol bigs φ G a0 N i o) (h' : ObRk9 P ol bigs φ G a0 N (i + 1) r) : ObRk9 P ol bigs φ G a0 N i (o :: r) := ⟨fun _ => h, h'⟩
theorem ObRk9.pass {i : Nat} {o : Oper} {r : List Oper} (hh : bigs.contains i = true) (h' : ObRk9 P ol bigs φ G a0 N (i + 1) r) : ObRk9 P ol bigs φ G a0 N i (o :: r) := ⟨fun h => absurd (hh.symm.trans h) (by decide), h'⟩
theorem ObRk9.getx : ∀ {l : List Oper} {i : Nat}, ObRk9 P ol bigs φ G a0 N i l → ∀ j o, l[j]? = some o → bigs.contains (i + j) = false → ObQ9 P ol bigs φ G a0 N (i + j) o
  | [], _, _, j, o, h, _ => by simp at h
  | o' :: r, i, h, 0, o, hj, hs => by simp at hj; subst hj; exact h.1 hs
  | o' :: r, i, h, j + 1, o, hj, hs => by
    have := ObRk9.getx h.2 j o (by simpa using hj) (by rwa [show i + 1 + j = i + (j + 1) by omega])
    rwa [show i + 1 + j = i + (j + 1) by omega] at this
end
end Go.Gx

namespace Go.Gx
open Go.RowKit
section
variable {P : Program} {Q : Exit → Act → World → Prop} {a : Act} {w w' : World} {l : List (Nat × Value)} {ops : Array Oper} {rest : List Oper}
variable {d ty t e xt yt : Nat} {p : String} {af : Array Edge} {x y : Operand} {v : Value} {k : IntKind} {n base sz by_ b off : Nat} {cs ws : List Value} {zv : Value} {r : Int}
def CapIs (v : Value) (c : Nat) : Prop := v = .slice none 0 0 ∧ c = 0 ∨ ∃ g n, v = .slice (some g) n c
def cutS (sz : Nat) (v : Value) (k : Nat) : Value := match v with | .slice ad n c => .slice (if c = k then ad else ad.map (·.add (k * sz))) (n - k) (c - k) | x => x
theorem op_slice_cutS {w9 : World} {lo : Operand} {k : Nat} {kk : IntKind} (T : SlT P t e zv sz by_) (hx : (putsL a l).eval x = v) (O : Own w9 base e sz v n cs) (hl : (putsL a l).eval lo = .int kk r) (hr : r = (k : Int)) (hk : k ≤ n) (h : wpList P ops Q rest (putsL a ((d, cutS sz v k) :: l)) w) :
    wpList P ops Q (⟨some d, .slice t x (some lo) none none, ty, p, af, none⟩ :: rest) (putsL a l) w := by
  obtain ⟨inf, hi, hz0, hz1, hz2⟩ := info_parts T.info
  subst hr
  have R := O.rdw
  obtain ⟨hl0, ad, c, rfl, hnc, hcm, _⟩ := R
  have e1 : ¬ ((n : Int) < (k : Int)) := by omega
  have e2 : ¬ ((c : Int) < (n : Int)) := by omega
  have e3 : ¬ n < k := by omega
  have e4 : ¬ c < n := by omega
  refine op_gen (v := .slice (if c = k then ad else ad.map (·.add (k * sz))) (n - k) (c - k)) rfl ?_ h
  by_cases hck : c = k
  · subst hck
    have : n = c := by omega
    subst this
    simp [execOp, hx, hl, Instr.sliceAt, Instr.slice, run_underlying T.und, Instr.sliceBounds, Instr.sliceBound, asIntOf, sizeOf, typeInfo, hi, hz1]
  · simp [execOp, hx, hl, Instr.sliceAt, Instr.slice, run_underlying T.und, Instr.sliceBounds, Instr.sliceBound, asIntOf, sizeOf, typeInfo, hi, hz1, hk, hnc, hck]
theorem op_slice_hiC {hi : Operand} {m c : Nat} {kk : IntKind} (T : SlT P t e zv sz by_) (hx : (putsL a l).eval x = v) (hc : CapIs v c) (hh : (putsL a l).eval hi = .int kk r) (hr : r = (m : Int)) (hm : m ≤ c) (h : wpList P ops Q rest (putsL a ((d, hiV v m) :: l)) w) :
    wpList P ops Q (⟨some d, .slice t x none (some hi) none, ty, p, af, none⟩ :: rest) (putsL a l) w := by
  obtain ⟨inf, hin, hz0, hz1, hz2⟩ := info_parts T.info
  subst hr
  rcases hc with ⟨rfl, rfl⟩ | ⟨g, n0, rfl⟩
  · have h0 : m = 0 := by omega
    subst h0
    refine op_gen (v := .slice none 0 0) rfl ?_ h
    simp [execOp, hx, hh, Instr.sliceAt, Instr.slice, run_underlying T.und, Instr.sliceBounds, Instr.sliceBound, asIntOf, sizeOf, typeInfo, hin]
  · have hmc' : ¬ ((c : Int) < (m : Int)) := by omega
    have hg0 : g.add 0 = g := by cases g; simp [Addr.add]
    refine op_gen (v := .slice (some g) m c) rfl ?_ h
    simp [execOp, hx, hh, Instr.sliceAt, Instr.slice, run_underlying T.und, Instr.sliceBounds, Instr.sliceBound, asIntOf, sizeOf, typeInfo, hin, hm, hg0]
theorem Own.cap (O : Own w base e sz v n cs) : ∃ c, n ≤ c ∧ c ≤ 9223372036854775807 ∧ CapIs v c := by
  obtain ⟨c, h1, h2, h3⟩ := O.capOf
  exact ⟨c, h1, h2, h3⟩
theorem CapIs.hi {c m : Nat} (h : CapIs v c) (hm : v = .slice none 0 0 → m = 0) : CapIs (hiV v m) c := by
  rcases h with ⟨rfl, rfl⟩ | ⟨g, n0, rfl⟩
  · have := hm rfl; subst this; exact .inl ⟨rfl, rfl⟩
  · exact .inr ⟨g, m, rfl⟩
theorem Own.wide (O : Own w base e sz v n cs) {c m : Nat} (hc : CapIs v c) (hnm : n ≤ m) (hm : m ≤ c) : ∃ sp, Own w base e sz (hiV v m) m (cs ++ sp) := by
  obtain ⟨hl, ⟨rfl, rfl⟩ | ⟨g, off, cap, cur, fr, rfl, hb, hg, hf, hnc, hcm, hfit, htk⟩⟩ := O
  · rcases hc with ⟨_, rfl⟩ | ⟨g, n0, hv⟩
    · have : m = 0 := by omega
      subst this
      have : cs = [] := List.eq_nil_of_length_eq_zero (by simpa using hl)
      subst this
      exact ⟨[], Own.nil _ _ _ _⟩
    · cases hv
  · rcases hc with ⟨hv, _⟩ | ⟨g2, n0, hv⟩
    · cases hv
    · injection hv with e1 e2 e3
      subst e3
      have hmm : m * sz ≤ cap * sz := Nat.mul_le_mul_right _ hm
      have hnn : n * sz ≤ m * sz := Nat.mul_le_mul_right _ hnm
      have hdl : (cur.toList.drop off).length = cur.size - off := by simp
      refine ⟨((cur.toList.drop off).take (m * sz)).drop (n * sz), ?_⟩
      have key : cs ++ ((cur.toList.drop off).take (m * sz)).drop (n * sz) = (cur.toList.drop off).take (m * sz) := by
        conv => rhs; rw [← List.take_append_drop (n * sz) ((cur.toList.drop off).take (m * sz))]
        rw [List.take_take, Nat.min_eq_left hnn, htk]
      rw [key]
      exact ⟨by rw [List.length_take, hdl]; omega, .inr ⟨g, off, cap, cur, fr, rfl, hb, hg, hf, hm, hcm, hfit, rfl⟩⟩
end
end Go.Gx

namespace Go.Gx
open Go.RowKit
section
variable {P : Program} {Q : Exit → Act → World → Prop} {a : Act} {w w' : World} {l : List (Nat × Value)} {ops : Array Oper} {rest : List Oper}
variable {d ty t e tx xt yt : Nat} {p : String} {af : Array Edge} {x y : Operand} {v xv : Value} {k : IntKind} {n m i c base sz by_ b off : Nat} {cs ws news : List Value} {zv : Value} {r : Int}
theorem Bx.shape {cs : List Value} (h : Bx w b t cs) : w.shape? b = some (t, cs.length) := by
  have h' : w.heap[b]? = some (.cells cs.toArray t (0, 0)) := h
  simp [World.shape?, h']
end
end Go.Gx

namespace Go.Gx
open Go.RowKit
section
variable {w : World} {base e sz n k i : Nat} {v : Value} {cs xs sp zs : List Value}
theorem Own.cutO (O : Own w base e sz v n cs) (hk : k ≤ n) : Own w base e sz (cutS sz v k) (n - k) (cs.drop (k * sz)) := by
  obtain ⟨_, ad, c, rfl, _⟩ := O.rdw
  exact O.dropV hk
theorem Own.hiCut (O : Own w base e sz v n cs) (hk : k ≤ n) : Own w base e sz (hiV v k) k (cs.take (k * sz)) := by
  obtain ⟨hl, ⟨rfl, rfl⟩ | ⟨g, off, cap, cur, fr, rfl, hb, hg, hf, hnc, hcm, hfit, htk⟩⟩ := O
  · have h0 : k = 0 := by omega
    subst h0
    simpa [hiV] using Own.nil w base e sz
  · have hkn : k * sz ≤ n * sz := Nat.mul_le_mul_right _ hk
    refine ⟨by rw [List.length_take]; omega, .inr ⟨g, off, cap, cur, fr, rfl, hb, hg, hf, by omega, hcm, hfit, ?_⟩⟩
    rw [← htk, List.take_take, Nat.min_eq_left hkn]
end
section
variable {P : Program} {Q : Exit → Act → World → Prop} {a : Act} {w w' : World} {l : List (Nat × Value)} {ops : Array Oper} {rest : List Oper} {d ty : Nat} {p : String} {af : Array Edge} {x y : Operand} {vx vy u : Value}
end
end Go.Gx

namespace Go.Gx
open Go.RowKit
section
variable {P : Program} {w : World} {L B L2 B2 n m : Nat} {v u : Value} {la lb : List UInt8}
end
end Go.Gx

namespace Go.Gx
open Go.RowKit
section
variable {P : Program} {Q : Exit → Act → World → Prop} {a : Act} {w w' w9 : World} {l : List (Nat × Value)} {ops : Array Oper} {rest : List Oper}
variable {d ty t e xt yt tx i : Nat} {p : String} {af : Array Edge} {x y : Operand} {v : Value} {k : IntKind} {n base sz by_ b o : Nat} {cs ws : List Value} {zv : Value} {r : Int}
theorem RdC.cellAt {L B q : Nat} (R : RdC w L B sz v n cs) (hA : AtV v q b o) : ∀ j u, cs[q + j]? = some u → w.cell? ⟨b, o + j, none⟩ = some u := by
  intro j u hu
  obtain ⟨off', n', c', hv', rfl⟩ := hA
  obtain ⟨h0, a, c, hv, h2, h3, h4⟩ := R
  rcases h4 with h4 | ⟨b2, off, ha, _, _, hc⟩
  · rw [h4] at hu; simp at hu
  · subst ha
    rw [hv] at hv'
    injection hv' with e1 e2 e3; injection e1 with e1; injection e1 with e1 e4; subst e1; subst e4
    have := hc (q + j) u hu
    rw [← Nat.add_assoc] at this
    exact this
end
end Go.Gx
namespace Go.Gx
open Go.RowKit
section
variable {P : Program} {Q : Exit → Act → World → Prop} {a : Act} {w : World} {l : List (Nat × Value)} {ops : Array Oper} {rest : List Oper} {d ty e xt yt sz by_ : Nat} {p : String} {af : Array Edge} {x y : Operand} {zv : Value}
end
end Go.Gx

namespace Go.Proofs.Ytdhpalioifjfbaa
open Go.Gx Go.RowKit
attribute [local irreducible] wpList wpStill Code.wp Calls

theorem one_u64 (l : List Int) : (l.map (Value.int .u64)).all Value.oneCell' = true := by simp [Value.oneCell']
theorem one_sv9 (l : List By) : (l.map sv).all Value.oneCell' = true := by simp [Value.oneCell', sv]
theorem set_map9 {α : Type} (f : α → Value) {l : List α} {x : α} {j : Nat} (h : j < l.length) : (l.map f).take j ++ [f x] ++ (l.map f).drop (j + 1) = (l.set j x).map f := by rw [List.set_eq_take_append_cons_drop, if_pos h]; simp
theorem putO_bad {r : By} (h : r.length = 0 ∨ 200 < r.length) : 7 = putO r := by unfold putO; rw [if_pos (badB_t h)]
theorem putO_ok {r : By} (h1 : r.length ≠ 0) (h2 : r.length ≤ 200) : 0 = putO r := by unfold putO; rw [if_neg (by rw [badB_f ⟨by omega, by omega⟩]; decide)]
theorem putR_ok {R : List (Int × By)} {z : Int} {r : By} (h : putO r = 0) : putR R z r = mput R z r := by
  unfold putO at h; unfold putR
  split at h
  · exact absurd h zz
  · rw [if_neg (by assumption)]
theorem putR_no {R : List (Int × By)} {z : Int} {r : By} (h : ¬ putO r = 0) : putR R z r = R := by
  unfold putO at h; unfold putR
  split at h
  · rw [if_pos (by assumption)]
  · exact absurd rfl h
theorem is_at {L : List Int} {z : Int} {j : Nat} (hp : PosI L z j) (hu : L.Pairwise (fun x y => x < y)) (h : j < L.length) : decide (L.getD j 0 = z) = decide (z ∈ L) := decide_eq_decide.2 ⟨fun e => (hp.mem hu).2 ⟨h, e⟩, fun e => ((hp.mem hu).1 e).2⟩
theorem is_no {L : List Int} {z : Int} {j : Nat} (hp : PosI L z j) (hu : L.Pairwise (fun x y => x < y)) (h : ¬ j < L.length) : false = decide (z ∈ L) := (decide_eq_false fun e => h ((hp.mem hu).1 e).1).symm
section
variable {base k m : Nat} {R : List (Int × By)} {F : Nat → Prop} {w : World} {z : Int} {L : List Int} {X : List By}
theorem hDrop_in (h : HeapR w base k R m F) (hbase : base ≤ w.heap.size) (hS : SameOk R L X) (hz : z ∈ L) : Ret Try.prog 29 #[ptr k 0, .int .u64 z] w (fun v' w' => Gr w w' F ∧ v' = .int .i64 0 ∧ ∃ F', HeapR w' base k (mdel R z) m F' ∧ NewF w.heap.size F F') :=
  (hDrop_ret z h hbase).mono fun v' w' q => by rw [hS.some_, decide_eq_true hz, if_pos rfl] at q; exact q
theorem hDrop_out (h : HeapR w base k R m F) (hbase : base ≤ w.heap.size) (hS : SameOk R L X) (hz : z ∉ L) : Ret Try.prog 29 #[ptr k 0, .int .u64 z] w (fun v' w' => Gr w w' F ∧ v' = .int .i64 22 ∧ ∃ F', HeapR w' base k R m F' ∧ NewF w.heap.size F F') :=
  (hDrop_ret z h hbase).mono fun v' w' q => by rw [hS.some_, decide_eq_false hz, if_neg zz, hS.del_none hz] at q; exact q
end

set_option maxHeartbeats 1000000 in
theorem HeapAll_ret (ops : List OpH) (vo : Value) (w : World) (hlo : ops.length ≤ 9223372036854775807) (hwf : ∀ o ∈ ops, OkH o) (hro : RdC w 0 w.heap.size 4 vo ops.length (ops.flatMap cellsH)) : Ret Try.prog 7 #[vo] w (fun v' w' => Below w.heap.size w w' ∧ v' = .bool true) := by
 have hb := Below.refl w.heap.size w
 refine enter (N := 210) Try.func7 rfl rfl (by simp) fun a hN hd hA => ?_
 have f : a.tmps.getD 0 undef = vo := hA 0 (by simp)
 clear hA
 refine zF fun _ a => zH ?_
 refine zD rfl (zB (a _ _ (zF fun _ a => zF fun _ g => zH (zj ok26 (begun14_ret _) trivial ?_))))
 rintro _ p ⟨s, rfl⟩
 have s := zQ s
 obtain ⟨hb, _⟩ := yE hb s
 have hro := hro.keep0 s
 refine op_not (zA hN rfl) (zB (g _ _ (wp_cond_false (zA hN rfl) (wp_skip (a _ _ (zF fun _ a => zF fun _ g => zH (zG (zC hN rfl f) (op_len_rd Try.underlying61 (zA hN rfl) hro (op_gtr (zA hN rfl) rfl (fun s => ?_) (fun s => ?_))))))))))
 ·
  refine zB (g _ _ (wp_cond_true (zA hN rfl) (zF fun _ g => zH (zD rfl (zB (g _ _ (wp_ret (zO ( (ret1 rfl hd (zA hN rfl) ⟨_, rfl, ?_⟩))))))))))
  exact ⟨hb, rfl⟩
 refine zB (g _ _ (wp_cond_false (zA hN rfl) (wp_skip (a _ _ (zF fun _ a => zH (ze (vs := []) ok27 trivial (hNew_ret _) ?_))))))
 rintro _ B ⟨t, s, A, rfl, z⟩
 have C : ∀ x, A x → p.heap.size ≤ x := fun x hx => (z.lt x hx).1
 have t := zQ t
 obtain ⟨hb, _⟩ := yE hb t
 have hro := hro.keep0 t
 have z : HeapR B w.heap.size s ([] : List (Int × By)) 0 A := z.mono zx
 refine zD (zA hN rfl) (zB (a _ _ (zF fun _ a => zH (zD rfl (zB (a _ _ (zF fun _ a => ?_)))))))
 refine zH (zD rfl (zB (a _ _ (zF fun _ a => zF fun _ g => zH (zD rfl (zB (g _ _ (wp_block (loop_m (fun mz_ az_ w' => ∃ (i : Nat) (R : List (Int × By)) (L : List Int) (X : List By) (m : Nat) (FH : Nat → Prop) (vl vx : Value), mz_ = ops.length - i ∧ (Sl az_ 0 vo) ∧ (Sl az_ 3 (ptr s 0)) ∧ (Sl az_ 6 (.int .i64 ((i : Nat) : Int))) ∧ (Sl az_ 4 vl) ∧ (Sl az_ 5 vx) ∧ (i ≤ ops.length) ∧ (SameOk R L X) ∧ (m ≤ i) ∧ (Below w.heap.size w w') ∧ (B.heap.size ≤ w'.heap.size) ∧ (RdC w' 0 w.heap.size 4 vo ops.length (ops.flatMap cellsH)) ∧ (HeapR w' w.heap.size s R m FH) ∧ (Own w' w.heap.size 57 1 vl L.length (L.map (Value.int .u64))) ∧ (Own w' w.heap.size 9 1 vx X.length (X.map sv))) _ hN hd ⟨0, [], [], [], 0, A, _, _, rfl, (zL hN rfl f), (zU hN rfl), (zU hN rfl), (zU hN rfl), (zU hN rfl), (Nat.zero_le _), SameOk.nil, (Nat.le_refl _), hb, (Nat.le_refl _), hro, z, (Own.nil _ _ _ _), (Own.nil _ _ _ _)⟩ ?_)))))))))
 rintro _ J I z C ⟨i, R, L, X, m, FH, vl, vx, rfl, B, H, A, F, D, hi, hS, hm, hb, K, hro, hL, t, f⟩
 have := hb.size
 refine zF fun _ g => zF fun _ I => zH (zG (zC z rfl A) (zG (zC z rfl B) (op_len_rd Try.underlying61 (zA z rfl) hro (op_lss (zA z rfl) (zA z rfl) (fun J => ?_) (fun J => ?_)))))
 ·
  refine zB (I _ _ (wp_cond_true (zA z rfl) (wp_skip (g _ _ (zF fun _ g => wp_block (zF fun _ I => zH ?_))))))
  have hok := hwf _ (getD_mem (d := OH0) (show i < ops.length by omega))
  have hoks := hok.s
  have hokk := hok.k
  have J := tmod8 (ops.getD i OH0).k
  have hxl := hS.len
  have J := hL
  have hrl := hS.rlen hL.nodup
  have hml := hL.len
  refine zG (zC z rfl B) (zG (zC z rfl A) (zh slt61 (zA z rfl) hro (zA z rfl) zx zx ?_))
  intro P M O Q K
  refine zX (cs := [(.int .i64 (ops.getD i OH0).k), (.int .i64 (ops.getD i OH0).s), (.int .u64 (ops.getD i OH0).z), (.int .u8 ((ops.getD i OH0).x.toNat : Int))]) agg65 rfl (zA z rfl) (fun j u hu => K j u (by have := (List.getElem?_eq_some_iff.1 hu).1; simpa using this) ((fun j u hu => el_oh (l := ops) (i := i) zx zx hu) j u hu)) (op_alloc (cs := [(.int .i64 0), (.int .i64 0), (.int .u64 0), (.int .u8 0)]) zero65 rfl ?_)
  intro Q O S T M P
  have Q : ¬ FH O := fun hf => by have := (hL.lt _ hf).2; omega
  obtain ⟨hb, _⟩ := yE hb P
  have S := M
  refine zZ size65 (zA z rfl) (zA z rfl) rfl rfl M rfl ?_
  intro U M T
  have := T.size
  have hro := (hro.keep0 P).keep T sR
  have hL := (hL.kz P).keepG (Gr.of T) (Dj.one Q)
  have t := (t.keep0 P).keepX S T zz
  have f := (f.keep0 P).keepX S T zz
  have hb := below_step1 hb T hb.size zx
  refine zB (I _ _ (zF fun _ I => zH (zD rfl (zB (I _ _ (seq_join1 (N := 210) (fun az_ w' => ∃ (j : Nat), (Sl az_ 0 vo) ∧ (Sl az_ 3 (ptr s 0)) ∧ (Sl az_ 4 vl) ∧ (Sl az_ 5 vx) ∧ (Sl az_ 6 (.int .i64 ((i : Nat) : Int))) ∧ (Sl az_ 7 (ptr O 0)) ∧ (Sl az_ 8 (.int .i64 ((j : Nat) : Int))) ∧ (PosI L (ops.getD i OH0).z j) ∧ (Below w.heap.size w w') ∧ (U.heap.size ≤ w'.heap.size) ∧ (RdC w' 0 w.heap.size 4 vo ops.length (ops.flatMap cellsH)) ∧ (HeapR w' w.heap.size s R m FH) ∧ (Own w' w.heap.size 57 1 vl L.length (L.map (Value.int .u64))) ∧ (Own w' w.heap.size 9 1 vx X.length (X.map sv)) ∧ (Bx w' O 65 [(.int .i64 (ops.getD i OH0).k), (.int .i64 (ops.getD i OH0).s), (.int .u64 (ops.getD i OH0).z), (.int .u8 ((ops.getD i OH0).x.toNat : Int))])) (fun P => ?_) ?_))))))
  ·
   refine zF fun _ I => wp_block (loop_m (fun mz_ az_ w' => ∃ (j : Nat), mz_ = L.length - j ∧ (Sl az_ 0 vo) ∧ (Sl az_ 3 (ptr s 0)) ∧ (Sl az_ 4 vl) ∧ (Sl az_ 5 vx) ∧ (Sl az_ 6 (.int .i64 ((i : Nat) : Int))) ∧ (Sl az_ 7 (ptr O 0)) ∧ (Sl az_ 8 (.int .i64 ((j : Nat) : Int))) ∧ (j ≤ L.length) ∧ (∀ q, q < j → L.getD q 0 < (ops.getD i OH0).z) ∧ (Below w.heap.size w w') ∧ (U.heap.size ≤ w'.heap.size) ∧ (RdC w' 0 w.heap.size 4 vo ops.length (ops.flatMap cellsH)) ∧ (HeapR w' w.heap.size s R m FH) ∧ (Own w' w.heap.size 57 1 vl L.length (L.map (Value.int .u64))) ∧ (Own w' w.heap.size 9 1 vx X.length (X.map sv)) ∧ (Bx w' O 65 [(.int .i64 (ops.getD i OH0).k), (.int .i64 (ops.getD i OH0).s), (.int .u64 (ops.getD i OH0).z), (.int .u8 ((ops.getD i OH0).x.toNat : Int))])) _ z C ⟨0, rfl, (zL z rfl B), (zL z rfl H), (zL z rfl F), (zL z rfl D), (zL z rfl A), (zU z rfl), (zU z rfl), (Nat.zero_le _), (fun q hq => by omega), hb, (Nat.le_refl _), hro, hL, t, f, M⟩ ?_)
   rintro _ Z Y A S ⟨j, rfl, V, T, D, H, U, F, B, hj, hlo, hb, W, hro, hL, t, f, M⟩
   have := hb.size
   refine zF fun _ W => zF fun _ Y => reg_still mixed zy ?_
   intro aa Z
   obtain ⟨hb, _⟩ := yE hb Z
   have hro := hro.keep0 Z
   have hL := hL.kz Z
   have t := t.keep0 Z
   have f := f.keep0 Z
   have M := M.keep0 Z
   refine st_step rfl (fun _ Z => zG (zC A rfl B) Z) (st_step rfl (fun _ Z => zG (zC A rfl D) Z) (st_step rfl (fun _ Z => op_len_rd Try.underlying62 (zA A rfl) t.rdw Z) ?_))
   by_cases aa : ((j : Nat) : Int) < ((L.length : Nat) : Int)
   ·
    refine st_step rfl (fun _ Z => op_cmp (b := true) (zA A rfl) (zA A rfl) (b_lss (decide_eq_true aa)) Z) (st_step rfl (fun _ Z => zG (zA A rfl) Z) (st_g_true (j := 4) (dj := 37) (b := true) rfl rfl rfl (zA A rfl) (st_step rfl (fun _ Z => zG (zC A rfl D) Z) (st_g_true (j := 4) (dj := 37) (b := true) rfl rfl rfl (zA A rfl) (st_step rfl (fun _ Z => zG (zC A rfl B) Z) (st_g_true (j := 4) (dj := 37) (b := true) rfl rfl rfl (zA A rfl) (st_index_rd slt62 (zA A rfl) t.rdw (zA A rfl) zx zx ?_)))))))
    intro af ae ac ad ab
    refine st_g_true (j := 4) (dj := 37) (b := true) rfl rfl rfl (zA A rfl) ?_
    refine st_step rfl (fun _ Z => zN (v := (Value.int .u64 (L.getD j 0))) one57 (zA A rfl) (by have := ab 0 (.int .u64 (L.getD j 0)) zz (el_i (.int .u64) (i := j) zx zx); simpa using this) Z) (st_g_true (j := 4) (dj := 37) (b := true) rfl rfl rfl (zA A rfl) (st_step rfl (fun _ Z => zM fld65_2 (zC A rfl F) Z) (st_g_true (j := 4) (dj := 37) (b := true) rfl rfl rfl (zA A rfl) (st_step rfl (fun _ Z => zN one57 (zA A rfl) (M.cell rfl) Z) (st_g_true (j := 4) (dj := 37) (b := true) rfl rfl rfl (zA A rfl) (st_step rfl (fun _ Z => op_cmp (b := (decide ((L.getD j 0) < (ops.getD i OH0).z))) (zA A rfl) (zA A rfl) (b_lss rfl) Z) (st_step rfl (fun _ Z => zc (zA A rfl) (zA A rfl) Z) (st_nil (Y _ _ (wp_cond_split (zA A rfl) (fun ac => ?_) (fun ac => ?_)))))))))))
    ·
     have ac := of_decide_eq_true ac
     refine wp_skip (W _ _ (wp_block (zH (zG (zC A rfl B) (op_add (zA A rfl) rfl (add64 zx) (zD (zA A rfl) (zB (blk_normal ?_))))))))
     -- round 21F 26T 36T 45T
     exact zg _ A S ⟨(j + 1), rfl, (zL A rfl V), (zL A rfl T), (zL A rfl D), (zL A rfl H), (zL A rfl U), (zL A rfl F), (zU A rfl).trans (congrArg (Value.int .i64) zx), zx, (PosI.step zx hlo (by first | exact c44 | exact g44 | assumption)), hb, zx, hro, hL, t, f, M⟩ zx
    have ac := of_decide_eq_false ac
    refine wp_exit (then_exit (then_exit (blk_hit (I _ _ ?_))))
    exact P _ _ _ A S ⟨j, (zL A rfl V), (zL A rfl T), (zL A rfl D), (zL A rfl H), (zL A rfl U), (zL A rfl F), (zL A rfl B), ⟨by omega, hlo, fun Z => by first | omega | exact Int.not_lt.1 c44 | exact Int.not_lt.1 g44⟩, hb, zx, hro, hL, t, f, M⟩
   refine st_step rfl (fun _ Z => op_cmp (b := false) (zA A rfl) (zA A rfl) (b_lss (decide_eq_false aa)) Z) (st_step rfl (fun _ Z => zG (zA A rfl) Z) (st_g_false (j := 4) (dj := 37) (b := true) rfl rfl rfl (zA A rfl) rfl rfl ?_))
   refine st_g_false (j := 4) (dj := 37) (b := true) rfl rfl rfl (zA A rfl) rfl rfl (st_g_false (j := 4) (dj := 37) (b := true) rfl rfl rfl (zA A rfl) rfl rfl (st_g_false (j := 4) (dj := 37) (b := true) rfl rfl rfl (zA A rfl) rfl rfl (st_g_false (j := 4) (dj := 37) (b := true) rfl rfl rfl (zA A rfl) rfl rfl (st_g_false (j := 4) (dj := 37) (b := true) rfl rfl rfl (zA A rfl) rfl rfl (st_g_false (j := 4) (dj := 37) (b := true) rfl rfl rfl (zA A rfl) rfl rfl (st_step rfl (fun _ Z => zd (zA A rfl) rfl Z) (st_nil (Y _ _ (wp_cond_false (zA A rfl) (wp_exit (then_exit (then_exit (blk_hit (I _ _ ?_))))))))))))))
   exact P _ _ _ A S ⟨j, (zL A rfl V), (zL A rfl T), (zL A rfl D), (zL A rfl H), (zL A rfl U), (zL A rfl F), (zL A rfl B), ⟨by omega, hlo, fun Z => by first | omega | exact Int.not_lt.1 c44 | exact Int.not_lt.1 g44⟩, hb, zx, hro, hL, t, f, M⟩
  rintro aa V A T ⟨j, H, U, B, P, S, F, D, hp, hb, ab, hro, hL, t, f, M⟩
  have := hb.size
  refine seq_join1 (N := 210) (fun az_ w' => (Sl az_ 0 vo) ∧ (Sl az_ 3 (ptr s 0)) ∧ (Sl az_ 4 vl) ∧ (Sl az_ 5 vx) ∧ (Sl az_ 6 (.int .i64 ((i : Nat) : Int))) ∧ (Sl az_ 7 (ptr O 0)) ∧ (Sl az_ 8 (.int .i64 ((j : Nat) : Int))) ∧ (Sl az_ 9 (.bool (decide ((ops.getD i OH0).z ∈ L)))) ∧ (Below w.heap.size w w') ∧ (V.heap.size ≤ w'.heap.size) ∧ (RdC w' 0 w.heap.size 4 vo ops.length (ops.flatMap cellsH)) ∧ (HeapR w' w.heap.size s R m FH) ∧ (Own w' w.heap.size 57 1 vl L.length (L.map (Value.int .u64))) ∧ (Own w' w.heap.size 9 1 vx X.length (X.map sv)) ∧ (Bx w' O 65 [(.int .i64 (ops.getD i OH0).k), (.int .i64 (ops.getD i OH0).s), (.int .u64 (ops.getD i OH0).z), (.int .u8 ((ops.getD i OH0).x.toNat : Int))])) (fun aa => ?_) ?_
  ·
   refine zF fun _ I => reg_still mixed zy ?_
   intro ab V
   obtain ⟨hb, _⟩ := yE hb V
   have hro := hro.keep0 V
   have hL := hL.kz V
   have t := t.keep0 V
   have f := f.keep0 V
   have M := M.keep0 V
   refine st_step rfl (fun _ Z => zG (zC A rfl D) Z) (st_step rfl (fun _ Z => zG (zC A rfl B) Z) (st_step rfl (fun _ Z => op_len_rd Try.underlying62 (zA A rfl) t.rdw Z) ?_))
   by_cases V : ((j : Nat) : Int) < ((L.length : Nat) : Int)
   ·
    refine st_step rfl (fun _ Z => op_cmp (b := true) (zA A rfl) (zA A rfl) (b_lss (decide_eq_true V)) Z) (st_step rfl (fun _ Z => zG (zA A rfl) Z) (st_g_true (j := 4) (dj := 52) (b := true) rfl rfl rfl (zA A rfl) (st_step rfl (fun _ Z => zG (zC A rfl B) Z) (st_g_true (j := 4) (dj := 52) (b := true) rfl rfl rfl (zA A rfl) (st_step rfl (fun _ Z => zG (zC A rfl D) Z) (st_g_true (j := 4) (dj := 52) (b := true) rfl rfl rfl (zA A rfl) (st_index_rd slt62 (zA A rfl) t.rdw (zA A rfl) zx zx ?_)))))))
    intro ac af ae ad ab
    refine st_g_true (j := 4) (dj := 52) (b := true) rfl rfl rfl (zA A rfl) (st_step rfl (fun _ Z => zN (v := (Value.int .u64 (L.getD j 0))) one57 (zA A rfl) (by have := ab 0 (.int .u64 (L.getD j 0)) zz (el_i (.int .u64) (i := j) zx zx); simpa using this) Z) ?_)
    refine st_g_true (j := 4) (dj := 52) (b := true) rfl rfl rfl (zA A rfl) (st_step rfl (fun _ Z => zM fld65_2 (zC A rfl F) Z) (st_g_true (j := 4) (dj := 52) (b := true) rfl rfl rfl (zA A rfl) (st_step rfl (fun _ Z => zN one57 (zA A rfl) (M.cell rfl) Z) (st_g_true (j := 4) (dj := 52) (b := true) rfl rfl rfl (zA A rfl) (st_step rfl (fun _ Z => op_cmp (b := (decide ((L.getD j 0) = (ops.getD i OH0).z))) (zA A rfl) (zA A rfl) (b_eql rfl) Z) (st_step rfl (fun _ Z => zc (zA A rfl) (zA A rfl) Z) (st_step rfl (fun _ Z => zD (zA A rfl) Z) (st_nil (I _ _ ?_)))))))))
    exact aa _ _ _ A T ⟨(zL A rfl H), (zL A rfl U), (zL A rfl B), (zL A rfl P), (zL A rfl S), (zL A rfl F), (zL A rfl D), (zU A rfl).trans (congrArg Value.bool (is_at hp hS.up zx)), hb, zx, hro, hL, t, f, M⟩
   refine st_step rfl (fun _ Z => op_cmp (b := false) (zA A rfl) (zA A rfl) (b_lss (decide_eq_false V)) Z) (st_step rfl (fun _ Z => zG (zA A rfl) Z) (st_g_false (j := 4) (dj := 52) (b := true) rfl rfl rfl (zA A rfl) rfl rfl ?_))
   refine st_g_false (j := 4) (dj := 52) (b := true) rfl rfl rfl (zA A rfl) rfl rfl (st_g_false (j := 4) (dj := 52) (b := true) rfl rfl rfl (zA A rfl) rfl rfl (st_g_false (j := 4) (dj := 52) (b := true) rfl rfl rfl (zA A rfl) rfl rfl (st_g_false (j := 4) (dj := 52) (b := true) rfl rfl rfl (zA A rfl) rfl rfl (st_g_false (j := 4) (dj := 52) (b := true) rfl rfl rfl (zA A rfl) rfl rfl (st_g_false (j := 4) (dj := 52) (b := true) rfl rfl rfl (zA A rfl) rfl rfl (st_step rfl (fun _ Z => zd (zA A rfl) rfl Z) (st_step rfl (fun _ Z => zD (zA A rfl) Z) (st_nil (I _ _ ?_)))))))))
   exact aa _ _ _ A T ⟨(zL A rfl H), (zL A rfl U), (zL A rfl B), (zL A rfl P), (zL A rfl S), (zL A rfl F), (zL A rfl D), (zU A rfl).trans (congrArg Value.bool (is_no hp hS.up zx)), hb, zx, hro, hL, t, f, M⟩
  rintro ab Z A H ⟨D, F, P, U, T, B, V, S, hb, aa, hro, hL, t, f, M⟩
  have := hb.size
  refine zF fun _ I => zH (zM fld65_1 (zC A rfl B) (zN one3 (zA A rfl) (M.cell rfl) (op_max (r := ((((ops.getD i OH0).s).toNat : Nat) : Int)) (zA A rfl) rfl zx (op_min (r := (((min ((ops.getD i OH0).s).toNat 300) : Nat) : Int)) (zA A rfl) rfl zx (op_make (n := (min ((ops.getD i OH0).s).toNat 300)) (y' := .const undef) slt22 (zA A rfl) (zA A rfl) rfl zx zx hb.size ?_)))))
  intro Z ac ab aa ad
  have ae : Dj (Bl Z) FH := fun k hk hg => by have q1 := ad k hk; have q2 := (hL.lt k hg).2; omega
  obtain ⟨hb, _⟩ := yE hb aa
  have hro := hro.keep0 aa
  have hL := hL.kz aa
  have t := t.keep0 aa
  have f := f.keep0 aa
  have M := M.keep0 aa
  have ab : Own ac w.heap.size 5 1 Z (min ((ops.getD i OH0).s).toNat 300) (((List.replicate (min ((ops.getD i OH0).s).toNat 300) 0 : By)).map u8v) := by exact ab.cast rfl (zeros_u8 _)
  refine zD (zA A rfl) (zB (I _ _ (zF fun _ I => zF fun _ W => zH (zD rfl (zB (W _ _ (wp_block (loop_m (fun mz_ az_ w' => ∃ (jj : Nat) (bl : By), mz_ = (min ((ops.getD i OH0).s).toNat 300) - jj ∧ (Sl az_ 0 vo) ∧ (Sl az_ 3 (ptr s 0)) ∧ (Sl az_ 4 vl) ∧ (Sl az_ 5 vx) ∧ (Sl az_ 6 (.int .i64 ((i : Nat) : Int))) ∧ (Sl az_ 7 (ptr O 0)) ∧ (Sl az_ 8 (.int .i64 ((j : Nat) : Int))) ∧ (Sl az_ 9 (.bool (decide ((ops.getD i OH0).z ∈ L)))) ∧ (Sl az_ 10 Z) ∧ (Sl az_ 11 (.int .i64 ((jj : Nat) : Int))) ∧ (jj ≤ (min ((ops.getD i OH0).s).toNat 300)) ∧ (bl.length = (min ((ops.getD i OH0).s).toNat 300)) ∧ (Below w.heap.size w w') ∧ (ac.heap.size ≤ w'.heap.size) ∧ (RdC w' 0 w.heap.size 4 vo ops.length (ops.flatMap cellsH)) ∧ (HeapR w' w.heap.size s R m FH) ∧ (Own w' w.heap.size 57 1 vl L.length (L.map (Value.int .u64))) ∧ (Own w' w.heap.size 9 1 vx X.length (X.map sv)) ∧ (Bx w' O 65 [(.int .i64 (ops.getD i OH0).k), (.int .i64 (ops.getD i OH0).s), (.int .u64 (ops.getD i OH0).z), (.int .u8 ((ops.getD i OH0).x.toNat : Int))]) ∧ (Own w' w.heap.size 5 1 Z bl.length (bl.map u8v))) _ A H ⟨0, (List.replicate (min ((ops.getD i OH0).s).toNat 300) 0 : By), rfl, (zL A rfl D), (zL A rfl F), (zL A rfl P), (zL A rfl U), (zL A rfl T), (zL A rfl B), (zL A rfl V), (zL A rfl S), (zU A rfl), (zU A rfl), Nat.zero_le _, List.length_replicate, hb, (Nat.le_refl _), hro, hL, t, f, M, (ab.cast List.length_replicate.symm rfl)⟩ ?_))))))))
  rintro _ af ad A S ⟨jj, bl, rfl, P, F, H, V, T, D, aa, ab, U, ac, hjj, hbl, hb, ag, hro, hL, t, f, M, B⟩
  have := hb.size
  refine zF fun _ W => zF fun _ Y => zH (zG (zC A rfl ac) (zG (zC A rfl U) (op_len_rd Try.underlying22 (zA A rfl) B.rdw (op_lss (zA A rfl) (zA A rfl) (fun af => ?_) (fun af => ?_)))))
  ·
   refine zB (Y _ _ (wp_cond_true (zA A rfl) (wp_skip (W _ _ (zF fun _ W => ?_)))))
   refine wp_block (zH (zG (zC A rfl U) (zG (zC A rfl ac) (zM fld65_3 (zC A rfl D) (zN one5 (zA A rfl) (M.cell rfl) (zG (zC A rfl ac) (op_conv (r := ((UInt8.ofNat jj).toNat : Int)) (zA A rfl) us3 Try.underlying5 conv_u8 (op_add (r := (((ops.getD i OH0).x + UInt8.ofNat jj).toNat : Int)) (zA A rfl) (zA A rfl) add_u8 (op_index_own (i := jj) slt22 (zA A rfl) B (zA A rfl) zx zx ?_)))))))))
   intro ah ag ai af
   have af : AtV Z (jj) ah ag := by simpa using af
   have ag := B
   refine op_store_own (vs := [(.int .u8 (((ops.getD i OH0).x + UInt8.ofNat jj).toNat : Int))]) size5 (zA A rfl) (zA A rfl) rfl rfl rfl ag af (by simp; omega) ?_
   intro ai ah af
   have := af.size
   have hro := hro.keepO ag af zx
   have hL := hL.keepG (Gr.of af) ae.symm
   have t := t.keepT ag af zz
   have f := f.keepT ag af zz
   have M := M.keepO ag af zz
   have hb := below_stepO hb ag af hb.size zx
   have ah : Own ai w.heap.size 5 1 Z bl.length (((bl.set jj ((ops.getD i OH0).x + UInt8.ofNat jj))).map u8v) := by exact ah.cast rfl (set_u8 zx)
   refine zB (W _ _ (zH (zG (zC A rfl ac) (op_add (zA A rfl) rfl (add64 zx) (zD (zA A rfl) (zB ?_))))))
   -- round 21F 26T 69T
   exact zg _ A S ⟨jj + 1, _, rfl, (zL A rfl P), (zL A rfl F), (zL A rfl H), (zL A rfl V), (zL A rfl T), (zL A rfl D), (zL A rfl aa), (zL A rfl ab), (zL A rfl U), (zU A rfl).trans (congrArg (Value.int .i64) zx), zx, (by simp only [List.length_set]; exact hbl), hb, zx, hro, hL, t, f, M, (ah.cast (by simp) rfl)⟩ zx
  refine zB (Y _ _ (wp_cond_false (zA A rfl) (wp_exit (then_exit (then_exit (blk_hit (I _ _ (seq_join1 (N := 210) (fun az_ w' => ∃ (R2 : List (Int × By)) (L2 : List Int) (X2 : List By) (m2 : Nat) (F2 : Nat → Prop) (ag af : Value), (Sl az_ 0 vo) ∧ (Sl az_ 3 (ptr s 0)) ∧ (Sl az_ 6 (.int .i64 ((i : Nat) : Int))) ∧ (Sl az_ 7 (ptr O 0)) ∧ (Sl az_ 4 ag) ∧ (Sl az_ 5 af) ∧ (SameOk R2 L2 X2) ∧ (m2 ≤ i + 1) ∧ (Below w.heap.size w w') ∧ (ad.heap.size ≤ w'.heap.size) ∧ (RdC w' 0 w.heap.size 4 vo ops.length (ops.flatMap cellsH)) ∧ (Bx w' O 65 [(.int .i64 (ops.getD i OH0).k), (.int .i64 (ops.getD i OH0).s), (.int .u64 (ops.getD i OH0).z), (.int .u8 ((ops.getD i OH0).x.toNat : Int))]) ∧ (Own w' w.heap.size 57 1 ag L2.length (L2.map (Value.int .u64))) ∧ (Own w' w.heap.size 9 1 af X2.length (X2.map sv)) ∧ (HeapR w' w.heap.size s R2 m2 F2)) (fun ac => ?_) ?_))))))))
  ·
   refine zF fun _ I => zF fun _ W => zH (zM fld65_0 (zC A rfl D) (zN one3 (zA A rfl) (M.cell rfl) ?_))
   refine op_rem (r := ((ops.getD i OH0).k.tmod 8)) (zA A rfl) rfl zz rfl (op_add (zA A rfl) rfl (add64 zx) (op_rem (r := (((ops.getD i OH0).k.tmod 8 + 8).tmod 8)) (zA A rfl) rfl zz rfl (zD (zA A rfl) (zB (W _ _ (wp_block (zF fun _ W => zH (zG (zA A rfl) (op_lss (zA A rfl) rfl (fun ah => ?_) (fun ah => ?_))))))))))
   ·
    refine zD (zA A rfl) (zB (W _ _ (wp_cond_true (zA A rfl) (zF fun _ W => zH (zD rfl (zB (W _ _ (seq_join1 (N := 210) (fun az_ w' => (Sl az_ 0 vo) ∧ (Sl az_ 3 (ptr s 0)) ∧ (Sl az_ 4 vl) ∧ (Sl az_ 5 vx) ∧ (Sl az_ 6 (.int .i64 ((i : Nat) : Int))) ∧ (Sl az_ 7 (ptr O 0)) ∧ (Sl az_ 8 (.int .i64 ((j : Nat) : Int))) ∧ (Sl az_ 9 (.bool (decide ((ops.getD i OH0).z ∈ L)))) ∧ (Sl az_ 10 Z) ∧ (Sl az_ 13 (.int .i64 (putO bl))) ∧ (Below w.heap.size w w') ∧ (ad.heap.size ≤ w'.heap.size) ∧ (RdC w' 0 w.heap.size 4 vo ops.length (ops.flatMap cellsH)) ∧ (HeapR w' w.heap.size s R m FH) ∧ (Own w' w.heap.size 57 1 vl L.length (L.map (Value.int .u64))) ∧ (Own w' w.heap.size 9 1 vx X.length (X.map sv)) ∧ (Bx w' O 65 [(.int .i64 (ops.getD i OH0).k), (.int .i64 (ops.getD i OH0).s), (.int .u64 (ops.getD i OH0).z), (.int .u8 ((ops.getD i OH0).x.toNat : Int))]) ∧ (Own w' w.heap.size 5 1 Z bl.length (bl.map u8v))) (fun ah => ?_) ?_))))))))
    ·
     refine zF fun _ W => zF fun _ Y => zH (zG (zC A rfl U) (op_len_rd Try.underlying22 (zA A rfl) B.rdw (op_eql (zA A rfl) rfl (fun ai => ?_) (fun ai => ?_))))
     ·
      refine zG (zA A rfl) (zR (j := 3) (dj := 91) (b := false) rfl rfl rfl (zA A rfl) rfl rfl (zR (j := 3) (dj := 91) (b := false) rfl rfl rfl (zA A rfl) rfl rfl (zR (j := 3) (dj := 91) (b := false) rfl rfl rfl (zA A rfl) rfl rfl (zc (zA A rfl) rfl (zB (Y _ _ (wp_cond_true (zA A rfl) (zH (zD rfl (zB (W _ _ ?_)))))))))))
      exact ah _ _ _ A S ⟨(zL A rfl P), (zL A rfl F), (zL A rfl H), (zL A rfl V), (zL A rfl T), (zL A rfl D), (zL A rfl aa), (zL A rfl ab), (zL A rfl U), (zU A rfl).trans (congrArg (Value.int .i64) (by first | exact putO_bad zx | exact putO_ok zx zx)), hb, zx, hro, hL, t, f, M, B⟩
     refine zG (zA A rfl) (zS (j := 3) (dj := 91) (b := false) rfl rfl rfl (zA A rfl) (zG (zC A rfl U) (zS (j := 3) (dj := 91) (b := false) rfl rfl rfl (zA A rfl) (op_len_rd Try.underlying22 (zA A rfl) B.rdw (zS (j := 3) (dj := 91) (b := false) rfl rfl rfl (zA A rfl) (op_gtr (zA A rfl) rfl (fun ai => ?_) (fun ai => ?_)))))))
     ·
      refine zd (zA A rfl) (zA A rfl) (zB (Y _ _ (wp_cond_true (zA A rfl) (zH (zD rfl (zB (W _ _ ?_)))))))
      exact ah _ _ _ A S ⟨(zL A rfl P), (zL A rfl F), (zL A rfl H), (zL A rfl V), (zL A rfl T), (zL A rfl D), (zL A rfl aa), (zL A rfl ab), (zL A rfl U), (zU A rfl).trans (congrArg (Value.int .i64) (by first | exact putO_bad zx | exact putO_ok zx zx)), hb, zx, hro, hL, t, f, M, B⟩
     refine zd (zA A rfl) (zA A rfl) (zB (Y _ _ (wp_cond_false (zA A rfl) (wp_skip (W _ _ ?_)))))
     exact ah _ _ _ A S ⟨(zL A rfl P), (zL A rfl F), (zL A rfl H), (zL A rfl V), (zL A rfl T), (zL A rfl D), (zL A rfl aa), (zL A rfl ab), (zL A rfl U), (zU A rfl).trans (congrArg (Value.int .i64) (by first | exact putO_bad zx | exact putO_ok zx zx)), hb, zx, hro, hL, t, f, M, B⟩
    rintro av am U ao ⟨ap, aj, aq, ak, an, ah, ai, au, al, ar, hb, aw, hro, hL, t, f, M, B⟩
    have := hb.size
    refine zF fun _ W => zH (zG (zC U rfl al) ?_)
    have av : RdC am 0 am.heap.size 1 Z bl.length (bl.map u8v) := by have hh : RdC am 0 am.heap.size 1 _ _ _ := (B.rdw.mono (L' := 0) (B' := am.heap.size) (Nat.zero_le _) zx); first | simpa using hh | simpa [Nat.add_comm, Nat.add_left_comm, Nat.add_assoc] using hh | exact hh.cast (by first | rfl | (simp; try omega)) (by first | rfl | (simp; done) | simp [u8v])
    refine zj ok16 (Twin_ret bl Z _ (by first | assumption | omega | (simp only [List.length_append, List.length_cons, List.length_nil, List.length_drop, List.length_take]; omega) | (dsimp only; omega) | decide | (simp [keyV, be8_len]; done)) av) ⟨(zA U rfl), trivial⟩ ?_
    rintro _ ax ⟨aw, av, rfl, ay, az, am⟩
    have ay : ¬ FH av := fun hf => by have := (hL.lt _ hf).2; omega
    have az : Z.ownBlock ≠ some av := fun hh => by have := (B.lt _ hh).2; omega
    have aw := zQ aw
    obtain ⟨hb, _⟩ := yE hb aw
    have hL := hL.kz aw
    have t := t.keep0 aw
    have f := f.keep0 aw
    have M := M.keep0 aw
    have B := B.keep0 aw
    refine zD (zA U rfl) (zB (W _ _ (zF fun _ W => zF fun _ Y => zH (zG (zC U rfl aj) (zM fld65_2 (zC U rfl ah) (zN one57 (zA U rfl) (M.cell rfl) (zG (zA U rfl) ?_)))))))
    have aB : RdC ax av (av + 1) 1 (.slice (some ⟨av, 0, none⟩) bl.length (bl.length + 3)) (bl : By).length ((bl : By).map u8v) := (show RdC ax av (av + 1) 1 (.slice (some ⟨av, 0, none⟩) bl.length (bl.length + 3)) bl.length ((bl.map u8v)) from by simpa using (RdC.ofRow (sz := 1) (m := bl.length) (c := (bl.length + 3)) am (by simp) zx (by unfold maxLen; omega)))
    refine ze (vs := [(ptr s 0), (.int .u64 (ops.getD i OH0).z), (.slice (some ⟨av, 0, none⟩) bl.length (bl.length + 3))]) ok28 ⟨(zA U rfl), ⟨(zA U rfl), ⟨(zA U rfl), trivial⟩⟩⟩ (hPut_ret (r := bl) ((ops.getD i OH0).z) hL zx zx aB (fun x hx => Nat.lt_or_gt_of_ne (fun e => ay (e ▸ hx))) am.lt) ?_
    rintro _ aD ⟨aC, rfl, aB, ax, aE⟩
    have aF := t.lt
    have aF := f.lt
    have aF := M.lt
    have aF := B.lt
    have aF := am.lt
    have hL_old := hL
    have := aC.size
    have hro := (hro.keep0 aw).keepG aC (fun k hk => .inr (by have := hL_old.lt k hk; omega))
    have t := t.keepG aC (hL_old.notOwn t zz zz zz)
    have f := f.keepG aC (hL_old.notOwn f zz zz zz)
    have M := M.keepG aC Q
    have B := B.keepG aC ae
    have am := am.keepG aC ay
    have hb := below_stepG hb aC hb.size (fun k hk => (hL_old.lt k hk).1)
    have aw : ¬ aB av := ne_stepF aE aF ay
    refine zG (zC U rfl ar) (op_neq (zA U rfl) (zA U rfl) (fun ay => ?_) (fun ay => ?_))
    ·
     exact absurd rfl ay
    refine zG (zA U rfl) (zS (j := 7) (dj := 105) (b := false) rfl rfl rfl (zA U rfl) (zG (zA U rfl) (zS (j := 7) (dj := 105) (b := false) rfl rfl rfl (zA U rfl) (zG (zC U rfl al) (zS (j := 7) (dj := 105) (b := false) rfl rfl rfl (zA U rfl) ?_)))))
    have ay : RdC aD 0 aD.heap.size 1 Z bl.length (bl.map u8v) := by have hh : RdC aD 0 aD.heap.size 1 _ _ _ := (B.rdw.mono (L' := 0) (B' := aD.heap.size) (Nat.zero_le _) zx); first | simpa using hh | simpa [Nat.add_comm, Nat.add_left_comm, Nat.add_assoc] using hh | exact hh.cast (by first | rfl | (simp; try omega)) (by first | rfl | (simp; done) | simp [u8v])
    refine ze (vs := [(.slice (some ⟨av, 0, none⟩) bl.length (bl.length + 3)), Z]) ok22 ⟨(zA U rfl), ⟨(zA U rfl), trivial⟩⟩ (Ret.mono (Kept_ret bl bl _ Z _ (by first | assumption | omega | (simp only [List.length_append, List.length_cons, List.length_nil, List.length_drop, List.length_take]; omega) | (dsimp only; omega) | decide | (simp [keyV, be8_len]; done)) (by first | assumption | omega | (simp only [List.length_append, List.length_cons, List.length_nil, List.length_drop, List.length_take]; omega) | (dsimp only; omega) | decide | (simp [keyV, be8_len]; done)) am ay) (R' := fun v' w' => Below aD.heap.size aD w' ∧ v' = .bool true) fun v1 p h => ⟨h.1, h.2.trans (congrArg Value.bool (decide_eq_true rfl))⟩) ?_
    rintro _ aC ⟨ay, rfl⟩
    have ay := zQ ay
    obtain ⟨hb, _⟩ := yE hb ay
    have am := am.keep0 ay
    have ax := ax.kz ay
    refine zS (j := 7) (dj := 105) (b := false) rfl rfl rfl (zA U rfl) (op_not (zA U rfl) ?_)
    refine zd (zA U rfl) (zA U rfl) (zB (Y _ _ (wp_cond_false (zA U rfl) (wp_skip (W _ _ (zF fun _ W => zH (zG (zA U rfl) (zj ok23 (Spoil_ret _ _ _ _ _ (Own.ofRow (base := w.heap.size) (n := bl.length) (c := (bl.length + 3)) am (by simp) zx (by unfold maxLen; omega) zx)) ⟨(zA U rfl), trivial⟩ ?_))))))))
    rintro _ aD ⟨aC, rfl⟩
    have aE : DJ Z (.slice (some ⟨av, 0, none⟩) bl.length (bl.length + 3)) := fun k hk hg => by simp [Value.ownBlock] at hg; subst hg; exact az hk
    have az : Dj (Bl (.slice (some ⟨av, 0, none⟩) bl.length (bl.length + 3))) aB := fun k hk hg => by simp [Bl, Value.ownBlock] at hk; subst hk; exact aw hg
    have := aC.size
    have hro := (hro.keep0 ay).keepO (Own.ofRow (base := w.heap.size) (n := bl.length) (c := (bl.length + 3)) am (by simp) zx (by unfold maxLen; omega) zx) aC zx
    have t := (t.keep0 ay).keepT (Own.ofRow (base := w.heap.size) (n := bl.length) (c := (bl.length + 3)) am (by simp) zx (by unfold maxLen; omega) zx) aC zz
    have f := (f.keep0 ay).keepT (Own.ofRow (base := w.heap.size) (n := bl.length) (c := (bl.length + 3)) am (by simp) zx (by unfold maxLen; omega) zx) aC zz
    have M := (M.keep0 ay).keepO (Own.ofRow (base := w.heap.size) (n := bl.length) (c := (bl.length + 3)) am (by simp) zx (by unfold maxLen; omega) zx) aC zz
    have B := (B.keep0 ay).keepD aC aE
    have ax := ax.keepG (Gr.of aC) az.symm
    have hb := below_stepO hb (Own.ofRow (base := w.heap.size) (n := bl.length) (c := (bl.length + 3)) am (by simp) zx (by unfold maxLen; omega) zx) aC hb.size zx
    refine zB (W _ _ (zF fun _ W => zH (zG (zC U rfl ar) (op_eql (zA U rfl) rfl (fun am => ?_) (fun am => ?_)))))
    ·
     refine zG (zA U rfl) (zS (j := 2) (dj := 115) (b := true) rfl rfl rfl (zA U rfl) (zG (zC U rfl au) (zc (zA U rfl) (zA U rfl) (zB (W _ _ (wp_cond_split (zA U rfl) (fun av => ?_) (fun av => ?_)))))))
     ·
      have av := of_decide_eq_true av
      refine zH ?_
      have au := (hp.mem hS.up).1 av
      refine zG (zC U rfl ak) (zG (zC U rfl ai) (zG (zC U rfl al) (op_str_of (bl := bl) Try.underlying22 Try.underlying5 Try.underlying9 (zA U rfl) B.rdw (op_index_own (i := j) slt63 (zA U rfl) f (zA U rfl) zx zx ?_))))
      intro az ay aC aw
      have aw : AtV vx (j) az ay := by simpa using aw
      have ay := f
      refine op_store_own (vs := [(.string (bs bl))]) size9 (zA U rfl) (zA U rfl) rfl rfl rfl ay aw (by rw [ay.1]; simp only [List.length_cons, List.length_nil]; omega) ?_
      intro aC az aw
      have := aw.size
      have hro := hro.keepO ay aw zx
      have t := t.keepT ay aw zz
      have M := M.keepO ay aw zz
      have ax := ax.keepG (Gr.of aw) (ax.notOwn ay zz zz zz).symm
      have hb := below_stepO hb ay aw hb.size zx
      have az : Own aC w.heap.size 9 1 vx X.length (((X.set j bl)).map sv) := by exact az.cast (by simp) (set_map9 sv zx)
      refine zB (I _ _ ?_)
      exact ac _ _ _ U ao ⟨putR R ((ops.getD i OH0).z) bl, L, (X.set j bl), m + 1, aB, vl, vx, (zL U rfl ap), (zL U rfl aj), (zL U rfl an), (zL U rfl ah), (zL U rfl aq), (zL U rfl ak), (by rw [putR_ok am]; exact hS.old J.nodup au.1 au.2), zx, hb, zx, hro, M, (t.cast (by first | rfl | (simp only [List.length_append, List.length_cons, List.length_nil, List.length_set] <;> omega)) rfl), (az.cast (by first | rfl | (simp only [List.length_append, List.length_cons, List.length_nil, List.length_set] <;> omega)) rfl), ax⟩
     have av := of_decide_eq_false av
     refine zF fun _ W => zH (zG (zC U rfl ar) (op_eql (zA U rfl) rfl (fun aw => ?_) (fun aw => ?_)))
     ·
      refine zB (W _ _ (wp_cond_true (zA U rfl) (seq_join1 (N := 210) (fun az_ w' => ∃ (ay : Value), (Sl az_ 0 vo) ∧ (Sl az_ 3 (ptr s 0)) ∧ (Sl az_ 5 vx) ∧ (Sl az_ 6 (.int .i64 ((i : Nat) : Int))) ∧ (Sl az_ 7 (ptr O 0)) ∧ (Sl az_ 8 (.int .i64 ((j : Nat) : Int))) ∧ (Sl az_ 10 Z) ∧ (Sl az_ 4 ay) ∧ (Below w.heap.size w w') ∧ (aD.heap.size ≤ w'.heap.size) ∧ (RdC w' 0 w.heap.size 4 vo ops.length (ops.flatMap cellsH)) ∧ (Own w' w.heap.size 9 1 vx X.length (X.map sv)) ∧ (Bx w' O 65 [(.int .i64 (ops.getD i OH0).k), (.int .i64 (ops.getD i OH0).s), (.int .u64 (ops.getD i OH0).z), (.int .u8 ((ops.getD i OH0).x.toNat : Int))]) ∧ (Own w' w.heap.size 5 1 Z bl.length (bl.map u8v)) ∧ (HeapR w' w.heap.size s (putR R ((ops.getD i OH0).z) bl) (m + 1) aB) ∧ (Own w' w.heap.size 57 1 ay (L.take j ++ [(ops.getD i OH0).z] ++ L.drop j).length ((L.take j ++ [(ops.getD i OH0).z] ++ L.drop j).map (Value.int .u64)))) (fun az => ?_) ?_)))
      ·
       refine zF fun _ W => ?_
       have aC : (ops.getD i OH0).z ∉ L := av
       have hple := hp.le
       have aD : (L.take j).length = j := by rw [List.length_take]; omega
       have aE : (L.drop j).length = L.length - j := List.length_drop
       obtain ⟨c1, K, aG, aF⟩ := t.cap
       refine reg_split (hd := [_, _, _, _, _, _, _, _, _, _, _, _, _]) (tl := _) 13 mixed zy rfl rfl (any_tree (φ := phiV [(fun _ => True), (fun uz => uz = vl), (fun uz => uz = (.int .i64 ((j : Nat) : Int))), (fun uz => uz = (hiV vl j)), (fun _ => True), (fun uz => uz = (ptr O 2)), (fun uz => uz = (.int .u64 (ops.getD i OH0).z)), (fun _ => True), (fun _ => True), (fun uz => uz = vl), (fun uz => uz = (.int .i64 ((j : Nat) : Int))), (fun uz => uz = (cutS 1 vl j)), (fun _ => True)]) (G := fun w' => Bx w' O 65 [(.int .i64 (ops.getD i OH0).k), (.int .i64 (ops.getD i OH0).s), (.int .u64 (ops.getD i OH0).z), (.int .u8 ((ops.getD i OH0).x.toNat : Int))]) [0, 4, 7, 8, 12] zy zy zy zy zy U (fun p w2 E h => h.keep0 E) M (ObRs9.pass rfl (ObRs9.cons ?_ (ObRs9.cons ?_ (ObRs9.cons ?_ (ObRs9.pass rfl (ObRs9.cons ?_ (ObRs9.cons ?_ (ObRs9.pass rfl (ObRs9.pass rfl (ObRs9.cons ?_ (ObRs9.cons ?_ (ObRs9.cons ?_ (ObRs9.pass rfl (ObRs9.nil)))))))))))))) (by simp only [putsL_defers]) ?_)
       ·
        intro eA aA wA hNA hGA hbsA hdpA
        have aH := (hbsA 4 rfl).trans (zL U rfl aq)
        refine zG (zC hNA rfl aH) ?_
        exact obT_end rfl rfl
       ·
        intro eA aA wA hNA hGA hbsA hdpA
        have aI := (hbsA 8 rfl).trans (zL U rfl ai)
        refine zG (zC hNA rfl aI) ?_
        exact obT_end rfl rfl
       ·
        intro eA aA wA hNA hGA hbsA hdpA
        have aJ : Sl aA 126 vl := (hdpA 1 _ 126 zy rfl rfl).2 rfl
        have aK : Sl aA 127 (.int .i64 ((j : Nat) : Int)) := (hdpA 2 _ 127 zy rfl rfl).2 rfl
        refine op_slice_hiC (m := j) slt62 (zC hNA rfl aJ) aF (zC hNA rfl aK) zx zx ?_
        exact obT_end rfl rfl
       ·
        intro eA aA wA hNA hGA hbsA hdpA
        have aJ := (hbsA 7 rfl).trans (zL U rfl ah)
        refine zM fld65_2 (zC hNA rfl aJ) ?_
        exact obT_end rfl rfl
       ·
        intro eA aA wA hNA hGA hbsA hdpA
        have aJ : Sl aA 130 (ptr O 2) := (hdpA 5 _ 130 zy rfl rfl).2 rfl
        refine zN one57 (zC hNA rfl aJ) (hGA.cell rfl) ?_
        exact obT_end rfl rfl
       ·
        intro eA aA wA hNA hGA hbsA hdpA
        have aH := (hbsA 4 rfl).trans (zL U rfl aq)
        refine zG (zC hNA rfl aH) ?_
        exact obT_end rfl rfl
       ·
        intro eA aA wA hNA hGA hbsA hdpA
        have aI := (hbsA 8 rfl).trans (zL U rfl ai)
        refine zG (zC hNA rfl aI) ?_
        exact obT_end rfl rfl
       ·
        intro eA aA wA hNA hGA hbsA hdpA
        have aJ : Sl aA 134 vl := (hdpA 9 _ 134 zy rfl rfl).2 rfl
        have aK : Sl aA 135 (.int .i64 ((j : Nat) : Int)) := (hdpA 10 _ 135 zy rfl rfl).2 rfl
        refine op_slice_cutS (k := j) slt62 (zC hNA rfl aJ) t (zC hNA rfl aK) zx zx ?_
        exact obT_end rfl rfl
       refine kt_step (rs := [0, 7]) zy (more_mem ?_ ?_)
       ·
        intro aO aJ _ aL aN aK aM o_ ho_; obtain rfl := zE ho_
        obtain ⟨hb, _⟩ := yE hb aJ
        have t := t.keep0 aJ
        have ax := ax.kz aJ
        refine op_bslice (e := 57) (pv := []) (cs := []) trivial zy ?_
        intro aP aM aN aO aL aK
        have aN : ¬ aB aM := fun hf => by have := (ax.lt _ hf).2; omega
        have aO : vl.ownBlock ≠ some aM := fun hh => by have := (t.lt _ hh).2; omega
        obtain ⟨hb, _⟩ := yE hb aK
        have hro := (hro.keep0 aJ).keep0 aK
        have t := t.keep0 aK
        have f := (f.keep0 aJ).keep0 aK
        have M := (M.keep0 aJ).keep0 aK
        have B := (B.keep0 aJ).keep0 aK
        have ax := ax.kz aK
        refine kt_end rfl M (kt_step (rs := [4, 7]) zy (more_mem ?_ ?_))
        ·
         intro aS aJ _ aP aK aR aQ o_ ho_; obtain rfl := zE ho_
         obtain ⟨hb, _⟩ := yE hb aJ
         have t := t.keep0 aJ
         have ax := ax.kz aJ
         have aL := aL.keep0 aJ
         have aR : Sl aP 125 (.slice (some ⟨aM, 0, none⟩) 0 0) := (zE ((aQ 0 _ 125 zy rfl rfl).1 rfl)).symm
         have aS : Sl aP 128 (hiV vl j) := (aQ 3 _ 128 zy rfl rfl).2 rfl
         have aP := (Own.ofBx (base := w.heap.size) (sz := 1) (n := 0) aL rfl zz zx)
         refine op_append slt62 (zC aK rfl aR) aP (zC aK rfl aS) (Src.ofRd Try.underlying62 zz ((t.hiCut (k := j) zx).cast (n' := (L.take j).length) (cs' := (L.take j).map (Value.int .u64)) (by rw [List.length_take]; omega) (by rw [Nat.mul_one, List.map_take])).rdw (one_u64 _)) (by unfold maxLen; omega) zx hb.size ?_
         intro aR aT aQ aK aS
         have aU : DJ vl (.slice (some ⟨aM, 0, none⟩) 0 0) := fun k hk hg => by simp [Value.ownBlock] at hg; subst hg; exact aO hk
         have aV : DJ vl aR := DJ.step aS (fun k hk => (t.lt k hk).2) aU
         have aW : Dj aB (Bl aR) := Dj.step aS (fun k hk => (ax.lt k hk).2) (Dj.one aN)
         have := aK.size
         have M := (M.keep0 aJ).keep aK (by simp [Value.ownBlock]; try omega)
         have hb := below_stepO hb aP aK hb.size zx
         have aQ : Own aT w.heap.size 57 1 aR (0 + (L.take j).length) (((L.take j)).map (Value.int .u64)) := by simpa [u8v, sv] using aQ
         refine kt_end rfl M (kt_step (rs := [7]) zy (one_mem ?_))
         intro a0 aS _ aT aY aZ aX o_ ho_; obtain rfl := zE ho_
         obtain ⟨hb, _⟩ := yE hb aS
         have ax := (ax.keepG (Gr.of aK) (Dj.one aN)).kz aS
         have aZ : Sl aT 131 (.int .u64 (ops.getD i OH0).z) := (aX 6 _ 131 zy rfl rfl).2 rfl
         refine op_bslice (e := 57) (pv := [(0, (.int .u64 (ops.getD i OH0).z))]) (cs := [(.int .u64 (ops.getD i OH0).z)]) ⟨rfl, (zC aY rfl aZ), trivial⟩ zy ?_
         intro a1 aY aZ a0 aX aT
         obtain ⟨hb, _⟩ := yE hb aT
         have M := (M.keep0 aS).keep0 aT
         have ax := ax.kz aT
         refine kt_end rfl M (kt_step (rs := [8]) zy (one_mem ?_))
         intro a4 aZ _ a1 a2 a3 a0 o_ ho_; obtain rfl := zE ho_
         obtain ⟨hb, _⟩ := yE hb aZ
         have ax := ax.kz aZ
         have aQ := ((aQ.keep0 aS).keep0 aT).keep0 aZ
         have aX := aX.keep0 aZ
         have a3 : Sl a1 129 aR := (zE ((a0 4 _ 129 zy rfl rfl).1 rfl)).symm
         have aR : Sl a1 132 (.slice (some ⟨aY, 0, none⟩) 1 1) := (zE ((a0 7 _ 132 zy rfl rfl).1 rfl)).symm
         have aY := aQ
         refine op_append slt62 (zC a2 rfl a3) aY (zC a2 rfl aR) (Src.ofRd Try.underlying62 zz (RdC.ofBx (sz := 1) (n := 1) aX rfl zz) (by simp [Value.oneCell', u8v])) (by unfold maxLen; omega) zx hb.size ?_
         intro aX a0 aR aQ a1
         have a2 : Dj aB (Bl aX) := Dj.step a1 (fun k hk => (ax.lt k hk).2) aW
         have := aQ.size
         have M := (M.keep0 aZ).keepO aY aQ zz
         have hb := below_stepO hb aY aQ hb.size zx
         have aR : Own a0 w.heap.size 57 1 aX ((0 + (L.take j).length) + 1) ((((L.take j) ++ [(ops.getD i OH0).z])).map (Value.int .u64)) := by simpa [u8v, sv] using aR
         refine kt_end rfl M (kt_step (rs := [12]) zy (one_mem ?_))
         intro a6 a0 _ a4 a3 a5 a1 o_ ho_; obtain rfl := zE ho_
         obtain ⟨hb, _⟩ := yE hb a0
         have t := (((((t.keepD aK aU).keep0 aS).keep0 aT).keep0 aZ).keepD aQ aV).keep0 a0
         have aR := aR.keep0 a0
         have aU : Sl a4 133 aX := (zE ((a1 8 _ 133 zy rfl rfl).1 rfl)).symm
         have aV : Sl a4 136 (cutS 1 vl j) := (a1 11 _ 136 zy rfl rfl).2 rfl
         have aX := aR
         refine op_append slt62 (zC a3 rfl aU) aX (zC a3 rfl aV) (Src.ofRd Try.underlying62 zz ((t.cutO (k := j) zx).cast (n' := (L.drop j).length) (cs' := (L.drop j).map (Value.int .u64)) (by simp) (by rw [Nat.mul_one, List.map_drop])).rdw (one_u64 _)) (by unfold maxLen; omega) zx hb.size ?_
         intro aV a1 aU aR a3
         have := aR.size
         have M := (M.keep0 a0).keepO aX aR zz
         have ax := ((ax.keepG (Gr.of aQ) aW).kz a0).keepG (Gr.of aR) a2
         have hb := below_stepO hb aX aR hb.size zx
         have aU : Own a1 w.heap.size 57 1 aV (((0 + (L.take j).length) + 1) + (L.drop j).length) (((((L.take j) ++ [(ops.getD i OH0).z]) ++ (L.drop j))).map (Value.int .u64)) := by simpa [u8v, sv] using aU
         refine kt_end rfl M ?_
         intro a6 a1 a5 aW a3 a2 a4
         have a3 := a3.trans ((by simp only [putsL_defers] : _ = _).trans ao)
         obtain ⟨hb, _⟩ := yE hb a1
         have hro := ((((((((hro.keep0 aJ).keepO aP aK zx).keep0 aS).keep0 aT).keep0 aZ).keepO aY aQ zx).keep0 a0).keepO aX aR zx).keep0 a1
         have f := ((((((((f.keep0 aJ).keepT aP aK zz).keep0 aS).keep0 aT).keep0 aZ).keepT aY aQ zz).keep0 a0).keepT aX aR zz).keep0 a1
         have M := M.keep0 a1
         have B := ((((((((B.keep0 aJ).keepT aP aK zz).keep0 aS).keep0 aT).keep0 aZ).keepT aY aQ zz).keep0 a0).keepT aX aR zz).keep0 a1
         have ax := ax.kz a1
         have aU := aU.keep0 a1
         have aJ := (a2 0 rfl).trans (zL U rfl ap)
         have aK := (a2 3 rfl).trans (zL U rfl aj)
         have aP := (a2 5 rfl).trans (zL U rfl ak)
         have aQ := (a2 6 rfl).trans (zL U rfl an)
         have aR := (a2 7 rfl).trans (zL U rfl ah)
         have aS := (a2 8 rfl).trans (zL U rfl ai)
         have aT := (a2 10 rfl).trans (zL U rfl al)
         have aX : Sl a5 137 aV := (zE ((a4 12 _ 137 rfl rfl).1 rfl)).symm
         refine split_end (from_seq (tl := [_]) zz zy rfl (zD (zC aW rfl aX) (zB (W _ _ ?_))))
         exact az _ _ _ aW a3 ⟨aV, (zL aW rfl aJ), (zL aW rfl aK), (zL aW rfl aP), (zL aW rfl aQ), (zL aW rfl aR), (zL aW rfl aS), (zL aW rfl aT), (zU aW rfl), hb, zx, hro, f, M, B, ax, (aU.cast (by first | rfl | (simp only [List.length_append, List.length_cons, List.length_nil, List.length_set] <;> omega)) rfl)⟩
        refine one_mem ?_
        intro aR aJ _ aP aK aS aQ o_ ho_; obtain rfl := zE ho_
        obtain ⟨hb, _⟩ := yE hb aJ
        have ax := ax.kz aJ
        have aR : Sl aP 131 (.int .u64 (ops.getD i OH0).z) := (aQ 6 _ 131 zy rfl rfl).2 rfl
        refine op_bslice (e := 57) (pv := [(0, (.int .u64 (ops.getD i OH0).z))]) (cs := [(.int .u64 (ops.getD i OH0).z)]) ⟨rfl, (zC aK rfl aR), trivial⟩ zy ?_
        intro aR aQ aS aT aP aK
        obtain ⟨hb, _⟩ := yE hb aK
        have M := (M.keep0 aJ).keep0 aK
        have ax := ax.kz aK
        refine kt_end rfl M (kt_step (rs := [4]) zy (one_mem ?_))
        intro aW aR _ aU aT aV aS o_ ho_; obtain rfl := zE ho_
        obtain ⟨hb, _⟩ := yE hb aR
        have t := ((t.keep0 aJ).keep0 aK).keep0 aR
        have ax := ax.kz aR
        have aL := ((aL.keep0 aJ).keep0 aK).keep0 aR
        have aV : Sl aU 125 (.slice (some ⟨aM, 0, none⟩) 0 0) := (zE ((aS 0 _ 125 zy rfl rfl).1 rfl)).symm
        have aW : Sl aU 128 (hiV vl j) := (aS 3 _ 128 zy rfl rfl).2 rfl
        have aS := (Own.ofBx (base := w.heap.size) (sz := 1) (n := 0) aL rfl zz zx)
        refine op_append slt62 (zC aT rfl aV) aS (zC aT rfl aW) (Src.ofRd Try.underlying62 zz ((t.hiCut (k := j) zx).cast (n' := (L.take j).length) (cs' := (L.take j).map (Value.int .u64)) (by rw [List.length_take]; omega) (by rw [Nat.mul_one, List.map_take])).rdw (one_u64 _)) (by unfold maxLen; omega) zx hb.size ?_
        intro aU aW aT aL aV
        have aX : DJ vl (.slice (some ⟨aM, 0, none⟩) 0 0) := fun k hk hg => by simp [Value.ownBlock] at hg; subst hg; exact aO hk
        have aM : DJ vl aU := DJ.step aV (fun k hk => (t.lt k hk).2) aX
        have aO : Dj aB (Bl aU) := Dj.step aV (fun k hk => (ax.lt k hk).2) (Dj.one aN)
        have := aL.size
        have M := (M.keep0 aR).keep aL (by simp [Value.ownBlock]; try omega)
        have hb := below_stepO hb aS aL hb.size zx
        have aT : Own aW w.heap.size 57 1 aU (0 + (L.take j).length) (((L.take j)).map (Value.int .u64)) := by simpa [u8v, sv] using aT
        refine kt_end rfl M (kt_step (rs := [8]) zy (one_mem ?_))
        intro a1 aV _ aY aZ a0 aW o_ ho_; obtain rfl := zE ho_
        obtain ⟨hb, _⟩ := yE hb aV
        have ax := (ax.keepG (Gr.of aL) (Dj.one aN)).kz aV
        have aP := ((aP.keep0 aR).keep aL (by simp [Value.ownBlock]; try omega)).keep0 aV
        have aT := aT.keep0 aV
        have aN : Sl aY 129 aU := (zE ((aW 4 _ 129 zy rfl rfl).1 rfl)).symm
        have aU : Sl aY 132 (.slice (some ⟨aQ, 0, none⟩) 1 1) := (zE ((aW 7 _ 132 zy rfl rfl).1 rfl)).symm
        have aQ := aT
        refine op_append slt62 (zC aZ rfl aN) aQ (zC aZ rfl aU) (Src.ofRd Try.underlying62 zz (RdC.ofBx (sz := 1) (n := 1) aP rfl zz) (by simp [Value.oneCell', u8v])) (by unfold maxLen; omega) zx hb.size ?_
        intro aT aW aP aN aU
        have aY : Dj aB (Bl aT) := Dj.step aU (fun k hk => (ax.lt k hk).2) aO
        have := aN.size
        have M := (M.keep0 aV).keepO aQ aN zz
        have hb := below_stepO hb aQ aN hb.size zx
        have aP : Own aW w.heap.size 57 1 aT ((0 + (L.take j).length) + 1) ((((L.take j) ++ [(ops.getD i OH0).z])).map (Value.int .u64)) := by simpa [u8v, sv] using aP
        refine kt_end rfl M (kt_step (rs := [12]) zy (one_mem ?_))
        intro a2 aU _ a0 aW a1 aZ o_ ho_; obtain rfl := zE ho_
        obtain ⟨hb, _⟩ := yE hb aU
        have t := (((t.keepD aL aX).keep0 aV).keepD aN aM).keep0 aU
        have aP := aP.keep0 aU
        have aM : Sl a0 133 aT := (zE ((aZ 8 _ 133 zy rfl rfl).1 rfl)).symm
        have aT : Sl a0 136 (cutS 1 vl j) := (aZ 11 _ 136 zy rfl rfl).2 rfl
        have aX := aP
        refine op_append slt62 (zC aW rfl aM) aX (zC aW rfl aT) (Src.ofRd Try.underlying62 zz ((t.cutO (k := j) zx).cast (n' := (L.drop j).length) (cs' := (L.drop j).map (Value.int .u64)) (by simp) (by rw [Nat.mul_one, List.map_drop])).rdw (one_u64 _)) (by unfold maxLen; omega) zx hb.size ?_
        intro aT aW aP aM aZ
        have := aM.size
        have M := (M.keep0 aU).keepO aX aM zz
        have ax := ((ax.keepG (Gr.of aN) aO).kz aU).keepG (Gr.of aM) aY
        have hb := below_stepO hb aX aM hb.size zx
        have aP : Own aW w.heap.size 57 1 aT (((0 + (L.take j).length) + 1) + (L.drop j).length) (((((L.take j) ++ [(ops.getD i OH0).z]) ++ (L.drop j))).map (Value.int .u64)) := by simpa [u8v, sv] using aP
        refine kt_end rfl M ?_
        intro a2 aY a0 aO aZ aW a1
        have aZ := aZ.trans ((by simp only [putsL_defers] : _ = _).trans ao)
        obtain ⟨hb, _⟩ := yE hb aY
        have hro := ((((((((hro.keep0 aJ).keep0 aK).keep0 aR).keepO aS aL zx).keep0 aV).keepO aQ aN zx).keep0 aU).keepO aX aM zx).keep0 aY
        have f := ((((((((f.keep0 aJ).keep0 aK).keep0 aR).keepT aS aL zz).keep0 aV).keepT aQ aN zz).keep0 aU).keepT aX aM zz).keep0 aY
        have M := M.keep0 aY
        have B := ((((((((B.keep0 aJ).keep0 aK).keep0 aR).keepT aS aL zz).keep0 aV).keepT aQ aN zz).keep0 aU).keepT aX aM zz).keep0 aY
        have ax := ax.kz aY
        have aP := aP.keep0 aY
        have aJ := (aW 0 rfl).trans (zL U rfl ap)
        have aK := (aW 3 rfl).trans (zL U rfl aj)
        have aL := (aW 5 rfl).trans (zL U rfl ak)
        have aM := (aW 6 rfl).trans (zL U rfl an)
        have aN := (aW 7 rfl).trans (zL U rfl ah)
        have aQ := (aW 8 rfl).trans (zL U rfl ai)
        have aR := (aW 10 rfl).trans (zL U rfl al)
        have aS : Sl a0 137 aT := (zE ((a1 12 _ 137 rfl rfl).1 rfl)).symm
        refine split_end (from_seq (tl := [_]) zz zy rfl (zD (zC aO rfl aS) (zB (W _ _ ?_))))
        exact az _ _ _ aO aZ ⟨aT, (zL aO rfl aJ), (zL aO rfl aK), (zL aO rfl aL), (zL aO rfl aM), (zL aO rfl aN), (zL aO rfl aQ), (zL aO rfl aR), (zU aO rfl), hb, zx, hro, f, M, B, ax, (aP.cast (by first | rfl | (simp only [List.length_append, List.length_cons, List.length_nil, List.length_set] <;> omega)) rfl)⟩
       refine one_mem ?_
       intro aO aJ _ aL aK aN aM o_ ho_; obtain rfl := zE ho_
       obtain ⟨hb, _⟩ := yE hb aJ
       have ax := ax.kz aJ
       have aN : Sl aL 131 (.int .u64 (ops.getD i OH0).z) := (aM 6 _ 131 zy rfl rfl).2 rfl
       refine op_bslice (e := 57) (pv := [(0, (.int .u64 (ops.getD i OH0).z))]) (cs := [(.int .u64 (ops.getD i OH0).z)]) ⟨rfl, (zC aK rfl aN), trivial⟩ zy ?_
       intro aO aM aP aN aL aK
       obtain ⟨hb, _⟩ := yE hb aK
       have M := (M.keep0 aJ).keep0 aK
       have ax := ax.kz aK
       refine kt_end rfl M (kt_step (rs := [0]) zy (one_mem ?_))
       intro aS aN _ aR aP aQ aO o_ ho_; obtain rfl := zE ho_
       obtain ⟨hb, _⟩ := yE hb aN
       have t := ((t.keep0 aJ).keep0 aK).keep0 aN
       have ax := ax.kz aN
       refine op_bslice (e := 57) (pv := []) (cs := []) trivial zy ?_
       intro aT aP aS aR aQ aO
       have aR : ¬ aB aP := fun hf => by have := (ax.lt _ hf).2; omega
       have aS : vl.ownBlock ≠ some aP := fun hh => by have := (t.lt _ hh).2; omega
       obtain ⟨hb, _⟩ := yE hb aO
       have M := (M.keep0 aN).keep0 aO
       have ax := ax.kz aO
       refine kt_end rfl M (kt_step (rs := [4]) zy (one_mem ?_))
       intro aX aT _ aU aV aY aW o_ ho_; obtain rfl := zE ho_
       obtain ⟨hb, _⟩ := yE hb aT
       have t := (t.keep0 aO).keep0 aT
       have ax := ax.kz aT
       have aQ := aQ.keep0 aT
       have aX : Sl aU 125 (.slice (some ⟨aP, 0, none⟩) 0 0) := (zE ((aW 0 _ 125 zy rfl rfl).1 rfl)).symm
       have aY : Sl aU 128 (hiV vl j) := (aW 3 _ 128 zy rfl rfl).2 rfl
       have aU := (Own.ofBx (base := w.heap.size) (sz := 1) (n := 0) aQ rfl zz zx)
       refine op_append slt62 (zC aV rfl aX) aU (zC aV rfl aY) (Src.ofRd Try.underlying62 zz ((t.hiCut (k := j) zx).cast (n' := (L.take j).length) (cs' := (L.take j).map (Value.int .u64)) (by rw [List.length_take]; omega) (by rw [Nat.mul_one, List.map_take])).rdw (one_u64 _)) (by unfold maxLen; omega) zx hb.size ?_
       intro aW aY aV aQ aX
       have aZ : DJ vl (.slice (some ⟨aP, 0, none⟩) 0 0) := fun k hk hg => by simp [Value.ownBlock] at hg; subst hg; exact aS hk
       have aP : DJ vl aW := DJ.step aX (fun k hk => (t.lt k hk).2) aZ
       have aS : Dj aB (Bl aW) := Dj.step aX (fun k hk => (ax.lt k hk).2) (Dj.one aR)
       have := aQ.size
       have M := (M.keep0 aT).keep aQ (by simp [Value.ownBlock]; try omega)
       have hb := below_stepO hb aU aQ hb.size zx
       have aV : Own aY w.heap.size 57 1 aW (0 + (L.take j).length) (((L.take j)).map (Value.int .u64)) := by simpa [u8v, sv] using aV
       refine kt_end rfl M (kt_step (rs := [8]) zy (one_mem ?_))
       intro a3 aX _ a0 a1 a2 aY o_ ho_; obtain rfl := zE ho_
       obtain ⟨hb, _⟩ := yE hb aX
       have ax := (ax.keepG (Gr.of aQ) (Dj.one aR)).kz aX
       have aL := ((((aL.keep0 aN).keep0 aO).keep0 aT).keep aQ (by simp [Value.ownBlock]; try omega)).keep0 aX
       have aV := aV.keep0 aX
       have aR : Sl a0 129 aW := (zE ((aY 4 _ 129 zy rfl rfl).1 rfl)).symm
       have aW : Sl a0 132 (.slice (some ⟨aM, 0, none⟩) 1 1) := (zE ((aY 7 _ 132 zy rfl rfl).1 rfl)).symm
       have aM := aV
       refine op_append slt62 (zC a1 rfl aR) aM (zC a1 rfl aW) (Src.ofRd Try.underlying62 zz (RdC.ofBx (sz := 1) (n := 1) aL rfl zz) (by simp [Value.oneCell', u8v])) (by unfold maxLen; omega) zx hb.size ?_
       intro aV aY aR aL aW
       have a0 : Dj aB (Bl aV) := Dj.step aW (fun k hk => (ax.lt k hk).2) aS
       have := aL.size
       have M := (M.keep0 aX).keepO aM aL zz
       have hb := below_stepO hb aM aL hb.size zx
       have aR : Own aY w.heap.size 57 1 aV ((0 + (L.take j).length) + 1) ((((L.take j) ++ [(ops.getD i OH0).z])).map (Value.int .u64)) := by simpa [u8v, sv] using aR
       refine kt_end rfl M (kt_step (rs := [12]) zy (one_mem ?_))
       intro a4 aW _ a1 aY a3 a2 o_ ho_; obtain rfl := zE ho_
       obtain ⟨hb, _⟩ := yE hb aW
       have t := (((t.keepD aQ aZ).keep0 aX).keepD aL aP).keep0 aW
       have aR := aR.keep0 aW
       have aP : Sl a1 133 aV := (zE ((a2 8 _ 133 zy rfl rfl).1 rfl)).symm
       have aV : Sl a1 136 (cutS 1 vl j) := (a2 11 _ 136 zy rfl rfl).2 rfl
       have aZ := aR
       refine op_append slt62 (zC aY rfl aP) aZ (zC aY rfl aV) (Src.ofRd Try.underlying62 zz ((t.cutO (k := j) zx).cast (n' := (L.drop j).length) (cs' := (L.drop j).map (Value.int .u64)) (by simp) (by rw [Nat.mul_one, List.map_drop])).rdw (one_u64 _)) (by unfold maxLen; omega) zx hb.size ?_
       intro aV aY aR aP a1
       have := aP.size
       have M := (M.keep0 aW).keepO aZ aP zz
       have ax := ((ax.keepG (Gr.of aL) aS).kz aW).keepG (Gr.of aP) a0
       have hb := below_stepO hb aZ aP hb.size zx
       have aR : Own aY w.heap.size 57 1 aV (((0 + (L.take j).length) + 1) + (L.drop j).length) (((((L.take j) ++ [(ops.getD i OH0).z]) ++ (L.drop j))).map (Value.int .u64)) := by simpa [u8v, sv] using aR
       refine kt_end rfl M ?_
       intro a4 aY a2 aS a1 a0 a3
       have a1 := a1.trans ((by simp only [putsL_defers] : _ = _).trans ao)
       obtain ⟨hb, _⟩ := yE hb aY
       have hro := ((((((((((hro.keep0 aJ).keep0 aK).keep0 aN).keep0 aO).keep0 aT).keepO aU aQ zx).keep0 aX).keepO aM aL zx).keep0 aW).keepO aZ aP zx).keep0 aY
       have f := ((((((((((f.keep0 aJ).keep0 aK).keep0 aN).keep0 aO).keep0 aT).keepT aU aQ zz).keep0 aX).keepT aM aL zz).keep0 aW).keepT aZ aP zz).keep0 aY
       have M := M.keep0 aY
       have B := ((((((((((B.keep0 aJ).keep0 aK).keep0 aN).keep0 aO).keep0 aT).keepT aU aQ zz).keep0 aX).keepT aM aL zz).keep0 aW).keepT aZ aP zz).keep0 aY
       have ax := ax.kz aY
       have aR := aR.keep0 aY
       have aJ := (a0 0 rfl).trans (zL U rfl ap)
       have aK := (a0 3 rfl).trans (zL U rfl aj)
       have aL := (a0 5 rfl).trans (zL U rfl ak)
       have aM := (a0 6 rfl).trans (zL U rfl an)
       have aN := (a0 7 rfl).trans (zL U rfl ah)
       have aO := (a0 8 rfl).trans (zL U rfl ai)
       have ai := (a0 10 rfl).trans (zL U rfl al)
       have al : Sl a2 137 aV := (zE ((a3 12 _ 137 rfl rfl).1 rfl)).symm
       refine split_end (from_seq (tl := [_]) zz zy rfl (zD (zC aS rfl al) (zB (W _ _ ?_))))
       exact az _ _ _ aS a1 ⟨aV, (zL aS rfl aJ), (zL aS rfl aK), (zL aS rfl aL), (zL aS rfl aM), (zL aS rfl aN), (zL aS rfl aO), (zL aS rfl ai), (zU aS rfl), hb, zx, hro, f, M, B, ax, (aR.cast (by first | rfl | (simp only [List.length_append, List.length_cons, List.length_nil, List.length_set] <;> omega)) rfl)⟩
      rintro aR aS ai aK ⟨ay, aM, aN, aO, aJ, aL, aP, aQ, az, hb, aT, hro, f, M, B, ax, al⟩
      have := hb.size
      have aC : (ops.getD i OH0).z ∉ L := av
      have hple := hp.le
      have av : (X.take j).length = j := by rw [List.length_take]; omega
      have aR : (X.drop j).length = X.length - j := List.length_drop
      obtain ⟨c2, aT, aU, aS⟩ := f.cap
      refine reg_split (hd := [_, _, _, _, _, _, _, _, _, _, _, _, _]) (tl := _) 13 mixed zy rfl rfl (any_tree (φ := phiV [(fun _ => True), (fun uz => uz = vx), (fun uz => uz = (.int .i64 ((j : Nat) : Int))), (fun uz => uz = (hiV vx j)), (fun _ => True), (fun uz => uz = Z), (fun uz => uz = (.string (bs bl))), (fun _ => True), (fun _ => True), (fun uz => uz = vx), (fun uz => uz = (.int .i64 ((j : Nat) : Int))), (fun uz => uz = (cutS 1 vx j)), (fun _ => True)]) (G := fun w' => Own w' w.heap.size 5 1 Z bl.length (bl.map u8v)) [0, 4, 7, 8, 12] zy zy zy zy zy ai (fun p w2 E h => h.keep0 E) B (ObRs9.pass rfl (ObRs9.cons ?_ (ObRs9.cons ?_ (ObRs9.cons ?_ (ObRs9.pass rfl (ObRs9.cons ?_ (ObRs9.cons ?_ (ObRs9.pass rfl (ObRs9.pass rfl (ObRs9.cons ?_ (ObRs9.cons ?_ (ObRs9.cons ?_ (ObRs9.pass rfl (ObRs9.nil)))))))))))))) (by simp only [putsL_defers]) ?_)
      ·
       intro eA aA wA hNA hGA hbsA hdpA
       have aV := (hbsA 5 rfl).trans (zL ai rfl aO)
       refine zG (zC hNA rfl aV) ?_
       exact obT_end rfl rfl
      ·
       intro eA aA wA hNA hGA hbsA hdpA
       have aI := (hbsA 8 rfl).trans (zL ai rfl aP)
       refine zG (zC hNA rfl aI) ?_
       exact obT_end rfl rfl
      ·
       intro eA aA wA hNA hGA hbsA hdpA
       have aW : Sl aA 139 vx := (hdpA 1 _ 139 zy rfl rfl).2 rfl
       have aX : Sl aA 140 (.int .i64 ((j : Nat) : Int)) := (hdpA 2 _ 140 zy rfl rfl).2 rfl
       refine op_slice_hiC (m := j) slt63 (zC hNA rfl aW) aS (zC hNA rfl aX) zx zx ?_
       exact obT_end rfl rfl
      ·
       intro eA aA wA hNA hGA hbsA hdpA
       have aW := (hbsA 10 rfl).trans (zL ai rfl aQ)
       refine zG (zC hNA rfl aW) ?_
       exact obT_end rfl rfl
      ·
       intro eA aA wA hNA hGA hbsA hdpA
       have aQ : Sl aA 143 Z := (hdpA 5 _ 143 zy rfl rfl).2 rfl
       refine op_str_of (bl := bl) Try.underlying22 Try.underlying5 Try.underlying9 (zC hNA rfl aQ) hGA.rdw ?_
       exact obT_end rfl rfl
      ·
       intro eA aA wA hNA hGA hbsA hdpA
       have aV := (hbsA 5 rfl).trans (zL ai rfl aO)
       refine zG (zC hNA rfl aV) ?_
       exact obT_end rfl rfl
      ·
       intro eA aA wA hNA hGA hbsA hdpA
       have aI := (hbsA 8 rfl).trans (zL ai rfl aP)
       refine zG (zC hNA rfl aI) ?_
       exact obT_end rfl rfl
      ·
       intro eA aA wA hNA hGA hbsA hdpA
       have aO : Sl aA 147 vx := (hdpA 9 _ 147 zy rfl rfl).2 rfl
       have aP : Sl aA 148 (.int .i64 ((j : Nat) : Int)) := (hdpA 10 _ 148 zy rfl rfl).2 rfl
       refine op_slice_cutS (k := j) slt63 (zC hNA rfl aO) f (zC hNA rfl aP) zx zx ?_
       exact obT_end rfl rfl
      refine kt_step (rs := [0, 7]) zy (more_mem ?_ ?_)
      ·
       intro aP aO _ aW aY aQ aX o_ ho_; obtain rfl := zE ho_
       obtain ⟨hb, _⟩ := yE hb aO
       have f := f.keep0 aO
       have ax := ax.kz aO
       refine op_bslice (e := 9) (pv := []) (cs := []) trivial zy ?_
       intro aZ aW aY aX aQ aP
       have aX : ¬ aB aW := fun hf => by have := (ax.lt _ hf).2; omega
       have aY : vx.ownBlock ≠ some aW := fun hh => by have := (f.lt _ hh).2; omega
       obtain ⟨hb, _⟩ := yE hb aP
       have hro := (hro.keep0 aO).keep0 aP
       have f := f.keep0 aP
       have M := (M.keep0 aO).keep0 aP
       have B := (B.keep0 aO).keep0 aP
       have ax := ax.kz aP
       have al := (al.keep0 aO).keep0 aP
       refine kt_end rfl B (kt_step (rs := [4, 7]) zy (more_mem ?_ ?_))
       ·
        intro a1 aO _ aP a0 a2 aZ o_ ho_; obtain rfl := zE ho_
        obtain ⟨hb, _⟩ := yE hb aO
        have f := f.keep0 aO
        have ax := ax.kz aO
        have aQ := aQ.keep0 aO
        have a1 : Sl aP 138 (.slice (some ⟨aW, 0, none⟩) 0 0) := (zE ((aZ 0 _ 138 zy rfl rfl).1 rfl)).symm
        have a2 : Sl aP 141 (hiV vx j) := (aZ 3 _ 141 zy rfl rfl).2 rfl
        have aP := (Own.ofBx (base := w.heap.size) (sz := 1) (n := 0) aQ rfl zz zx)
        refine op_append slt63 (zC a0 rfl a1) aP (zC a0 rfl a2) (Src.ofRd Try.underlying63 zz ((f.hiCut (k := j) zx).cast (n' := (X.take j).length) (cs' := (X.take j).map sv) (by rw [List.length_take]; omega) (by rw [Nat.mul_one, List.map_take])).rdw (one_sv9 _)) (by unfold maxLen; omega) zx hb.size ?_
        intro a1 a3 a0 aZ a2
        have a4 : DJ vx (.slice (some ⟨aW, 0, none⟩) 0 0) := fun k hk hg => by simp [Value.ownBlock] at hg; subst hg; exact aY hk
        have a5 : DJ vx a1 := DJ.step a2 (fun k hk => (f.lt k hk).2) a4
        have a6 : Dj aB (Bl a1) := Dj.step a2 (fun k hk => (ax.lt k hk).2) (Dj.one aX)
        have := aZ.size
        have B := (B.keep0 aO).keepT aP aZ zz
        have hb := below_stepO hb aP aZ hb.size zx
        have a0 : Own a3 w.heap.size 9 1 a1 (0 + (X.take j).length) (((X.take j)).map sv) := by simpa [u8v, sv] using a0
        refine kt_end rfl B (kt_step (rs := [7]) zy (one_mem ?_))
        intro ba a2 _ a7 a8 a9 a3 o_ ho_; obtain rfl := zE ho_
        obtain ⟨hb, _⟩ := yE hb a2
        have ax := (ax.keepG (Gr.of aZ) (Dj.one aX)).kz a2
        have a9 : Sl a7 144 (.string (bs bl)) := (a3 6 _ 144 zy rfl rfl).2 rfl
        refine op_bslice (e := 9) (pv := [(0, (.string (bs bl)))]) (cs := [(.string (bs bl))]) ⟨rfl, (zC a8 rfl a9), trivial⟩ zy ?_
        intro ba a8 bb a9 a7 a3
        obtain ⟨hb, _⟩ := yE hb a3
        have B := (B.keep0 a2).keep0 a3
        have ax := ax.kz a3
        refine kt_end rfl B (kt_step (rs := [8]) zy (one_mem ?_))
        intro bd a9 _ bc bb be ba o_ ho_; obtain rfl := zE ho_
        obtain ⟨hb, _⟩ := yE hb a9
        have ax := ax.kz a9
        have a0 := ((a0.keep0 a2).keep0 a3).keep0 a9
        have a7 := a7.keep0 a9
        have bd : Sl bc 142 a1 := (zE ((ba 4 _ 142 zy rfl rfl).1 rfl)).symm
        have a1 : Sl bc 145 (.slice (some ⟨a8, 0, none⟩) 1 1) := (zE ((ba 7 _ 145 zy rfl rfl).1 rfl)).symm
        have a8 := a0
        refine op_append slt63 (zC bb rfl bd) a8 (zC bb rfl a1) (Src.ofRd Try.underlying63 zz (RdC.ofBx (sz := 1) (n := 1) a7 rfl zz) (by simp [Value.oneCell', u8v])) (by unfold maxLen; omega) zx hb.size ?_
        intro a7 ba a1 a0 bb
        have bc : Dj aB (Bl a7) := Dj.step bb (fun k hk => (ax.lt k hk).2) a6
        have := a0.size
        have B := (B.keep0 a9).keepT a8 a0 zz
        have hb := below_stepO hb a8 a0 hb.size zx
        have a1 : Own ba w.heap.size 9 1 a7 ((0 + (X.take j).length) + 1) ((((X.take j) ++ [bl])).map sv) := by simpa [u8v, sv] using a1
        refine kt_end rfl B (kt_step (rs := [12]) zy (one_mem ?_))
        intro bf ba _ bd bb bg be o_ ho_; obtain rfl := zE ho_
        obtain ⟨hb, _⟩ := yE hb ba
        have f := (((((f.keepD aZ a4).keep0 a2).keep0 a3).keep0 a9).keepD a0 a5).keep0 ba
        have a1 := a1.keep0 ba
        have a4 : Sl bd 146 a7 := (zE ((be 8 _ 146 zy rfl rfl).1 rfl)).symm
        have a5 : Sl bd 149 (cutS 1 vx j) := (be 11 _ 149 zy rfl rfl).2 rfl
        have a7 := a1
        refine op_append slt63 (zC bb rfl a4) a7 (zC bb rfl a5) (Src.ofRd Try.underlying63 zz ((f.cutO (k := j) zx).cast (n' := (X.drop j).length) (cs' := (X.drop j).map sv) (by simp) (by rw [Nat.mul_one, List.map_drop])).rdw (one_sv9 _)) (by unfold maxLen; omega) zx hb.size ?_
        intro a5 bb a4 a1 bd
        have := a1.size
        have B := (B.keep0 ba).keepT a7 a1 zz
        have ax := ((ax.keepG (Gr.of a0) a6).kz ba).keepG (Gr.of a1) bc
        have hb := below_stepO hb a7 a1 hb.size zx
        have a4 : Own bb w.heap.size 9 1 a5 (((0 + (X.take j).length) + 1) + (X.drop j).length) (((((X.take j) ++ [bl]) ++ (X.drop j))).map sv) := by simpa [u8v, sv] using a4
        refine kt_end rfl B ?_
        intro bg bb bf a6 bd bc be
        have bd := bd.trans ((by simp only [putsL_defers] : _ = _).trans aK)
        obtain ⟨hb, _⟩ := yE hb bb
        have hro := ((((((((hro.keep0 aO).keepO aP aZ zx).keep0 a2).keep0 a3).keep0 a9).keepO a8 a0 zx).keep0 ba).keepO a7 a1 zx).keep0 bb
        have M := ((((((((M.keep0 aO).keep aZ (by simp [Value.ownBlock]; try omega)).keep0 a2).keep0 a3).keep0 a9).keepO a8 a0 zz).keep0 ba).keepO a7 a1 zz).keep0 bb
        have ax := ax.kz bb
        have al := ((((((((al.keep0 aO).keepT aP aZ zz).keep0 a2).keep0 a3).keep0 a9).keepT a8 a0 zz).keep0 ba).keepT a7 a1 zz).keep0 bb
        have a4 := a4.keep0 bb
        have aO := (bc 0 rfl).trans (zL ai rfl aM)
        have aP := (bc 3 rfl).trans (zL ai rfl aN)
        have aZ := (bc 4 rfl).trans (zL ai rfl az)
        have a0 := (bc 6 rfl).trans (zL ai rfl aJ)
        have a1 := (bc 7 rfl).trans (zL ai rfl aL)
        have a2 : Sl bf 150 a5 := (zE ((be 12 _ 150 rfl rfl).1 rfl)).symm
        refine split_end (from_seq (tl := [_]) zz zy rfl (zD (zC a6 rfl a2) (zB (I _ _ ?_))))
        exact ac _ _ _ a6 bd ⟨putR R ((ops.getD i OH0).z) bl, (L.take j ++ [(ops.getD i OH0).z] ++ L.drop j), (((X.take j) ++ [bl]) ++ (X.drop j)), m + 1, aB, ay, a5, (zL a6 rfl aO), (zL a6 rfl aP), (zL a6 rfl a0), (zL a6 rfl a1), (zL a6 rfl aZ), (zU a6 rfl), (by rw [putR_ok aw]; exact hS.new J.nodup hp aC hok.z), zx, hb, zx, hro, M, (al.cast (by first | rfl | (simp only [List.length_append, List.length_cons, List.length_nil, List.length_set] <;> omega)) rfl), (a4.cast (by first | rfl | (simp only [List.length_append, List.length_cons, List.length_nil, List.length_set] <;> omega)) rfl), ax⟩
       refine one_mem ?_
       intro a1 aO _ aZ aP a2 a0 o_ ho_; obtain rfl := zE ho_
       obtain ⟨hb, _⟩ := yE hb aO
       have ax := ax.kz aO
       have a1 : Sl aZ 144 (.string (bs bl)) := (a0 6 _ 144 zy rfl rfl).2 rfl
       refine op_bslice (e := 9) (pv := [(0, (.string (bs bl)))]) (cs := [(.string (bs bl))]) ⟨rfl, (zC aP rfl a1), trivial⟩ zy ?_
       intro a1 a0 a2 a3 aZ aP
       obtain ⟨hb, _⟩ := yE hb aP
       have B := (B.keep0 aO).keep0 aP
       have ax := ax.kz aP
       refine kt_end rfl B (kt_step (rs := [4]) zy (one_mem ?_))
       intro a5 a1 _ a3 a2 a6 a4 o_ ho_; obtain rfl := zE ho_
       obtain ⟨hb, _⟩ := yE hb a1
       have f := ((f.keep0 aO).keep0 aP).keep0 a1
       have ax := ax.kz a1
       have aQ := ((aQ.keep0 aO).keep0 aP).keep0 a1
       have a5 : Sl a3 138 (.slice (some ⟨aW, 0, none⟩) 0 0) := (zE ((a4 0 _ 138 zy rfl rfl).1 rfl)).symm
       have a6 : Sl a3 141 (hiV vx j) := (a4 3 _ 141 zy rfl rfl).2 rfl
       have a3 := (Own.ofBx (base := w.heap.size) (sz := 1) (n := 0) aQ rfl zz zx)
       refine op_append slt63 (zC a2 rfl a5) a3 (zC a2 rfl a6) (Src.ofRd Try.underlying63 zz ((f.hiCut (k := j) zx).cast (n' := (X.take j).length) (cs' := (X.take j).map sv) (by rw [List.length_take]; omega) (by rw [Nat.mul_one, List.map_take])).rdw (one_sv9 _)) (by unfold maxLen; omega) zx hb.size ?_
       intro a4 a6 a2 aQ a5
       have a7 : DJ vx (.slice (some ⟨aW, 0, none⟩) 0 0) := fun k hk hg => by simp [Value.ownBlock] at hg; subst hg; exact aY hk
       have aW : DJ vx a4 := DJ.step a5 (fun k hk => (f.lt k hk).2) a7
       have aY : Dj aB (Bl a4) := Dj.step a5 (fun k hk => (ax.lt k hk).2) (Dj.one aX)
       have := aQ.size
       have B := (B.keep0 a1).keepT a3 aQ zz
       have hb := below_stepO hb a3 aQ hb.size zx
       have a2 : Own a6 w.heap.size 9 1 a4 (0 + (X.take j).length) (((X.take j)).map sv) := by simpa [u8v, sv] using a2
       refine kt_end rfl B (kt_step (rs := [8]) zy (one_mem ?_))
       intro ba a5 _ a9 a6 bb a8 o_ ho_; obtain rfl := zE ho_
       obtain ⟨hb, _⟩ := yE hb a5
       have ax := (ax.keepG (Gr.of aQ) (Dj.one aX)).kz a5
       have aZ := ((aZ.keep0 a1).keep aQ (by simp [Value.ownBlock]; try omega)).keep0 a5
       have a2 := a2.keep0 a5
       have aX : Sl a9 142 a4 := (zE ((a8 4 _ 142 zy rfl rfl).1 rfl)).symm
       have a4 : Sl a9 145 (.slice (some ⟨a0, 0, none⟩) 1 1) := (zE ((a8 7 _ 145 zy rfl rfl).1 rfl)).symm
       have a0 := a2
       refine op_append slt63 (zC a6 rfl aX) a0 (zC a6 rfl a4) (Src.ofRd Try.underlying63 zz (RdC.ofBx (sz := 1) (n := 1) aZ rfl zz) (by simp [Value.oneCell', u8v])) (by unfold maxLen; omega) zx hb.size ?_
       intro a2 a4 aZ aX a6
       have a8 : Dj aB (Bl a2) := Dj.step a6 (fun k hk => (ax.lt k hk).2) aY
       have := aX.size
       have B := (B.keep0 a5).keepT a0 aX zz
       have hb := below_stepO hb a0 aX hb.size zx
       have aZ : Own a4 w.heap.size 9 1 a2 ((0 + (X.take j).length) + 1) ((((X.take j) ++ [bl])).map sv) := by simpa [u8v, sv] using aZ
       refine kt_end rfl B (kt_step (rs := [12]) zy (one_mem ?_))
       intro bc a4 _ a6 ba bb a9 o_ ho_; obtain rfl := zE ho_
       obtain ⟨hb, _⟩ := yE hb a4
       have f := (((f.keepD aQ a7).keep0 a5).keepD aX aW).keep0 a4
       have aZ := aZ.keep0 a4
       have aW : Sl a6 146 a2 := (zE ((a9 8 _ 146 zy rfl rfl).1 rfl)).symm
       have a2 : Sl a6 149 (cutS 1 vx j) := (a9 11 _ 149 zy rfl rfl).2 rfl
       have a6 := aZ
       refine op_append slt63 (zC ba rfl aW) a6 (zC ba rfl a2) (Src.ofRd Try.underlying63 zz ((f.cutO (k := j) zx).cast (n' := (X.drop j).length) (cs' := (X.drop j).map sv) (by simp) (by rw [Nat.mul_one, List.map_drop])).rdw (one_sv9 _)) (by unfold maxLen; omega) zx hb.size ?_
       intro a2 a7 aZ aW a9
       have := aW.size
       have B := (B.keep0 a4).keepT a6 aW zz
       have ax := ((ax.keepG (Gr.of aX) aY).kz a4).keepG (Gr.of aW) a8
       have hb := below_stepO hb a6 aW hb.size zx
       have aZ : Own a7 w.heap.size 9 1 a2 (((0 + (X.take j).length) + 1) + (X.drop j).length) (((((X.take j) ++ [bl]) ++ (X.drop j))).map sv) := by simpa [u8v, sv] using aZ
       refine kt_end rfl B ?_
       intro bc a7 ba aY a9 a8 bb
       have a9 := a9.trans ((by simp only [putsL_defers] : _ = _).trans aK)
       obtain ⟨hb, _⟩ := yE hb a7
       have hro := ((((((((hro.keep0 aO).keep0 aP).keep0 a1).keepO a3 aQ zx).keep0 a5).keepO a0 aX zx).keep0 a4).keepO a6 aW zx).keep0 a7
       have M := ((((((((M.keep0 aO).keep0 aP).keep0 a1).keep aQ (by simp [Value.ownBlock]; try omega)).keep0 a5).keepO a0 aX zz).keep0 a4).keepO a6 aW zz).keep0 a7
       have ax := ax.kz a7
       have al := ((((((((al.keep0 aO).keep0 aP).keep0 a1).keepT a3 aQ zz).keep0 a5).keepT a0 aX zz).keep0 a4).keepT a6 aW zz).keep0 a7
       have aZ := aZ.keep0 a7
       have aO := (a8 0 rfl).trans (zL ai rfl aM)
       have aP := (a8 3 rfl).trans (zL ai rfl aN)
       have aQ := (a8 4 rfl).trans (zL ai rfl az)
       have aW := (a8 6 rfl).trans (zL ai rfl aJ)
       have aX := (a8 7 rfl).trans (zL ai rfl aL)
       have a0 : Sl ba 150 a2 := (zE ((bb 12 _ 150 rfl rfl).1 rfl)).symm
       refine split_end (from_seq (tl := [_]) zz zy rfl (zD (zC aY rfl a0) (zB (I _ _ ?_))))
       exact ac _ _ _ aY a9 ⟨putR R ((ops.getD i OH0).z) bl, (L.take j ++ [(ops.getD i OH0).z] ++ L.drop j), (((X.take j) ++ [bl]) ++ (X.drop j)), m + 1, aB, ay, a2, (zL aY rfl aO), (zL aY rfl aP), (zL aY rfl aW), (zL aY rfl aX), (zL aY rfl aQ), (zU aY rfl), (by rw [putR_ok aw]; exact hS.new J.nodup hp aC hok.z), zx, hb, zx, hro, M, (al.cast (by first | rfl | (simp only [List.length_append, List.length_cons, List.length_nil, List.length_set] <;> omega)) rfl), (aZ.cast (by first | rfl | (simp only [List.length_append, List.length_cons, List.length_nil, List.length_set] <;> omega)) rfl), ax⟩
      refine one_mem ?_
      intro aY aO _ aW aP aX aQ o_ ho_; obtain rfl := zE ho_
      obtain ⟨hb, _⟩ := yE hb aO
      have ax := ax.kz aO
      have aX : Sl aW 144 (.string (bs bl)) := (aQ 6 _ 144 zy rfl rfl).2 rfl
      refine op_bslice (e := 9) (pv := [(0, (.string (bs bl)))]) (cs := [(.string (bs bl))]) ⟨rfl, (zC aP rfl aX), trivial⟩ zy ?_
      intro aX aW aY aZ aQ aP
      obtain ⟨hb, _⟩ := yE hb aP
      have B := (B.keep0 aO).keep0 aP
      have ax := ax.kz aP
      refine kt_end rfl B (kt_step (rs := [0]) zy (one_mem ?_))
      intro aY aX _ a0 aZ a2 a1 o_ ho_; obtain rfl := zE ho_
      obtain ⟨hb, _⟩ := yE hb aX
      have f := ((f.keep0 aO).keep0 aP).keep0 aX
      have ax := ax.kz aX
      refine op_bslice (e := 9) (pv := []) (cs := []) trivial zy ?_
      intro a3 aZ a2 a1 a0 aY
      have a1 : ¬ aB aZ := fun hf => by have := (ax.lt _ hf).2; omega
      have a2 : vx.ownBlock ≠ some aZ := fun hh => by have := (f.lt _ hh).2; omega
      obtain ⟨hb, _⟩ := yE hb aY
      have B := (B.keep0 aX).keep0 aY
      have ax := ax.kz aY
      refine kt_end rfl B (kt_step (rs := [4]) zy (one_mem ?_))
      intro a7 a3 _ a5 a6 a8 a4 o_ ho_; obtain rfl := zE ho_
      obtain ⟨hb, _⟩ := yE hb a3
      have f := (f.keep0 aY).keep0 a3
      have ax := ax.kz a3
      have a0 := a0.keep0 a3
      have a7 : Sl a5 138 (.slice (some ⟨aZ, 0, none⟩) 0 0) := (zE ((a4 0 _ 138 zy rfl rfl).1 rfl)).symm
      have a8 : Sl a5 141 (hiV vx j) := (a4 3 _ 141 zy rfl rfl).2 rfl
      have a4 := (Own.ofBx (base := w.heap.size) (sz := 1) (n := 0) a0 rfl zz zx)
      refine op_append slt63 (zC a6 rfl a7) a4 (zC a6 rfl a8) (Src.ofRd Try.underlying63 zz ((f.hiCut (k := j) zx).cast (n' := (X.take j).length) (cs' := (X.take j).map sv) (by rw [List.length_take]; omega) (by rw [Nat.mul_one, List.map_take])).rdw (one_sv9 _)) (by unfold maxLen; omega) zx hb.size ?_
      intro a6 a8 a5 a0 a7
      have a9 : DJ vx (.slice (some ⟨aZ, 0, none⟩) 0 0) := fun k hk hg => by simp [Value.ownBlock] at hg; subst hg; exact a2 hk
      have aZ : DJ vx a6 := DJ.step a7 (fun k hk => (f.lt k hk).2) a9
      have a2 : Dj aB (Bl a6) := Dj.step a7 (fun k hk => (ax.lt k hk).2) (Dj.one a1)
      have := a0.size
      have B := (B.keep0 a3).keepT a4 a0 zz
      have hb := below_stepO hb a4 a0 hb.size zx
      have a5 : Own a8 w.heap.size 9 1 a6 (0 + (X.take j).length) (((X.take j)).map sv) := by simpa [u8v, sv] using a5
      refine kt_end rfl B (kt_step (rs := [8]) zy (one_mem ?_))
      intro bd a7 _ a8 ba bc bb o_ ho_; obtain rfl := zE ho_
      obtain ⟨hb, _⟩ := yE hb a7
      have ax := (ax.keepG (Gr.of a0) (Dj.one a1)).kz a7
      have aQ := ((((aQ.keep0 aX).keep0 aY).keep0 a3).keep a0 (by simp [Value.ownBlock]; try omega)).keep0 a7
      have a5 := a5.keep0 a7
      have a1 : Sl a8 142 a6 := (zE ((bb 4 _ 142 zy rfl rfl).1 rfl)).symm
      have a6 : Sl a8 145 (.slice (some ⟨aW, 0, none⟩) 1 1) := (zE ((bb 7 _ 145 zy rfl rfl).1 rfl)).symm
      have aW := a5
      refine op_append slt63 (zC ba rfl a1) aW (zC ba rfl a6) (Src.ofRd Try.underlying63 zz (RdC.ofBx (sz := 1) (n := 1) aQ rfl zz) (by simp [Value.oneCell', u8v])) (by unfold maxLen; omega) zx hb.size ?_
      intro a5 a8 a1 aQ a6
      have ba : Dj aB (Bl a5) := Dj.step a6 (fun k hk => (ax.lt k hk).2) a2
      have := aQ.size
      have B := (B.keep0 a7).keepT aW aQ zz
      have hb := below_stepO hb aW aQ hb.size zx
      have a1 : Own a8 w.heap.size 9 1 a5 ((0 + (X.take j).length) + 1) ((((X.take j) ++ [bl])).map sv) := by simpa [u8v, sv] using a1
      refine kt_end rfl B (kt_step (rs := [12]) zy (one_mem ?_))
      intro be a6 _ bb bc bd a8 o_ ho_; obtain rfl := zE ho_
      obtain ⟨hb, _⟩ := yE hb a6
      have f := (((f.keepD a0 a9).keep0 a7).keepD aQ aZ).keep0 a6
      have a1 := a1.keep0 a6
      have aZ : Sl bb 146 a5 := (zE ((a8 8 _ 146 zy rfl rfl).1 rfl)).symm
      have a5 : Sl bb 149 (cutS 1 vx j) := (a8 11 _ 149 zy rfl rfl).2 rfl
      have a8 := a1
      refine op_append slt63 (zC bc rfl aZ) a8 (zC bc rfl a5) (Src.ofRd Try.underlying63 zz ((f.cutO (k := j) zx).cast (n' := (X.drop j).length) (cs' := (X.drop j).map sv) (by simp) (by rw [Nat.mul_one, List.map_drop])).rdw (one_sv9 _)) (by unfold maxLen; omega) zx hb.size ?_
      intro a5 a9 a1 aZ bb
      have := aZ.size
      have B := (B.keep0 a6).keepT a8 aZ zz
      have ax := ((ax.keepG (Gr.of aQ) a2).kz a6).keepG (Gr.of aZ) ba
      have hb := below_stepO hb a8 aZ hb.size zx
      have a1 : Own a9 w.heap.size 9 1 a5 (((0 + (X.take j).length) + 1) + (X.drop j).length) (((((X.take j) ++ [bl]) ++ (X.drop j))).map sv) := by simpa [u8v, sv] using a1
      refine kt_end rfl B ?_
      intro be a9 bc a2 bb ba bd
      have bb := bb.trans ((by simp only [putsL_defers] : _ = _).trans aK)
      obtain ⟨hb, _⟩ := yE hb a9
      have hro := ((((((((((hro.keep0 aO).keep0 aP).keep0 aX).keep0 aY).keep0 a3).keepO a4 a0 zx).keep0 a7).keepO aW aQ zx).keep0 a6).keepO a8 aZ zx).keep0 a9
      have M := ((((((((((M.keep0 aO).keep0 aP).keep0 aX).keep0 aY).keep0 a3).keep a0 (by simp [Value.ownBlock]; try omega)).keep0 a7).keepO aW aQ zz).keep0 a6).keepO a8 aZ zz).keep0 a9
      have ax := ax.kz a9
      have al := ((((((((((al.keep0 aO).keep0 aP).keep0 aX).keep0 aY).keep0 a3).keepT a4 a0 zz).keep0 a7).keepT aW aQ zz).keep0 a6).keepT a8 aZ zz).keep0 a9
      have a1 := a1.keep0 a9
      have aK := (ba 0 rfl).trans (zL ai rfl aM)
      have aM := (ba 3 rfl).trans (zL ai rfl aN)
      have aN := (ba 4 rfl).trans (zL ai rfl az)
      have az := (ba 6 rfl).trans (zL ai rfl aJ)
      have aJ := (ba 7 rfl).trans (zL ai rfl aL)
      have ai : Sl bc 150 a5 := (zE ((bd 12 _ 150 rfl rfl).1 rfl)).symm
      refine split_end (from_seq (tl := [_]) zz zy rfl (zD (zC a2 rfl ai) (zB (I _ _ ?_))))
      exact ac _ _ _ a2 bb ⟨putR R ((ops.getD i OH0).z) bl, (L.take j ++ [(ops.getD i OH0).z] ++ L.drop j), (((X.take j) ++ [bl]) ++ (X.drop j)), m + 1, aB, ay, a5, (zL a2 rfl aK), (zL a2 rfl aM), (zL a2 rfl az), (zL a2 rfl aJ), (zL a2 rfl aN), (zU a2 rfl), (by rw [putR_ok aw]; exact hS.new J.nodup hp aC hok.z), zx, hb, zx, hro, M, (al.cast (by first | rfl | (simp only [List.length_append, List.length_cons, List.length_nil, List.length_set] <;> omega)) rfl), (a1.cast (by first | rfl | (simp only [List.length_append, List.length_cons, List.length_nil, List.length_set] <;> omega)) rfl), ax⟩
     exact absurd am aw
    refine zG (zA U rfl) (zR (j := 2) (dj := 115) (b := true) rfl rfl rfl (zA U rfl) rfl rfl (zd (zA U rfl) rfl (zB (W _ _ (wp_cond_false (zA U rfl) (zF fun _ W => zH (zG (zC U rfl ar) (op_eql (zA U rfl) rfl (fun aw => ?_) (fun aw => ?_)))))))))
    ·
     exact absurd aw am
    refine zB (W _ _ (wp_cond_false (zA U rfl) (wp_skip (I _ _ ?_))))
    exact ac _ _ _ U ao ⟨putR R ((ops.getD i OH0).z) bl, L, X, m + 1, aB, vl, vx, (zL U rfl ap), (zL U rfl aj), (zL U rfl an), (zL U rfl ah), (zL U rfl aq), (zL U rfl ak), (by rw [putR_no aw]; exact hS), zx, hb, zx, hro, M, (t.cast (by first | rfl | (simp only [List.length_append, List.length_cons, List.length_nil, List.length_set] <;> omega)) rfl), (f.cast (by first | rfl | (simp only [List.length_append, List.length_cons, List.length_nil, List.length_set] <;> omega)) rfl), ax⟩
   refine zD (zA A rfl) (zB (W _ _ (wp_cond_false (zA A rfl) (zF fun _ W => zH (zG (zA A rfl) (op_lss (zA A rfl) rfl (fun U => ?_) (fun U => ?_)))))))
   ·
    refine zD (zA A rfl) (zB (W _ _ (wp_cond_true (zA A rfl) (zF fun _ W => zH (zG (zC A rfl F) (zM fld65_2 (zC A rfl D) (zN one57 (zA A rfl) (M.cell rfl) ?_)))))))
    rcases Bool.eq_false_or_eq_true (decide ((ops.getD i OH0).z ∈ L)) with U | U
    ·
     refine ze (vs := [(ptr s 0), (.int .u64 (ops.getD i OH0).z)]) ok29 ⟨(zA A rfl), ⟨(zA A rfl), trivial⟩⟩ (hDrop_in hL zx hS (of_decide_eq_true U)) ?_
     rintro _ ak ⟨ai, rfl, aj, ah, al⟩
     have al := t.lt
     have al := f.lt
     have al := M.lt
     have al := B.lt
     have hL_old := hL
     have := ai.size
     have hro := hro.keepG ai (fun k hk => .inr (by have := hL_old.lt k hk; omega))
     have t := t.keepG ai (hL_old.notOwn t zz zz zz)
     have f := f.keepG ai (hL_old.notOwn f zz zz zz)
     have M := M.keepG ai Q
     have B := B.keepG ai ae
     have hb := below_stepG hb ai hb.size (fun k hk => (hL_old.lt k hk).1)
     have ai := ab.trans (congrArg Value.bool U)
     refine zD (zA A rfl) (zB (W _ _ (zF fun _ W => zF fun _ Y => zH (zG (zA A rfl) ?_))))
     refine op_bin (v := .bool true) (zA A rfl) rfl (by rw [binOp_eql]; rfl) (zG (zC A rfl ai) (op_neb Try.underlying4 (zA A rfl) (zA A rfl) (zG (zA A rfl) (zS (j := 4) (dj := 162) (b := false) rfl rfl rfl (zA A rfl) (zG (zC A rfl ai) (zS (j := 4) (dj := 162) (b := false) rfl rfl rfl (zA A rfl) (op_not (zA A rfl) (zS (j := 4) (dj := 162) (b := false) rfl rfl rfl (zA A rfl) (zG (zA A rfl) (zR (j := 7) (dj := 165) (b := true) rfl rfl rfl (zA A rfl) rfl rfl ?_))))))))))
     refine zR (j := 7) (dj := 165) (b := true) rfl rfl rfl (zA A rfl) rfl rfl (zS (j := 4) (dj := 162) (b := false) rfl rfl rfl (zA A rfl) (zd (zA A rfl) rfl (zd (zA A rfl) (zA A rfl) (zB (Y _ _ (wp_cond_false (zA A rfl) (wp_skip (W _ _ (zF fun _ W => zH (zG (zC A rfl ai) (zB (W _ _ (wp_cond_true (zA A rfl) (seq_join1 (N := 210) (fun az_ w' => ∃ (ay : Value), (Sl az_ 0 vo) ∧ (Sl az_ 3 (ptr s 0)) ∧ (Sl az_ 5 vx) ∧ (Sl az_ 6 (.int .i64 ((i : Nat) : Int))) ∧ (Sl az_ 7 (ptr O 0)) ∧ (Sl az_ 8 (.int .i64 ((j : Nat) : Int))) ∧ (Sl az_ 4 ay) ∧ (Below w.heap.size w w') ∧ (ak.heap.size ≤ w'.heap.size) ∧ (RdC w' 0 w.heap.size 4 vo ops.length (ops.flatMap cellsH)) ∧ (Own w' w.heap.size 9 1 vx X.length (X.map sv)) ∧ (Bx w' O 65 [(.int .i64 (ops.getD i OH0).k), (.int .i64 (ops.getD i OH0).s), (.int .u64 (ops.getD i OH0).z), (.int .u8 ((ops.getD i OH0).x.toNat : Int))]) ∧ (Own w' w.heap.size 5 1 Z bl.length (bl.map u8v)) ∧ (HeapR w' w.heap.size s (mdel R ((ops.getD i OH0).z)) m aj) ∧ (Own w' w.heap.size 57 1 ay (L.take j ++ L.drop (j + 1)).length ((L.take j ++ L.drop (j + 1)).map (Value.int .u64)))) (fun al => ?_) ?_))))))))))))))
     ·
      refine zF fun _ W => ?_
      have au := (hp.mem hS.up).1 (of_decide_eq_true U)
      have aD : (L.take j).length = j := by rw [List.length_take]; omega
      have aE : (L.drop (j + 1)).length = L.length - (j + 1) := List.length_drop
      obtain ⟨c1, K, aG, aF⟩ := t.cap
      refine reg_split (hd := [_, _, _, _, _, _, _, _, _, _]) (tl := _) 10 mixed zy rfl rfl (any_tree (φ := phiV [(fun _ => True), (fun uz => uz = vl), (fun uz => uz = (.int .i64 ((j : Nat) : Int))), (fun uz => uz = (hiV vl j)), (fun _ => True), (fun uz => uz = vl), (fun uz => uz = (.int .i64 ((j : Nat) : Int))), (fun uz => uz = (.int .i64 ((j + 1 : Nat) : Int))), (fun uz => uz = (cutS 1 vl (j + 1))), (fun _ => True)]) (G := fun w' => True) [0, 4, 9] zy zy zy zy zy A (fun p w2 E h => trivial) trivial (ObRs9.pass rfl (ObRs9.cons ?_ (ObRs9.cons ?_ (ObRs9.cons ?_ (ObRs9.pass rfl (ObRs9.cons ?_ (ObRs9.cons ?_ (ObRs9.cons ?_ (ObRs9.cons ?_ (ObRs9.pass rfl (ObRs9.nil))))))))))) (by simp only [putsL_defers]) ?_)
      ·
       intro eA aA wA hNA hGA hbsA hdpA
       have aH := (hbsA 4 rfl).trans (zL A rfl H)
       refine zG (zC hNA rfl aH) ?_
       exact obT_end rfl rfl
      ·
       intro eA aA wA hNA hGA hbsA hdpA
       have aI := (hbsA 8 rfl).trans (zL A rfl aa)
       refine zG (zC hNA rfl aI) ?_
       exact obT_end rfl rfl
      ·
       intro eA aA wA hNA hGA hbsA hdpA
       have K : Sl aA 172 vl := (hdpA 1 _ 172 zy rfl rfl).2 rfl
       have ai : Sl aA 173 (.int .i64 ((j : Nat) : Int)) := (hdpA 2 _ 173 zy rfl rfl).2 rfl
       refine op_slice_hiC (m := j) slt62 (zC hNA rfl K) aF (zC hNA rfl ai) zx zx ?_
       exact obT_end rfl rfl
      ·
       intro eA aA wA hNA hGA hbsA hdpA
       have aH := (hbsA 4 rfl).trans (zL A rfl H)
       refine zG (zC hNA rfl aH) ?_
       exact obT_end rfl rfl
      ·
       intro eA aA wA hNA hGA hbsA hdpA
       have aI := (hbsA 8 rfl).trans (zL A rfl aa)
       refine zG (zC hNA rfl aI) ?_
       exact obT_end rfl rfl
      ·
       intro eA aA wA hNA hGA hbsA hdpA
       have K : Sl aA 177 (.int .i64 ((j : Nat) : Int)) := (hdpA 6 _ 177 zy rfl rfl).2 rfl
       refine op_add (r := ((j + 1 : Nat) : Int)) (zC hNA rfl K) rfl ((add64 zx).trans zx) ?_
       exact obT_end rfl rfl
      ·
       intro eA aA wA hNA hGA hbsA hdpA
       have K : Sl aA 176 vl := (hdpA 5 _ 176 zy rfl rfl).2 rfl
       have ai : Sl aA 178 (.int .i64 ((j + 1 : Nat) : Int)) := (hdpA 7 _ 178 zy rfl rfl).2 rfl
       refine op_slice_cutS (k := (j + 1)) slt62 (zC hNA rfl K) t (zC hNA rfl ai) zx zx ?_
       exact obT_end rfl rfl
      refine kt_step (rs := [0]) zy (one_mem ?_)
      intro am K _ ak an ai ao o_ ho_; obtain rfl := zE ho_
      obtain ⟨hb, _⟩ := yE hb K
      have t := t.keep0 K
      have ah := ah.kz K
      refine op_bslice (e := 57) (pv := []) (cs := []) trivial zy ?_
      intro an ak ao ap am ai
      have an : ¬ aj ak := fun hf => by have := (ah.lt _ hf).2; omega
      have ao : vl.ownBlock ≠ some ak := fun hh => by have := (t.lt _ hh).2; omega
      obtain ⟨hb, _⟩ := yE hb ai
      have ah := ah.kz ai
      refine kt_end rfl trivial (kt_step (rs := [4]) zy (one_mem ?_))
      intro az ap _ aw ar ax aq o_ ho_; obtain rfl := zE ho_
      obtain ⟨hb, _⟩ := yE hb ap
      have t := (t.keep0 ai).keep0 ap
      have ah := ah.kz ap
      have am := am.keep0 ap
      have ax : Sl aw 171 (.slice (some ⟨ak, 0, none⟩) 0 0) := (zE ((aq 0 _ 171 zy rfl rfl).1 rfl)).symm
      have az : Sl aw 174 (hiV vl j) := (aq 3 _ 174 zy rfl rfl).2 rfl
      have aq := (Own.ofBx (base := w.heap.size) (sz := 1) (n := 0) am rfl zz zx)
      refine op_append slt62 (zC ar rfl ax) aq (zC ar rfl az) (Src.ofRd Try.underlying62 zz ((t.hiCut (k := j) zx).cast (n' := (L.take j).length) (cs' := (L.take j).map (Value.int .u64)) (by rw [List.length_take]; omega) (by rw [Nat.mul_one, List.map_take])).rdw (one_u64 _)) (by unfold maxLen; omega) zx hb.size ?_
      intro aw az ar am ax
      have aB : DJ vl (.slice (some ⟨ak, 0, none⟩) 0 0) := fun k hk hg => by simp [Value.ownBlock] at hg; subst hg; exact ao hk
      have ak : Dj aj (Bl aw) := Dj.step ax (fun k hk => (ah.lt k hk).2) (Dj.one an)
      have := am.size
      have hb := below_stepO hb aq am hb.size zx
      have ar : Own az w.heap.size 57 1 aw (0 + (L.take j).length) (((L.take j)).map (Value.int .u64)) := by simpa [u8v, sv] using ar
      refine kt_end rfl trivial (kt_step (rs := [9]) zy (one_mem ?_))
      intro aD ao _ aC az aE ax o_ ho_; obtain rfl := zE ho_
      obtain ⟨hb, _⟩ := yE hb ao
      have t := (t.keepD am aB).keep0 ao
      have ar := ar.keep0 ao
      have aB : Sl aC 175 aw := (zE ((ax 4 _ 175 zy rfl rfl).1 rfl)).symm
      have aw : Sl aC 179 (cutS 1 vl (j + 1)) := (ax 8 _ 179 zy rfl rfl).2 rfl
      have ax := ar
      refine op_append slt62 (zC az rfl aB) ax (zC az rfl aw) (Src.ofRd Try.underlying62 zz ((t.cutO (k := (j + 1)) zx).cast (n' := (L.drop (j + 1)).length) (cs' := (L.drop (j + 1)).map (Value.int .u64)) (by simp) (by rw [Nat.mul_one, List.map_drop])).rdw (one_u64 _)) (by unfold maxLen; omega) zx hb.size ?_
      intro az aB aw ar aC
      have := ar.size
      have ah := ((ah.keepG (Gr.of am) (Dj.one an)).kz ao).keepG (Gr.of ar) ak
      have hb := below_stepO hb ax ar hb.size zx
      have aw : Own aB w.heap.size 57 1 az ((0 + (L.take j).length) + (L.drop (j + 1)).length) ((((L.take j) ++ (L.drop (j + 1)))).map (Value.int .u64)) := by simpa [u8v, sv] using aw
      refine kt_end rfl trivial ?_
      intro aF an aD ak aC aB aE
      have aC := aC.trans ((by simp only [putsL_defers] : _ = _).trans S)
      obtain ⟨hb, _⟩ := yE hb an
      have hro := ((((((hro.keep0 K).keep0 ai).keep0 ap).keepO aq am zx).keep0 ao).keepO ax ar zx).keep0 an
      have f := ((((((f.keep0 K).keep0 ai).keep0 ap).keepT aq am zz).keep0 ao).keepT ax ar zz).keep0 an
      have M := ((((((M.keep0 K).keep0 ai).keep0 ap).keep am (by simp [Value.ownBlock]; try omega)).keep0 ao).keepO ax ar zz).keep0 an
      have B := ((((((B.keep0 K).keep0 ai).keep0 ap).keepT aq am zz).keep0 ao).keepT ax ar zz).keep0 an
      have ah := ah.kz an
      have aw := aw.keep0 an
      have K := (aB 0 rfl).trans (zL A rfl P)
      have ai := (aB 3 rfl).trans (zL A rfl F)
      have am := (aB 5 rfl).trans (zL A rfl V)
      have an := (aB 6 rfl).trans (zL A rfl T)
      have ao := (aB 7 rfl).trans (zL A rfl D)
      have ap := (aB 8 rfl).trans (zL A rfl aa)
      have aa : Sl aD 180 az := (zE ((aE 9 _ 180 rfl rfl).1 rfl)).symm
      refine split_end (from_seq (tl := [_]) zz zy rfl (zD (zC ak rfl aa) (zB (W _ _ ?_))))
      exact al _ _ _ ak aC ⟨az, (zL ak rfl K), (zL ak rfl ai), (zL ak rfl am), (zL ak rfl an), (zL ak rfl ao), (zL ak rfl ap), (zU ak rfl), hb, zx, hro, f, M, B, ah, (aw.cast (by first | rfl | (simp only [List.length_append, List.length_cons, List.length_nil, List.length_set] <;> omega)) rfl)⟩
     rintro aw ar K al ⟨ay, am, aq, ai, ao, an, ak, ap, hb, ax, hro, f, M, B, ah, aa⟩
     have := hb.size
     have au := (hp.mem hS.up).1 (of_decide_eq_true U)
     have av : (X.take j).length = j := by rw [List.length_take]; omega
     have aR : (X.drop (j + 1)).length = X.length - (j + 1) := List.length_drop
     obtain ⟨c2, aT, aU, aS⟩ := f.cap
     refine reg_split (hd := [_, _, _, _, _, _, _, _, _, _]) (tl := _) 10 mixed zy rfl rfl (any_tree (φ := phiV [(fun _ => True), (fun uz => uz = vx), (fun uz => uz = (.int .i64 ((j : Nat) : Int))), (fun uz => uz = (hiV vx j)), (fun _ => True), (fun uz => uz = vx), (fun uz => uz = (.int .i64 ((j : Nat) : Int))), (fun uz => uz = (.int .i64 ((j + 1 : Nat) : Int))), (fun uz => uz = (cutS 1 vx (j + 1))), (fun _ => True)]) (G := fun w' => True) [0, 4, 9] zy zy zy zy zy K (fun p w2 E h => trivial) trivial (ObRs9.pass rfl (ObRs9.cons ?_ (ObRs9.cons ?_ (ObRs9.cons ?_ (ObRs9.pass rfl (ObRs9.cons ?_ (ObRs9.cons ?_ (ObRs9.cons ?_ (ObRs9.cons ?_ (ObRs9.pass rfl (ObRs9.nil))))))))))) (by simp only [putsL_defers]) ?_)
     ·
      intro eA aA wA hNA hGA hbsA hdpA
      have aV := (hbsA 5 rfl).trans (zL K rfl ai)
      refine zG (zC hNA rfl aV) ?_
      exact obT_end rfl rfl
     ·
      intro eA aA wA hNA hGA hbsA hdpA
      have aI := (hbsA 8 rfl).trans (zL K rfl ak)
      refine zG (zC hNA rfl aI) ?_
      exact obT_end rfl rfl
     ·
      intro eA aA wA hNA hGA hbsA hdpA
      have p : Sl aA 182 vx := (hdpA 1 _ 182 zy rfl rfl).2 rfl
      have ar : Sl aA 183 (.int .i64 ((j : Nat) : Int)) := (hdpA 2 _ 183 zy rfl rfl).2 rfl
      refine op_slice_hiC (m := j) slt63 (zC hNA rfl p) aS (zC hNA rfl ar) zx zx ?_
      exact obT_end rfl rfl
     ·
      intro eA aA wA hNA hGA hbsA hdpA
      have aV := (hbsA 5 rfl).trans (zL K rfl ai)
      refine zG (zC hNA rfl aV) ?_
      exact obT_end rfl rfl
     ·
      intro eA aA wA hNA hGA hbsA hdpA
      have aI := (hbsA 8 rfl).trans (zL K rfl ak)
      refine zG (zC hNA rfl aI) ?_
      exact obT_end rfl rfl
     ·
      intro eA aA wA hNA hGA hbsA hdpA
      have p : Sl aA 187 (.int .i64 ((j : Nat) : Int)) := (hdpA 6 _ 187 zy rfl rfl).2 rfl
      refine op_add (r := ((j + 1 : Nat) : Int)) (zC hNA rfl p) rfl ((add64 zx).trans zx) ?_
      exact obT_end rfl rfl
     ·
      intro eA aA wA hNA hGA hbsA hdpA
      have p : Sl aA 186 vx := (hdpA 5 _ 186 zy rfl rfl).2 rfl
      have ai : Sl aA 188 (.int .i64 ((j + 1 : Nat) : Int)) := (hdpA 7 _ 188 zy rfl rfl).2 rfl
      refine op_slice_cutS (k := (j + 1)) slt63 (zC hNA rfl p) f (zC hNA rfl ai) zx zx ?_
      exact obT_end rfl rfl
     refine kt_step (rs := [0]) zy (one_mem ?_)
     intro ak p _ av aw ai ar o_ ho_; obtain rfl := zE ho_
     obtain ⟨hb, _⟩ := yE hb p
     have f := f.keep0 p
     have ah := ah.kz p
     refine op_bslice (e := 9) (pv := []) (cs := []) trivial zy ?_
     intro av ak aw ax ar ai
     have av : ¬ aj ak := fun hf => by have := (ah.lt _ hf).2; omega
     have aw : vx.ownBlock ≠ some ak := fun hh => by have := (f.lt _ hh).2; omega
     obtain ⟨hb, _⟩ := yE hb ai
     have ah := ah.kz ai
     refine kt_end rfl trivial (kt_step (rs := [4]) zy (one_mem ?_))
     intro aE ax _ aC az aD aB o_ ho_; obtain rfl := zE ho_
     obtain ⟨hb, _⟩ := yE hb ax
     have f := (f.keep0 ai).keep0 ax
     have ah := ah.kz ax
     have ar := ar.keep0 ax
     have aD : Sl aC 181 (.slice (some ⟨ak, 0, none⟩) 0 0) := (zE ((aB 0 _ 181 zy rfl rfl).1 rfl)).symm
     have aE : Sl aC 184 (hiV vx j) := (aB 3 _ 184 zy rfl rfl).2 rfl
     have aB := (Own.ofBx (base := w.heap.size) (sz := 1) (n := 0) ar rfl zz zx)
     refine op_append slt63 (zC az rfl aD) aB (zC az rfl aE) (Src.ofRd Try.underlying63 zz ((f.hiCut (k := j) zx).cast (n' := (X.take j).length) (cs' := (X.take j).map sv) (by rw [List.length_take]; omega) (by rw [Nat.mul_one, List.map_take])).rdw (one_sv9 _)) (by unfold maxLen; omega) zx hb.size ?_
     intro aC aE az ar aD
     have aF : DJ vx (.slice (some ⟨ak, 0, none⟩) 0 0) := fun k hk hg => by simp [Value.ownBlock] at hg; subst hg; exact aw hk
     have ak : Dj aj (Bl aC) := Dj.step aD (fun k hk => (ah.lt k hk).2) (Dj.one av)
     have := ar.size
     have hb := below_stepO hb aB ar hb.size zx
     have az : Own aE w.heap.size 9 1 aC (0 + (X.take j).length) (((X.take j)).map sv) := by simpa [u8v, sv] using az
     refine kt_end rfl trivial (kt_step (rs := [9]) zy (one_mem ?_))
     intro aH aw _ aD aG aI aE o_ ho_; obtain rfl := zE ho_
     obtain ⟨hb, _⟩ := yE hb aw
     have f := (f.keepD ar aF).keep0 aw
     have az := az.keep0 aw
     have aF : Sl aD 185 aC := (zE ((aE 4 _ 185 zy rfl rfl).1 rfl)).symm
     have aC : Sl aD 189 (cutS 1 vx (j + 1)) := (aE 8 _ 189 zy rfl rfl).2 rfl
     have aD := az
     refine op_append slt63 (zC aG rfl aF) aD (zC aG rfl aC) (Src.ofRd Try.underlying63 zz ((f.cutO (k := (j + 1)) zx).cast (n' := (X.drop (j + 1)).length) (cs' := (X.drop (j + 1)).map sv) (by simp) (by rw [Nat.mul_one, List.map_drop])).rdw (one_sv9 _)) (by unfold maxLen; omega) zx hb.size ?_
     intro aE aF aC az aG
     have := az.size
     have ah := ((ah.keepG (Gr.of ar) (Dj.one av)).kz aw).keepG (Gr.of az) ak
     have hb := below_stepO hb aD az hb.size zx
     have aC : Own aF w.heap.size 9 1 aE ((0 + (X.take j).length) + (X.drop (j + 1)).length) ((((X.take j) ++ (X.drop (j + 1)))).map sv) := by simpa [u8v, sv] using aC
     refine kt_end rfl trivial ?_
     intro aJ av aH ak aG aF aI
     have aG := aG.trans ((by simp only [putsL_defers] : _ = _).trans al)
     obtain ⟨hb, _⟩ := yE hb av
     have hro := ((((((hro.keep0 p).keep0 ai).keep0 ax).keepO aB ar zx).keep0 aw).keepO aD az zx).keep0 av
     have M := ((((((M.keep0 p).keep0 ai).keep0 ax).keep ar (by simp [Value.ownBlock]; try omega)).keep0 aw).keepO aD az zz).keep0 av
     have ah := ah.kz av
     have aa := ((((((aa.keep0 p).keep0 ai).keep0 ax).keepT aB ar zz).keep0 aw).keepT aD az zz).keep0 av
     have aC := aC.keep0 av
     have p := (aF 0 rfl).trans (zL K rfl am)
     have ai := (aF 3 rfl).trans (zL K rfl aq)
     have al := (aF 4 rfl).trans (zL K rfl ap)
     have am := (aF 6 rfl).trans (zL K rfl ao)
     have ao := (aF 7 rfl).trans (zL K rfl an)
     have K : Sl aH 190 aE := (zE ((aI 9 _ 190 rfl rfl).1 rfl)).symm
     refine split_end (from_seq (tl := [_]) zz zy rfl (zD (zC ak rfl K) (zB (I _ _ ?_))))
     exact ac _ _ _ ak aG ⟨mdel R ((ops.getD i OH0).z), (L.take j ++ L.drop (j + 1)), ((X.take j) ++ (X.drop (j + 1))), m, aj, ay, aE, (zL ak rfl p), (zL ak rfl ai), (zL ak rfl am), (zL ak rfl ao), (zL ak rfl al), (zU ak rfl), (hS.del J.nodup au.1 au.2), zx, hb, zx, hro, M, (aa.cast (by first | rfl | (simp only [List.length_append, List.length_cons, List.length_nil, List.length_set] <;> omega)) rfl), (aC.cast (by first | rfl | (simp only [List.length_append, List.length_cons, List.length_nil, List.length_set] <;> omega)) rfl), ah⟩
    refine ze (vs := [(ptr s 0), (.int .u64 (ops.getD i OH0).z)]) ok29 ⟨(zA A rfl), ⟨(zA A rfl), trivial⟩⟩ (hDrop_out hL zx hS (of_decide_eq_false U)) ?_
    rintro _ aa ⟨p, rfl, K, J, ah⟩
    have aa := t.lt
    have aa := f.lt
    have aa := M.lt
    have aa := B.lt
    have hL_old := hL
    have := p.size
    have hro := hro.keepG p (fun k hk => .inr (by have := hL_old.lt k hk; omega))
    have t := t.keepG p (hL_old.notOwn t zz zz zz)
    have f := f.keepG p (hL_old.notOwn f zz zz zz)
    have M := M.keepG p Q
    have hb := below_stepG hb p hb.size (fun k hk => (hL_old.lt k hk).1)
    have p := ab.trans (congrArg Value.bool U)
    refine zD (zA A rfl) (zB (W _ _ (zF fun _ W => zF fun _ Y => zH (zG (zA A rfl) (op_bin (v := .bool false) (zA A rfl) rfl (by rw [binOp_eql]; rfl) (zG (zC A rfl p) ?_))))))
    refine op_neb Try.underlying4 (zA A rfl) (zA A rfl) (zG (zA A rfl) (zS (j := 4) (dj := 162) (b := false) rfl rfl rfl (zA A rfl) (zG (zC A rfl p) (zS (j := 4) (dj := 162) (b := false) rfl rfl rfl (zA A rfl) (op_not (zA A rfl) (zS (j := 4) (dj := 162) (b := false) rfl rfl rfl (zA A rfl) (zG (zA A rfl) (zS (j := 7) (dj := 165) (b := true) rfl rfl rfl (zA A rfl) (zG (zA A rfl) ?_)))))))))
    refine zS (j := 7) (dj := 165) (b := true) rfl rfl rfl (zA A rfl) (op_bin (v := .bool false) (zA A rfl) rfl (by rw [binOp_neq]; rfl) (zS (j := 4) (dj := 162) (b := false) rfl rfl rfl (zA A rfl) (zc (zA A rfl) (zA A rfl) (zd (zA A rfl) (zA A rfl) (zB (Y _ _ (wp_cond_false (zA A rfl) (wp_skip (W _ _ (zF fun _ W => zH (zG (zC A rfl p) (zB (W _ _ (wp_cond_false (zA A rfl) (wp_skip (I _ _ ?_))))))))))))))))
    exact ac _ _ _ A S ⟨R, L, X, m, K, vl, vx, (zL A rfl P), (zL A rfl F), (zL A rfl T), (zL A rfl D), (zL A rfl H), (zL A rfl V), hS, zx, hb, zx, hro, M, (t.cast (by first | rfl | (simp only [List.length_append, List.length_cons, List.length_nil, List.length_set] <;> omega)) rfl), (f.cast (by first | rfl | (simp only [List.length_append, List.length_cons, List.length_nil, List.length_set] <;> omega)) rfl), J⟩
   refine zD (zA A rfl) (zB (W _ _ (wp_cond_false (zA A rfl) (zF fun _ W => zH (zG (zA A rfl) (op_eql (zA A rfl) rfl (fun p => ?_) (fun p => ?_)))))))
   ·
    refine zD (zA A rfl) (zB (W _ _ (wp_cond_true (zA A rfl) (zF fun _ W => zH (zG (zC A rfl F) (ze (vs := [(ptr s 0)]) ok33 ⟨(zA A rfl), trivial⟩ (hCopy_ret hL zx) ?_))))))
    rintro _ ab ⟨J, Y, ah, U, K, rfl, p, ai, s, aa⟩
    have ab : ∀ y, K y → ad.heap.size ≤ y := fun y hy => (s.lt y hy).1
    have ad : Dj (Bl vl) K := Dj.fresh (fun k hk => (t.lt k hk).2) ab
    have ah : Dj (Bl vx) K := Dj.fresh (fun k hk => (f.lt k hk).2) ab
    have ai : ¬ K O := fun hf => by have := ab _ hf; have := M.lt; omega
    have aj : Dj (Bl Z) K := Dj.fresh (fun k hk => (B.lt k hk).2) ab
    have Z := t.lt
    have Z := f.lt
    have Z := M.lt
    have Z := B.lt
    have hL_old := hL
    have := J.size
    have t := t.keepG J (hL_old.notOwn t zz zz zz)
    have f := f.keepG J (hL_old.notOwn f zz zz zz)
    have M := M.keepG J Q
    have hb := below_stepG hb J hb.size (fun k hk => (hL_old.lt k hk).1)
    have s := s.mono (base' := w.heap.size) zx
    refine zD (zA A rfl) (zB (W _ _ (zF fun _ W => zH (zG (zA A rfl) (zM fld65_2 (zC A rfl D) (zN one57 (zA A rfl) (M.cell rfl) (op_bslice (e := 5) (pv := [(0, (.int .u8 99))]) (cs := [(.int .u8 99)]) ⟨rfl, rfl, trivial⟩ zy ?_)))))))
    intro ak ab am al Z Q
    have al : ¬ K ab := fun hf => by have := (s.lt _ hf).2; omega
    obtain ⟨hb, _⟩ := yE hb Q
    have t := t.keep0 Q
    have f := f.keep0 Q
    have M := M.keep0 Q
    have B := (B.keepG J ae).keep0 Q
    have p := p.kz Q
    have s := s.kz Q
    have K : RdC ak ab (ab + 1) 1 (.slice (some ⟨ab, 0, none⟩) 1 1) ([99] : By).length (([99] : By).map u8v) := (RdC.ofBx (sz := 1) (n := 1) Z rfl zz)
    refine ze (vs := [(ptr Y 0), (.int .u64 (ops.getD i OH0).z), (.slice (some ⟨ab, 0, none⟩) 1 1)]) ok28 ⟨(zA A rfl), ⟨(zA A rfl), ⟨(zA A rfl), trivial⟩⟩⟩ (hPut_ret (r := [99]) ((ops.getD i OH0).z) s zx zx K (fun x hx => Nat.lt_or_gt_of_ne (fun e => al (e ▸ hx))) Z.lt) ?_
    rintro _ am ⟨K, rfl, ab, ak, ae⟩
    have am := t.lt
    have an := f.lt
    have ao := M.lt
    have ap := B.lt
    have ap := p.lt
    have aq := Z.lt
    have aq := s
    have := K.size
    have t := t.keepG K ad
    have f := f.keepG K ah
    have M := M.keepG K ai
    have B := B.keepG K aj
    have p := p.keepG K aa
    have Z := Z.keepG K al
    have hb := below_stepG hb K hb.size (fun k hk => (aq.lt k hk).1)
    have s : Dj (Bl vl) ab := Dj.stepF ae (fun k hk => (am k hk).2) ad
    have ad : Dj (Bl vx) ab := Dj.stepF ae (fun k hk => (an k hk).2) ah
    have ah : ¬ ab O := ne_stepF ae ao ai
    have O : Dj U ab := Dj.stepF ae (fun k hk => (ap k hk).2) aa
    refine zB (W _ _ (zH (zG (zA A rfl) (ze (vs := [(ptr Y 0), (.int .u64 1)]) ok29 ⟨(zA A rfl), ⟨rfl, trivial⟩⟩ (hDrop_ret 1 ak zx) ?_))))
    rintro _ ai ⟨Y, rfl, ae, ab, aa⟩
    have aa := t.lt
    have aa := f.lt
    have aa := M.lt
    have aa := B.lt
    have B := p.lt
    have B := Z.lt
    have B := ak
    have := Y.size
    have hro := (((hro.keepG J (fun k hk => .inr (by have := hL_old.lt k hk; omega))).keep0 Q).keepG K (fun k hk => .inr (by have := aq.lt k hk; omega))).keepG Y (fun k hk => .inr (by have := B.lt k hk; omega))
    have t := t.keepG Y s
    have f := f.keepG Y ad
    have M := M.keepG Y ah
    have p := p.keepG Y O
    have hb := below_stepG hb Y hb.size (fun k hk => (B.lt k hk).1)
    refine zB (I _ _ ?_)
    exact ac _ _ _ A S ⟨R, L, X, m, U, vl, vx, (zL A rfl P), (zL A rfl F), (zL A rfl T), (zL A rfl D), (zL A rfl H), (zL A rfl V), hS, zx, hb, zx, hro, M, (t.cast (by first | rfl | (simp only [List.length_append, List.length_cons, List.length_nil, List.length_set] <;> omega)) rfl), (f.cast (by first | rfl | (simp only [List.length_append, List.length_cons, List.length_nil, List.length_set] <;> omega)) rfl), p⟩
   refine zD (zA A rfl) (zB (W _ _ (wp_cond_false (zA A rfl) (wp_skip (I _ _ ?_)))))
   exact ac _ _ _ A S ⟨R, L, X, m, FH, vl, vx, (zL A rfl P), (zL A rfl F), (zL A rfl T), (zL A rfl D), (zL A rfl H), (zL A rfl V), hS, zx, hb, zx, hro, M, (t.cast (by first | rfl | (simp only [List.length_append, List.length_cons, List.length_nil, List.length_set] <;> omega)) rfl), (f.cast (by first | rfl | (simp only [List.length_append, List.length_cons, List.length_nil, List.length_set] <;> omega)) rfl), hL⟩
  rintro S P f K ⟨R2, L2, X2, m2, F2, ag, af, J, B, O, H, A, D, t, F, hb, Q, hro, M, p, s, hJ⟩
  have := hb.size
  refine zF fun _ I => zH ?_
  refine zG (zC f rfl B) (zG (zC f rfl A) (zG (zC f rfl D) (zM fld65_2 (zC f rfl H) (zN one57 (zA f rfl) (M.cell rfl) (zj ok34 (same14_ret zx hJ t zx p s) ⟨(zA f rfl), ⟨(zA f rfl), ⟨(zA f rfl), ⟨(zA f rfl), trivial⟩⟩⟩⟩ ?_)))))
  rintro _ T ⟨H, rfl, P, Q, S⟩
  have S := M.lt
  have M := p.lt
  have M := s.lt
  have hJ_old := hJ
  have := H.size
  have hro := hro.keepG H (fun k hk => .inr (by have := hJ_old.lt k hk; omega))
  have p := p.keepG H (hJ_old.notOwn p zz zz zz)
  have s := s.keepG H (hJ_old.notOwn s zz zz zz)
  have hb := below_stepG hb H hb.size (fun k hk => (hJ_old.lt k hk).1)
  refine op_not (zA f rfl) (zB (I _ _ (wp_cond_false (zA f rfl) (wp_skip (g _ _ (zH (zG (zC f rfl O) (op_add (zA f rfl) rfl (add64 zx) (zD (zA f rfl) (zB ?_))))))))))
  -- round 21F 26T 69F
  exact zg _ f K ⟨(i + 1), R2, L2, X2, m2, P, ag, af, rfl, (zL f rfl J), (zL f rfl B), (zU f rfl).trans (congrArg (Value.int .i64) zx), (zL f rfl A), (zL f rfl D), zx, t, F, hb, zx, hro, Q, (p.cast (by first | rfl | (simp only [List.length_append, List.length_cons, List.length_nil, List.length_set] <;> omega)) rfl), (s.cast (by first | rfl | (simp only [List.length_append, List.length_cons, List.length_nil, List.length_set] <;> omega)) rfl)⟩ zx
 refine zB (I _ _ (wp_cond_false (zA z rfl) (wp_exit (then_exit (then_exit (blk_hit (a _ _ (zF fun _ a => zH (zD rfl (zB (a _ _ (wp_ret (ret1 rfl C (zA z rfl) ⟨_, rfl, ?_⟩)))))))))))))
 exact ⟨hb, rfl⟩

end Go.Proofs.Ytdhpalioifjfbaa

namespace Go.Proofs.Ytdhpalioifjfbaa
open Go.Gx Go.RowKit
theorem rd_le {w : World} {L B sz n : Nat} {v : Value} {cs : List Value} (h : RdC w L B sz v n cs) : n ≤ 9223372036854775807 := by obtain ⟨_, _, _, _, hq, hm, _⟩ := h; exact Nat.le_trans hq hm
theorem cells5 : Try.prog.cellsOf 5 = 1 := by kernel_rfl
end Go.Proofs.Ytdhpalioifjfbaa

namespace Go.Proofs.Ytdhpalioifjfbaa
open Go.Gx Go.RowKit
theorem cells65 : Try.prog.cellsOf 65 = 4 := by kernel_rfl
theorem cells3 : Try.prog.cellsOf 3 = 1 := by kernel_rfl
theorem cells57 : Try.prog.cellsOf 57 = 1 := by kernel_rfl
theorem four {l : List Value} (h : l.length = 4) : ∃ a b c d, l = [a, b, c, d] := by match l, h with | [a, b, c, d], _ => exact ⟨a, b, c, d, rfl⟩
theorem dec65 {H : Type} {enc : TypeId × Value → H} {w : World} {base : Nat} {spare : Nat → Bool} {held : Bool} : Dec enc Try.prog w base spare held 65 cellsH OkH := by
  intro fuel cs x h
  obtain ⟨xs, n, _, _, hl, hlen, hf⟩ := DataW.trod_struct Try.underlying65 h
  rw [cells65] at hl
  obtain ⟨c0, c1, c2, c3, rfl⟩ := four hl
  have hl4 : xs.length = 4 := hlen
  have g0 : DataW.trod enc Try.prog w base spare held n 3 (([c0, c1, c2, c3].drop 0).take (Try.prog.cellsOf 3)) = some xs[0] := (hf 0 _ rfl).trans (List.getElem?_eq_getElem (by omega))
  have g1 : DataW.trod enc Try.prog w base spare held n 3 (([c0, c1, c2, c3].drop 1).take (Try.prog.cellsOf 3)) = some xs[1] := (hf 1 _ rfl).trans (List.getElem?_eq_getElem (by omega))
  have g2 : DataW.trod enc Try.prog w base spare held n 57 (([c0, c1, c2, c3].drop 2).take (Try.prog.cellsOf 57)) = some xs[2] := (hf 2 _ rfl).trans (List.getElem?_eq_getElem (by omega))
  have g3 : DataW.trod enc Try.prog w base spare held n 5 (([c0, c1, c2, c3].drop 3).take (Try.prog.cellsOf 5)) = some xs[3] := (hf 3 _ rfl).trans (List.getElem?_eq_getElem (by omega))
  obtain ⟨k, e0, hk⟩ := Dec.int Try.underlying3 _ _ _ g0
  obtain ⟨s, e1, hs⟩ := Dec.int Try.underlying3 _ _ _ g1
  obtain ⟨z, e2, hz⟩ := Dec.int Try.underlying57 _ _ _ g2
  obtain ⟨x, e3, _⟩ := Dec.u8 Try.underlying5 _ _ _ g3
  simp only [cells3, cells5, cells57, List.drop_zero, List.drop_succ_cons, List.take_succ_cons, List.take_zero, List.cons.injEq, and_true] at e0 e1 e2 e3
  clear g0 g1 g2 g3 hf h
  obtain rfl := e0; obtain rfl := e1; obtain rfl := e2; obtain rfl := e3
  refine ⟨⟨k, s, z, x⟩, rfl, ?_, ?_, hz⟩
  · simpa [Lit.wf, IntKind.min, IntKind.max, IntKind.signed, IntKind.bits] using hk
  · simpa [Lit.wf, IntKind.min, IntKind.max, IntKind.signed, IntKind.bits] using hs
theorem dec61 {H : Type} {enc : TypeId × Value → H} {w : World} {base : Nat} {spare : Nat → Bool} {held : Bool} : Dec enc Try.prog w base spare held 61 (fun p : Value × List OpH => [p.1]) (fun p => RdC w 0 w.heap.size 4 p.1 p.2.length (p.2.flatMap cellsH) ∧ ∀ x ∈ p.2, OkH x) :=
  (Dec.slice Try.underlying61 (by rw [cells65]; decide) dec65 (fun _ _ => by rw [cells65]; rfl)).map fun p hp => ⟨p, rfl, by have hq := hp.1; rw [cells65] at hq; exact hq, hp.2⟩
end Go.Proofs.Ytdhpalioifjfbaa
