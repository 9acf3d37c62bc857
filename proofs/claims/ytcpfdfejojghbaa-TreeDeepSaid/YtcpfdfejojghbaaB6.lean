/- Walks, written by a program: what each function of the translation hands back. -/
import Derived.Test.YtcpfdfejojghbaaProg
import Derived.KernelRfl
import Derived.Test.YtcpfdfejojghbaaB5
namespace Go.Proofs.Ytcpfdfejojghbaa
open Go.Gx Go.RowKit
attribute [local irreducible] wpList wpStill Code.wp Calls
open Go.Bt
theorem getLsI {M : List (Ky × (Int))} {F : Nat → Prop} {x : List UInt8} {xv : Value} {p base : Nat} {w : World} (hT : TopL kI 71 base w p M F) (hkl : ∀ q ∈ M, q.1.length ≤ 1000000000) (hxr : RdC w 0 w.heap.size 1 xv x.length (x.map u8v)) (hDM : M.length ≤ 100000) : Ret Try.prog 30 #[(ptr p 0), xv] w (fun v' w' => Below w.heap.size w w' ∧ v' = .tuple #[.int .i64 ((getL x M).getD 0), .bool (getL x M).isSome]) := by
 have hb := Below.refl w.heap.size w
 refine enter (N := 28) Try.func30 rfl rfl (by simp) fun a0 hN hd hA => ?_
 have s0 : a0.tmps.getD 0 undef = (ptr p 0) := hA 0 (by simp)
 have s1 : a0.tmps.getD 1 undef = xv := hA 1 (by simp)
 clear hA
 refine seq_any fun K1 hK1 => ?_
 refine one_reg ?_
 refine op_assign rfl ?_
 refine op_assign rfl ?_
 refine reg_nil ?_
 refine hK1 _ _ ?_
 refine seq_any fun K2 hK2 => ?_
 refine one_reg ?_
 refine op_assign rfl ?_
 refine reg_nil ?_
 refine hK2 _ _ ?_
 refine seq_any fun K3 hK3 => ?_
 refine one_reg ?_
 refine op_move (ev_base hN rfl s0) ?_
 refine op_move (ev_base hN rfl s1) ?_
 refine op_fn (vs := [(ptr p 0), xv, (Value.int .i64 1)]) ok24 ⟨(ev_hit hN rfl), ⟨(ev_hit hN rfl), ⟨rfl, trivial⟩⟩⟩ (scanLsI (m := 1) (x := x) hT hkl (hxr.mono (Nat.zero_le _) (by omega)) (by omega) hDM) ?_
 rintro v4 w5 ⟨E6, D4, hO4, hks4, hE4, hpw4⟩
 have dj7 : Dj F (Bl v4) := Dj.fresh (fun k hk => (hT.lt k hk).2) (fun k hk => (hO4.lt k hk).1)
 have E6 := grown_of_below E6
 have z_w5 := E6.size
 have hT := hT.keepG (Gr.of0 E6 NoB) (fun _ _ h => h)
 have hxr := hxr.keep0 E6
 have hb := below_step0 hb E6 hb.size
 have hO4 := hO4.mono (base' := w.heap.size) (by omega)
 have hks4 : ∀ x9 ∈ (D4.map pk), Own w5 w.heap.size 5 1 x9.1 x9.2.length (x9.2.map u8v) := fun x9 h9 => (hks4 x9 h9).mono (by omega)
 refine op_assign (ev_hit hN rfl) ?_
 refine reg_nil ?_
 refine hK3 _ _ ?_
 refine seq_any fun K8 hK8 => ?_
 refine seq_any fun K9 hK9 => ?_
 refine one_reg ?_
 refine op_move (ev_hit hN rfl) ?_
 refine op_len_rd Try.underlying48 (ev_hit hN rfl) hO4.rdw ?_
 refine op_eql (ev_hit hN rfl) rfl (fun c13 => ?_) (fun c13 => ?_)
 · -- 13T
  refine op_move (ev_hit hN rfl) ?_
  refine g_false (j := 3) (dj := 14) (b := false) rfl rfl rfl (ev_hit hN rfl) rfl rfl ?_
  refine g_false (j := 3) (dj := 14) (b := false) rfl rfl rfl (ev_hit hN rfl) rfl rfl ?_
  refine g_false (j := 3) (dj := 14) (b := false) rfl rfl rfl (ev_hit hN rfl) rfl rfl ?_
  refine g_false (j := 3) (dj := 14) (b := false) rfl rfl rfl (ev_hit hN rfl) rfl rfl ?_
  refine g_false (j := 3) (dj := 14) (b := false) rfl rfl rfl (ev_hit hN rfl) rfl rfl ?_
  refine g_false (j := 3) (dj := 14) (b := false) rfl rfl rfl (ev_hit hN rfl) rfl rfl ?_
  refine g_false (j := 3) (dj := 14) (b := false) rfl rfl rfl (ev_hit hN rfl) rfl rfl ?_
  refine op_pick_t (ev_hit hN rfl) rfl ?_
  refine reg_nil ?_
  refine hK9 _ _ ?_
  refine wp_cond_true (ev_hit hN rfl) ?_
  refine seq_any fun K10 hK10 => ?_
  refine one_reg ?_
  refine op_move (ev_hit hN rfl) ?_
  refine op_assign (ev_hit hN rfl) ?_
  refine op_assign rfl ?_
  refine reg_nil ?_
  refine hK10 _ _ ?_
  refine wp_ret (then_ret ( ?_))
  refine ret2 rfl hd (ev_hit hN rfl) (ev_hit hN rfl) ⟨_, rfl, ?_⟩
  -- path 13T
  have hE1 : (geL x M).take 1 = D4.map Prod.snd := hE4.symm
  have hD0 : D4 = [] := List.eq_nil_of_length_eq_zero (by omega)
  rw [hD0] at hE1
  rw [getL_miss0 hE1]
  exact ⟨hb, rfl⟩
 · -- 13F
  refine op_move (ev_hit hN rfl) ?_
  refine g_true (j := 3) (dj := 14) (b := false) rfl rfl rfl (ev_hit hN rfl) ?_
  refine op_move (ev_hit hN rfl) ?_
  refine g_true (j := 3) (dj := 14) (b := false) rfl rfl rfl (ev_hit hN rfl) ?_
  refine op_index_rd slt48 (ev_hit hN rfl) hO4.rdw rfl (by omega) (by omega) ?_
  intro b11 o12 h0b11 h1b11 hc13
  refine g_true (j := 3) (dj := 14) (b := false) rfl rfl rfl (ev_hit hN rfl) ?_
  refine op_field fld51_0 (ev_hit hN rfl) ?_
  refine g_true (j := 3) (dj := 14) (b := false) rfl rfl rfl (ev_hit hN rfl) ?_
  refine op_load1 (v := (D4.getD 0 default).1) one27 (ev_hit hN rfl) (hc13 0 ((D4.getD 0 default).1) (by decide) ((el_pI (i := 0) (by omega) (by first | omega | (simp only [List.length_drop, List.length_take]; omega))) 0 ((D4.getD 0 default).1) rfl)) ?_
  refine g_true (j := 3) (dj := 14) (b := false) rfl rfl rfl (ev_hit hN rfl) ?_
  refine op_move (ev_base hN rfl s1) ?_
  refine g_true (j := 3) (dj := 14) (b := false) rfl rfl rfl (ev_hit hN rfl) ?_
  refine op_fn (vs := [(D4.getD 0 default).1, xv]) ok45 ⟨(ev_hit hN rfl), ⟨(ev_hit hN rfl), trivial⟩⟩ (eqK ((show Own _ _ _ _ (D4.getD 0 default).1 (D4.getD 0 default).2.1.length ((D4.getD 0 default).2.1.map u8v) from hks4 (pk (D4.getD 0 default)) (List.mem_map.2 ⟨(D4.getD 0 default), (getD_mem (by first | omega | (simp only [List.length_drop, List.length_take]; omega))), rfl⟩)).rdw.mono (Nat.zero_le _) (by omega)) (hxr.mono (Nat.zero_le _) (by omega))) ?_
  rintro _ w14 ⟨E15, rfl⟩
  have E15 := grown_of_below E15
  have z_w14 := E15.size
  have hT := hT.keepG (Gr.of0 E15 NoB) (fun _ _ h => h)
  have hxr := hxr.keep0 E15
  have hO4 := hO4.keep0 E15
  have hks4 : ∀ x9 ∈ (D4.map pk), Own w14 w.heap.size 5 1 x9.1 x9.2.length (x9.2.map u8v) := fun x9 hx9 => (hks4 x9 hx9).keep0 E15
  have hb := below_step0 hb E15 hb.size
  rcases Bool.eq_false_or_eq_true ((decide ((D4.getD 0 default).2.1 = x))) with c20 | c20
  · -- 20T
   rw [c20]
   refine g_true (j := 3) (dj := 14) (b := false) rfl rfl rfl (ev_hit hN rfl) ?_
   refine op_not (ev_hit hN rfl) ?_
   refine op_pick_f (ev_hit hN rfl) (ev_hit hN rfl) ?_
   refine reg_nil ?_
   refine hK9 _ _ ?_
   refine wp_cond_false (ev_hit hN rfl) ?_
   refine wp_skip ?_
   refine hK8 _ _ ?_
   refine seq_any fun K16 hK16 => ?_
   refine one_reg ?_
   refine op_move (ev_hit hN rfl) ?_
   refine op_index_rd slt48 (ev_hit hN rfl) hO4.rdw rfl (by omega) (by omega) ?_
   intro b17 o18 h0b17 h1b17 hc19
   refine op_field fld51_1 (ev_hit hN rfl) ?_
   refine op_load1 (v := (Value.int .i64 (D4.getD 0 default).2.2)) one3 (ev_hit hN rfl) (hc19 1 ((Value.int .i64 (D4.getD 0 default).2.2)) (by decide) ((el_pI (i := 0) (by omega) (by first | omega | (simp only [List.length_drop, List.length_take]; omega))) 1 ((Value.int .i64 (D4.getD 0 default).2.2)) rfl)) ?_
   refine op_assign (ev_hit hN rfl) ?_
   refine op_assign rfl ?_
   refine reg_nil ?_
   refine hK16 _ _ ?_
   refine wp_ret ?_
   refine ret2 rfl hd (ev_hit hN rfl) (ev_hit hN rfl) ⟨_, rfl, ?_⟩
   -- path 13F 20T
   have hE1 : (geL x M).take 1 = D4.map Prod.snd := hE4.symm
   rw [show D4 = D4.getD 0 default :: D4.tail from cons9 (by omega), List.map_cons] at hE1
   rw [getL_hit hT.sorted hE1 (of_decide_eq_true c20)]
   exact ⟨hb, rfl⟩
  · -- 20F
   rw [c20]
   refine g_true (j := 3) (dj := 14) (b := false) rfl rfl rfl (ev_hit hN rfl) ?_
   refine op_not (ev_hit hN rfl) ?_
   refine op_pick_f (ev_hit hN rfl) (ev_hit hN rfl) ?_
   refine reg_nil ?_
   refine hK9 _ _ ?_
   refine wp_cond_true (ev_hit hN rfl) ?_
   refine seq_any fun K20 hK20 => ?_
   refine one_reg ?_
   refine op_move (ev_hit hN rfl) ?_
   refine op_assign (ev_hit hN rfl) ?_
   refine op_assign rfl ?_
   refine reg_nil ?_
   refine hK20 _ _ ?_
   refine wp_ret (then_ret ( ?_))
   refine ret2 rfl hd (ev_hit hN rfl) (ev_hit hN rfl) ⟨_, rfl, ?_⟩
   -- path 13F 20F
   have hE1 : (geL x M).take 1 = D4.map Prod.snd := hE4.symm
   rw [show D4 = D4.getD 0 default :: D4.tail from cons9 (by omega), List.map_cons] at hE1
   rw [getL_miss1 hT.sorted hE1 (of_decide_eq_false c20)]
   exact ⟨hb, rfl⟩

end Go.Proofs.Ytcpfdfejojghbaa

/- The list that laws keep beside a tree: keys and values, rising. -/
namespace Go.Gx
open Go.Bt Go.RowKit
section
variable {w w' : World} {base p n : Nat} {M : List (Ky × Int)} {F H : Nat → Prop} {k : Ky} {v : Int}
def PairsR (base : Nat) (w : World) (p : Nat) (M : List (Ky × Int)) (F : Nat → Prop) : Prop :=
  ∃ kv vv, Bx w p 58 [kv, vv] ∧ Own w base 9 1 kv (M.map Prod.fst).length ((M.map Prod.fst).map sv) ∧ Own w base 3 1 vv (M.map Prod.snd).length ((M.map Prod.snd).map (Value.int .i64)) ∧ base ≤ p ∧ ∀ k, F k ↔ k = p ∨ Bl kv k ∨ Bl vv k
theorem PairsR.lt (T : PairsR base w p M F) : ∀ k, F k → base ≤ k ∧ k < w.heap.size := fun k hk => by
  obtain ⟨kv, vv, hB, h1, h2, hp, hF⟩ := T
  rcases (hF k).1 hk with rfl | hk | hk
  · exact ⟨hp, hB.lt⟩
  · exact h1.lt k hk
  · exact h2.lt k hk
theorem PairsR.keepG (T : PairsR base w p M F) (E : Gr w w' H) (hd : Dj F H) : PairsR base w' p M F := by
  obtain ⟨kv, vv, hB, h1, h2, hp, hF⟩ := T
  exact ⟨kv, vv, hB.keepG E (hd p ((hF p).2 (.inl rfl))), h1.keepG E (fun k h => hd k ((hF k).2 (.inr (.inl h)))), h2.keepG E (fun k h => hd k ((hF k).2 (.inr (.inr h)))), hp, hF⟩
end
end Go.Gx
namespace Go.Gx
end Go.Gx
namespace Go.Gx
end Go.Gx
namespace Go.Gx
open Go.Bt Go.RowKit
section
variable {D : List (DP Int)} {M : List (Ky × Int)} {i k n : Nat}
end
end Go.Gx
namespace Go.Gx
open Go.Bt Go.RowKit
section
variable {V : Type} {κ : Kd V} {w : World} {F : Nat → Prop} {b base base' p tT e sz n : Nat} {M : List (Ky × V)} {v : Value} {cs : List Value}
theorem hapB (h : ¬ F b) : ∀ j, F j → j < b ∨ b + 1 ≤ j := fun j hj => by
  rcases Nat.lt_trichotomy j b with q | q | q
  · exact .inl q
  · subst q; exact absurd hj h
  · exact .inr q
theorem own_at (O : Own w base e sz v n cs) (hd : Dj (Bl v) F) : ∃ L B, RdC w L B sz v n cs ∧ B ≤ w.heap.size ∧ ∀ j, F j → j < L ∨ B ≤ j := by
  rcases hv : v.ownBlock with _ | b
  · refine ⟨w.heap.size, 0, ?_, Nat.zero_le _, fun j _ => .inr (Nat.zero_le _)⟩
    rcases O.2 with ⟨rfl, _⟩ | ⟨g, off, cap, cur, fr, rfl, _⟩
    · have hn : n = 0 := by rcases O with ⟨_, ⟨_, h⟩ | ⟨g, off, cap, cur, fr, h, _⟩⟩; exact h; cases h
      have hc : cs = [] := List.eq_nil_of_length_eq_zero (by rw [O.1, hn, Nat.zero_mul])
      subst hn; subst hc; exact RdC.nil _ _ _ _
    · cases hv
  · have h1 := O.rebase (base' := b) (fun k hk => by rw [hv] at hk; injection hk with hk; omega)
    refine ⟨b, b + 1, h1.rd (fun k hk => by rw [hv] at hk; injection hk with hk; omega), (O.lt b hv).2, hapB fun hf => hd b hv hf⟩
theorem TopL.rebase (T : TopL κ tT base w p M F) (h : base' ≤ base) : TopL κ tT base' w p M F := by
  obtain ⟨o, ⟨h1, h2, h3, h4⟩, e⟩ := T
  exact ⟨o, ⟨h1, fun k hk => ⟨Nat.le_trans h (h2 k hk).1, (h2 k hk).2⟩, h3, h4⟩, e⟩
end
end Go.Gx
namespace Go.Bt
theorem one_sum {r : List Nat} {n : Nat} (h : r.length = 1) (hs : r.sum = n) : r.getD 0 0 = n := by
  match r, h with
  | [a], _ => simpa using hs
end Go.Bt

/- Walks, written by a program: what each function of the translation hands back. -/
namespace Go.Proofs.Ytcpfdfejojghbaa
open Go.Gx Go.RowKit
attribute [local irreducible] wpList wpStill Code.wp Calls
open Go.Bt
end Go.Proofs.Ytcpfdfejojghbaa

/- Walks, written by a program: what each function of the translation hands back. -/
namespace Go.Proofs.Ytcpfdfejojghbaa
open Go.Gx Go.RowKit
attribute [local irreducible] wpList wpStill Code.wp Calls
open Go.Bt
end Go.Proofs.Ytcpfdfejojghbaa

/- Walks, written by a program: what each function of the translation hands back. -/
namespace Go.Proofs.Ytcpfdfejojghbaa
open Go.Gx Go.RowKit
attribute [local irreducible] wpList wpStill Code.wp Calls
open Go.Bt
end Go.Proofs.Ytcpfdfejojghbaa

/- Walks, written by a program: what each function of the translation hands back. -/
namespace Go.Proofs.Ytcpfdfejojghbaa
open Go.Gx Go.RowKit
attribute [local irreducible] wpList wpStill Code.wp Calls
open Go.Bt
end Go.Proofs.Ytcpfdfejojghbaa

/- Walks, written by a program: what each function of the translation hands back. -/
namespace Go.Proofs.Ytcpfdfejojghbaa
open Go.Gx Go.RowKit
attribute [local irreducible] wpList wpStill Code.wp Calls
open Go.Bt
end Go.Proofs.Ytcpfdfejojghbaa

/- Walks, written by a program: what each function of the translation hands back. -/
namespace Go.Proofs.Ytcpfdfejojghbaa
open Go.Gx Go.RowKit
attribute [local irreducible] wpList wpStill Code.wp Calls
open Go.Bt
end Go.Proofs.Ytcpfdfejojghbaa

/- Walks, written by a program: what each function of the translation hands back. -/
namespace Go.Proofs.Ytcpfdfejojghbaa
open Go.Gx Go.RowKit
attribute [local irreducible] wpList wpStill Code.wp Calls
open Go.Bt
theorem putLsE {M M' : List (Ky × Int)} {k : List UInt8} {xv : Value} {x : Int} {c : Bool} {F : Nat → Prop} {p base L B : Nat} {w : World} (hT : TopL kI 71 base w p M F) (hb : base ≤ w.heap.size) (hk : RdC w L B 1 xv k.length (k.map u8v)) (hB : B ≤ w.heap.size) (hap : ∀ j, F j → j < L ∨ B ≤ j) (hkn : k.length ≤ 1000000000) (hM : putL k x M = M') (hc : (ks1 M).contains k = c) :
    Ret Try.prog 23 #[ptr p 0, xv, .int .i64 x] w (fun v' w' => Gr w w' F ∧ v' = .bool c ∧ ∃ F', TopL kI 71 base w' p M' F' ∧ NewF w.heap.size F F') := by
  subst hM; subst hc
  exact putLsI hT hb hk hB hap hkn
theorem getLsE {M : List (Ky × Int)} {F : Nat → Prop} {x : List UInt8} {xv : Value} {p base : Nat} {g : Int} {c : Bool} {w : World} (hT : TopL kI 71 base w p M F) (hkl : ∀ q ∈ M, q.1.length ≤ 1000000000) (hxr : RdC w 0 w.heap.size 1 xv x.length (x.map u8v)) (hDM : M.length ≤ 100000) (hg : (getL x M).getD 0 = g) (hc : (getL x M).isSome = c) : Ret Try.prog 30 #[ptr p 0, xv] w (fun v' w' => Below w.heap.size w w' ∧ v' = .tuple #[.int .i64 g, .bool c]) := by
  subst hg; subst hc
  exact getLsI hT hkl hxr hDM
theorem begun15 {w : World} : Ret Try.prog 11 #[] w (fun v' w' => Below w.heap.size w w' ∧ v' = .bool true) := by
 have hb := Below.refl w.heap.size w
 refine enter (N := 62) Try.func11 rfl rfl (by simp) fun a0 hN hd hA => ?_
 clear hA
 refine seq_any fun K1 hK1 => ?_
 refine one_reg ?_
 refine op_assign rfl ?_
 refine reg_nil ?_
 refine hK1 _ _ ?_
 refine seq_any fun K2 hK2 => ?_
 refine one_reg ?_
 refine op_fn (vs := []) ok22 trivial (newLI) ?_
 rintro _ w4 ⟨E5, p3, F3, rfl, hT3⟩
 have E5 := grown_of_below E5
 have hlo6 : ∀ k, F3 k → w.heap.size ≤ k := fun k hk => (hT3.lt k hk).1
 have z_w4 := E5.size
 have hb := below_step0 hb E5 hb.size
 have hT3 : TopL kI 71 w.heap.size w4 p3 [] F3 := hT3.rebase (by omega)
 refine op_assign (ev_hit hN rfl) ?_
 refine reg_nil ?_
 refine hK2 _ _ ?_
 refine seq_any fun K7 hK7 => ?_
 refine one_reg ?_
 refine op_move (ev_hit hN rfl) ?_
 refine op_bslice (e := 5) (pv := [(0, (Value.int .u8 98))]) (cs := [(Value.int .u8 98)]) ⟨rfl, rfl, trivial⟩ (by kernel_rfl) ?_
 intro w8 b9 lo_b9 hi_b9 hB11 E10
 have dj12 : ¬ F3 b9 := fun hf => by have := (hT3.lt _ hf).2; omega
 have z_w8 := E10.size
 have hT3 := hT3.keepG (Gr.of0 E10 NoB) (fun _ _ h => h)
 have hb := below_step0 hb E10 hb.size
 have hB11_old := hB11
 refine op_conv_bytes (base := w.heap.size) Try.underlying27 Try.underlying5 (ev_hit hN rfl) hB11 rfl (by decide) (by omega) ?_
 intro w13 hO15 E14
 have z_w13 := E14.size
 have hT3 := hT3.keepG (Gr.of E14) (Dj.one dj12)
 have hb := below_step1 hb E14 hb.size (by omega)
 have dj16 : Dj (Bl (Value.slice (some ⟨b9, 0, none⟩) 1 1)) F3 := (Dj.one dj12).symm
 obtain ⟨L18, B18, hr18, hB18, hq18⟩ := own_at hO15 dj16
 refine op_fn (vs := [(ptr p3 0), (Value.slice (some ⟨b9, 0, none⟩) 1 1), (Value.int .i64 1)]) ok23 ⟨(ev_hit hN rfl), ⟨(ev_hit hN rfl), ⟨rfl, trivial⟩⟩⟩ (putLsE (k := [98]) (x := 1) (M := []) (M' := ([([98], 1)] : List (Ky × Int))) (c := false) hT3 hb.size hr18 hB18 hq18 (by decide) (by decide) (by decide)) ?_
 rintro _ w19 ⟨E20, rfl, F17, hT17, hN17⟩
 have bd21 := hO15.lt
 have hT3_old := hT3
 have z_w19 := E20.size
 have hO15 := hO15.keepG E20 dj16
 have hb := below_stepG hb E20 hb.size (fun k hk => (hT3_old.lt k hk).1)
 have dj22 : Dj (Bl (Value.slice (some ⟨b9, 0, none⟩) 1 1)) F17 := Dj.stepF hN17 (fun k hk => (bd21 k hk).2) dj16
 refine op_assign (ev_hit hN rfl) ?_
 refine reg_nil ?_
 refine hK7 _ _ ?_
 refine seq_any fun K23 hK23 => ?_
 refine one_reg ?_
 skip
 refine op_move (ev_hit hN rfl) ?_
 refine op_bslice (e := 5) (pv := [(0, (Value.int .u8 98))]) (cs := [(Value.int .u8 98)]) ⟨rfl, rfl, trivial⟩ (by kernel_rfl) ?_
 intro w24 b25 lo_b25 hi_b25 hB27 E26
 have dj28 : ¬ F17 b25 := fun hf => by have := (hT17.lt _ hf).2; omega
 have z_w24 := E26.size
 have hT17 := hT17.keepG (Gr.of0 E26 NoB) (fun _ _ h => h)
 have hb := below_step0 hb E26 hb.size
 have hB27_old := hB27
 refine op_conv_bytes (base := w.heap.size) Try.underlying27 Try.underlying5 (ev_hit hN rfl) hB27 rfl (by decide) (by omega) ?_
 intro w29 hO31 E30
 have z_w29 := E30.size
 have hT17 := hT17.keepG (Gr.of E30) (Dj.one dj28)
 have hb := below_step1 hb E30 hb.size (by omega)
 have dj32 : Dj (Bl (Value.slice (some ⟨b25, 0, none⟩) 1 1)) F17 := (Dj.one dj28).symm
 obtain ⟨L34, B34, hr34, hB34, hq34⟩ := own_at hO31 dj32
 refine op_fn (vs := [(ptr p3 0), (Value.slice (some ⟨b25, 0, none⟩) 1 1), (Value.int .i64 2)]) ok23 ⟨(ev_hit hN rfl), ⟨(ev_hit hN rfl), ⟨rfl, trivial⟩⟩⟩ (putLsE (k := [98]) (x := 2) (M := ([([98], 1)] : List (Ky × Int))) (M' := ([([98], 2)] : List (Ky × Int))) (c := true) hT17 hb.size hr34 hB34 hq34 (by decide) (by decide) (by decide)) ?_
 rintro _ w35 ⟨E36, rfl, F33, hT33, hN33⟩
 have bd37 := hO31.lt
 have hT17_old := hT17
 have z_w35 := E36.size
 have hO31 := hO31.keepG E36 dj32
 have hb := below_stepG hb E36 hb.size (fun k hk => (hT17_old.lt k hk).1)
 have dj38 : Dj (Bl (Value.slice (some ⟨b25, 0, none⟩) 1 1)) F33 := Dj.stepF hN33 (fun k hk => (bd37 k hk).2) dj32
 refine op_assign (ev_hit hN rfl) ?_
 refine reg_nil ?_
 refine hK23 _ _ ?_
 refine seq_any fun K39 hK39 => ?_
 refine one_reg ?_
 skip
 refine op_move (ev_hit hN rfl) ?_
 refine op_bslice (e := 5) (pv := [(0, (Value.int .u8 98))]) (cs := [(Value.int .u8 98)]) ⟨rfl, rfl, trivial⟩ (by kernel_rfl) ?_
 intro w40 b41 lo_b41 hi_b41 hB43 E42
 have dj44 : ¬ F33 b41 := fun hf => by have := (hT33.lt _ hf).2; omega
 have z_w40 := E42.size
 have hT33 := hT33.keepG (Gr.of0 E42 NoB) (fun _ _ h => h)
 have hb := below_step0 hb E42 hb.size
 have hB43_old := hB43
 refine op_conv_bytes (base := w.heap.size) Try.underlying27 Try.underlying5 (ev_hit hN rfl) hB43 rfl (by decide) (by omega) ?_
 intro w45 hO47 E46
 have z_w45 := E46.size
 have hT33 := hT33.keepG (Gr.of E46) (Dj.one dj44)
 have hb := below_step1 hb E46 hb.size (by omega)
 have dj48 : Dj (Bl (Value.slice (some ⟨b41, 0, none⟩) 1 1)) F33 := (Dj.one dj44).symm
 refine op_fn (vs := [(ptr p3 0), (Value.slice (some ⟨b41, 0, none⟩) 1 1)]) ok30 ⟨(ev_hit hN rfl), ⟨(ev_hit hN rfl), trivial⟩⟩ (getLsE (x := [98]) (g := 2) (c := true) hT33 (by decide) (hO47.rdw.mono (Nat.zero_le _) (by omega)) (by decide) (by decide) (by decide)) ?_
 rintro _ w49 ⟨E50, rfl⟩
 have E50 := grown_of_below E50
 have z_w49 := E50.size
 have hT33 := hT33.keepG (Gr.of0 E50 NoB) (fun _ _ h => h)
 have hO47 := hO47.keep0 E50
 have hb := below_step0 hb E50 hb.size
 refine op_move (ev_hit hN rfl) ?_
 refine op_extract (ev_hit hN rfl) rfl ?_
 refine op_extract (ev_hit hN rfl) rfl ?_
 refine op_assign (ev_hit hN rfl) ?_
 refine op_assign (ev_hit hN rfl) ?_
 refine reg_nil ?_
 refine hK39 _ _ ?_
 refine seq_any fun K51 hK51 => ?_
 refine one_reg ?_
 skip
 refine op_move (ev_hit hN rfl) ?_
 refine op_fn (vs := [(ptr p3 0)]) ok33 ⟨(ev_hit hN rfl), trivial⟩ (levLsI hT33 (by decide)) ?_
 rintro v52 w53 ⟨E54, LL52, LV52, hO52, hA52, hlev52, hLK52⟩
 have dj55 : Dj F33 (Bl v52) := Dj.fresh (fun k hk => (hT33.lt k hk).2) (fun k hk => (hO52.lt k hk).1)
 have E54 := grown_of_below E54
 have z_w53 := E54.size
 have hT33 := hT33.keepG (Gr.of0 E54 NoB) (fun _ _ h => h)
 have hb := below_step0 hb E54 hb.size
 have hLn52 := lev_len hlev52
 have hz52 := hLK52.zero
 have hle52 := hLK52.le
 have hO52 := hO52.mono (base' := w.heap.size) (by omega)
 have hA52 : ∀ x9 ∈ LL52, Own w53 w.heap.size 3 1 x9.1 x9.2.length (x9.2.map (Value.int .i64)) := fun x9 h9 => (hA52 x9 h9).mono (by omega)
 refine op_assign (ev_hit hN rfl) ?_
 refine reg_nil ?_
 refine hK51 _ _ ?_
 refine seq_any fun K56 hK56 => ?_
 refine one_reg ?_
 have hM1 : ([([98], 2)] : List (Ky × Int)).length = 1 := rfl
 have hLL1 : LL52.length = 1 := by omega
 have hat := lev_at hlev52 0
 have hw : (LV52.getD 0 []).length = 1 := (hLK52.at_ 0 (by omega)).1
 have hlen9 : (LL52.getD 0 default).2.length = 1 := by rw [hat, List.length_map]; exact hw
 have hs9 : (LV52.getD 0 []).sum = 1 := by have := hLK52.sum; rw [show LV52.length - 1 = 0 by omega] at this; exact this
 have h00 : (LL52.getD 0 default).2.getD 0 0 = 1 := by rw [hat, ints_at]; have := one_sum hw hs9; omega
 refine op_move (ev_hit hN rfl) ?_
 refine op_not (ev_hit hN rfl) ?_
 refine op_move (ev_hit hN rfl) ?_
 refine g_true (j := 2) (dj := 27) (b := true) rfl rfl rfl (ev_hit hN rfl) ?_
 refine op_move (ev_hit hN rfl) ?_
 refine op_pick_t (ev_hit hN rfl) (ev_hit hN rfl) ?_
 refine op_move (ev_hit hN rfl) ?_
 refine g_true (j := 5) (dj := 30) (b := true) rfl rfl rfl (ev_hit hN rfl) ?_
 refine op_move (ev_hit hN rfl) ?_
 refine op_pick_t (ev_hit hN rfl) (ev_hit hN rfl) ?_
 refine op_move (ev_hit hN rfl) ?_
 refine g_true (j := 8) (dj := 33) (b := true) rfl rfl rfl (ev_hit hN rfl) ?_
 refine op_move (ev_hit hN rfl) ?_
 refine g_true (j := 8) (dj := 33) (b := true) rfl rfl rfl (ev_hit hN rfl) ?_
 refine op_bin (v := .bool true) (ev_hit hN rfl) rfl (by rw [binOp_eql]; rfl) ?_
 refine op_pick_t (ev_hit hN rfl) (ev_hit hN rfl) ?_
 refine op_move (ev_hit hN rfl) ?_
 refine g_true (j := 12) (dj := 37) (b := true) rfl rfl rfl (ev_hit hN rfl) ?_
 refine op_move (ev_hit hN rfl) ?_
 refine g_true (j := 12) (dj := 37) (b := true) rfl rfl rfl (ev_hit hN rfl) ?_
 refine op_fn (vs := [(ptr p3 0)]) ok25 ⟨(ev_hit hN rfl), trivial⟩ (lenLsI hT33 (by decide)) ?_
 rintro _ w57 ⟨E58, rfl⟩
 have E58 := grown_of_below E58
 have z_w57 := E58.size
 have hT33 := hT33.keepG (Gr.of0 E58 NoB) (fun _ _ h => h)
 have hO52 := hO52.keep0 E58
 have hA52 : ∀ x9 ∈ LL52, Own w57 w.heap.size 3 1 x9.1 x9.2.length (x9.2.map (Value.int .i64)) := fun x9 hx9 => (hA52 x9 hx9).keep0 E58
 have hb := below_step0 hb E58 hb.size
 refine g_true (j := 12) (dj := 37) (b := true) rfl rfl rfl (ev_hit hN rfl) ?_
 refine op_eql (ev_hit hN rfl) rfl (fun c40 => ?_) (fun c40 => ?_)
 · -- 40T
  refine op_pick_t (ev_hit hN rfl) (ev_hit hN rfl) ?_
  refine op_move (ev_hit hN rfl) ?_
  refine g_true (j := 17) (dj := 42) (b := true) rfl rfl rfl (ev_hit hN rfl) ?_
  refine op_move (ev_hit hN rfl) ?_
  refine g_true (j := 17) (dj := 42) (b := true) rfl rfl rfl (ev_hit hN rfl) ?_
  refine op_len_rd Try.underlying28 (ev_hit hN rfl) hO52.rdw ?_
  refine g_true (j := 17) (dj := 42) (b := true) rfl rfl rfl (ev_hit hN rfl) ?_
  refine op_eql (ev_hit hN rfl) rfl (fun c45 => ?_) (fun c45 => ?_)
  · -- 45T
   refine op_pick_t (ev_hit hN rfl) (ev_hit hN rfl) ?_
   refine op_move (ev_hit hN rfl) ?_
   refine g_true (j := 22) (dj := 47) (b := true) rfl rfl rfl (ev_hit hN rfl) ?_
   refine op_move (ev_hit hN rfl) ?_
   refine g_true (j := 22) (dj := 47) (b := true) rfl rfl rfl (ev_hit hN rfl) ?_
   refine op_index_rd slt28 (ev_hit hN rfl) hO52.rdw rfl (by omega) (by omega) ?_
   intro b59 o60 h0b59 h1b59 hc61
   refine g_true (j := 22) (dj := 47) (b := true) rfl rfl rfl (ev_hit hN rfl) ?_
   have hs62 : Own w57 w.heap.size 3 1 (LL52.getD 0 default).1 (LL52.getD 0 default).2.length ((LL52.getD 0 default).2.map (Value.int .i64)) := hA52 _ (getD_mem (by omega))
   refine op_load1 (v := (LL52.getD 0 default).1) one30 (ev_hit hN rfl) (by have := hc61 0 (LL52.getD 0 default).1 (by decide) (el_ll (i := 0) (d := default) (by omega) (by omega)); simpa using this) ?_
   refine g_true (j := 22) (dj := 47) (b := true) rfl rfl rfl (ev_hit hN rfl) ?_
   refine op_len_rd Try.underlying30 (ev_hit hN rfl) hs62.rdw ?_
   refine g_true (j := 22) (dj := 47) (b := true) rfl rfl rfl (ev_hit hN rfl) ?_
   refine op_eql (ev_hit hN rfl) rfl (fun c52 => ?_) (fun c52 => ?_)
   · -- 52T
    refine op_pick_t (ev_hit hN rfl) (ev_hit hN rfl) ?_
    refine op_move (ev_hit hN rfl) ?_
    refine g_true (j := 29) (dj := 54) (b := true) rfl rfl rfl (ev_hit hN rfl) ?_
    refine op_move (ev_hit hN rfl) ?_
    refine g_true (j := 29) (dj := 54) (b := true) rfl rfl rfl (ev_hit hN rfl) ?_
    refine op_index_rd slt28 (ev_hit hN rfl) hO52.rdw rfl (by omega) (by omega) ?_
    intro b63 o64 h0b63 h1b63 hc65
    refine g_true (j := 29) (dj := 54) (b := true) rfl rfl rfl (ev_hit hN rfl) ?_
    refine op_load1 (v := (LL52.getD 0 default).1) one30 (ev_hit hN rfl) (by have := hc65 0 (LL52.getD 0 default).1 (by decide) (el_ll (i := 0) (d := default) (by omega) (by omega)); simpa using this) ?_
    refine g_true (j := 29) (dj := 54) (b := true) rfl rfl rfl (ev_hit hN rfl) ?_
    refine op_index_rd slt30 (ev_hit hN rfl) hs62.rdw rfl (by omega) (by omega) ?_
    intro b67 o68 h0b67 h1b67 hc69
    refine g_true (j := 29) (dj := 54) (b := true) rfl rfl rfl (ev_hit hN rfl) ?_
    refine op_load1 (v := (Value.int .i64 ((LL52.getD 0 default).2.getD 0 0))) one3 (ev_hit hN rfl) (by have := hc69 0 (Value.int .i64 ((LL52.getD 0 default).2.getD 0 0)) (by decide) (el_i64 (i := 0) (by omega) (by omega)); simpa using this) ?_
    refine g_true (j := 29) (dj := 54) (b := true) rfl rfl rfl (ev_hit hN rfl) ?_
    refine op_eql (ev_hit hN rfl) rfl (fun c60 => ?_) (fun c60 => ?_)
    · -- 60T
     refine op_pick_t (ev_hit hN rfl) (ev_hit hN rfl) ?_
     refine op_assign (ev_hit hN rfl) ?_
     refine reg_nil ?_
     refine hK56 _ _ ?_
     refine wp_ret ?_
     refine ret1 rfl hd (ev_hit hN rfl) ⟨_, rfl, ?_⟩
     -- path 40T 45T 52T 60T
     exact ⟨hb, rfl⟩
    · -- 60F
     exfalso; omega
   · -- 52F
    exfalso; omega
  · -- 45F
   exfalso; omega
 · -- 40F
  exfalso; omega

end Go.Proofs.Ytcpfdfejojghbaa

/- What the laws of trees say, plainly. -/
namespace Go.Bt
section
variable {V : Type} {L : List (List Nat)} {n d m i j : Nat} {M : List (Ky × V)} {v : V}
/-- A number's two low bytes. -/
def k2 (k : Nat) : Ky := [UInt8.ofNat (k / 256), UInt8.ofNat k]
theorem k2_inj {a b : Nat} (ha : a < 65536) (hb : b < 65536) (h : k2 a = k2 b) : a = b := by
  unfold k2 at h
  injection h with h1 h2
  injection h2 with h2 _
  have h1 := congrArg UInt8.toNat h1
  have h2 := congrArg UInt8.toNat h2
  simp only [UInt8.toNat_ofNat'] at h1 h2
  omega
theorem grow_keys {f : Nat → Ky} (H : SortedL M) (hl : M.length = i) (hm : ∀ q ∈ M, ∃ j, j < i ∧ q.1 = f j) (inj : ∀ j, j < i → f j ≠ f i) : (putL (f i) v M).length = i + 1 ∧ ∀ q ∈ putL (f i) v M, ∃ j, j < i + 1 ∧ q.1 = f j := by
  have hc : (ks1 M).contains (f i) = false := by
    rw [Bool.eq_false_iff]; intro h
    obtain ⟨q, hq, e⟩ := has_iff.1 h
    obtain ⟨j, hj, e2⟩ := hm q hq
    exact inj j hj (e2.symm.trans e)
  refine ⟨by rw [putL_len H, hc, hl]; rfl, fun q hq => ?_⟩
  rcases mem_putL.1 hq with rfl | ⟨_, hq⟩
  · exact ⟨i, by omega, rfl⟩
  · obtain ⟨j, hj, e⟩ := hm q hq; exact ⟨j, by omega, e⟩
theorem row_pos (H : LevOk L n) : ∀ {i : Nat}, i < L.length → 1 ≤ (L.getD i []).length
  | 0, hi => by rw [(H.at_ 0 hi).1]; exact Nat.le_refl _
  | i + 1, hi => by
    have a := H.grows i hi
    have b := row_pos H (i := i) (by omega)
    split at a <;> omega
theorem row_two (H : LevOk L n) (h0 : 0 < i) (hi : i < L.length) : 2 ≤ (L.getD i []).length := by
  obtain ⟨i, rfl⟩ : ∃ k, i = k + 1 := ⟨i - 1, by omega⟩
  have a := H.grows i hi
  have b := row_pos H (i := i) (by omega)
  split at a <;> omega
theorem deep_last (H : LevOk L n) (h : 0 < L.length) : (L.getD (L.length - 1) []).length ≤ max (n / 3) 1 := by
  by_cases h1 : L.length = 1
  · rw [(H.at_ (L.length - 1) (by omega)).1, h1]; exact Nat.le_max_right ..
  · have a := (H.at_ (L.length - 1) (by omega)).2
    have b := sum_low (m := 3) fun m hm => (a m hm).2.2 (by omega)
    rw [H.sum] at b
    omega
theorem deep_go (H : LevOk L n) (hd : d < L.length → (L.getD (L.length - 1 - d) []).length ≤ m) (hm : 1 < m) : d + 1 < L.length → (L.getD (L.length - 1 - (d + 1)) []).length ≤ max (m / 4) 1 := fun h => by
  have a := hd (by omega)
  have b := H.grows (L.length - 1 - (d + 1)) (by omega)
  rw [show L.length - 1 - (d + 1) + 1 = L.length - 1 - d by omega] at b
  by_cases h0 : L.length - 1 - (d + 1) = 0
  · have := (H.at_ (L.length - 1 - (d + 1)) (by omega)).1
    rw [h0] at this ⊢
    rw [this]; exact Nat.le_max_right ..
  · rw [if_neg h0] at b
    omega
theorem deep_end (H : LevOk L n) (hd : d < L.length → (L.getD (L.length - 1 - d) []).length ≤ m) (hm : m ≤ 1) : L.length ≤ d + 1 := by
  rcases Nat.lt_or_ge (d + 1) L.length with h | h
  · have a := hd (by omega)
    have b := row_two H (i := L.length - 1 - d) (by omega) (by omega)
    omega
  · exact h
/-- The keys of TreeDeep. -/
def kf (down : Bool) (s j : Nat) : Nat := if down then 5000 - j * s else j * s
theorem kf_inj {down : Bool} {s : Nat} (hs : 1 ≤ s ∧ s ≤ 9) (hi : i ≤ 255) : ∀ j, j < i → k2 (kf down s j) ≠ k2 (kf down s i) := fun j hj e => by
  have h1 : j * s ≤ 2295 := Nat.le_trans (Nat.mul_le_mul (show j ≤ 255 by omega) hs.2) (by decide)
  have h2 : i * s ≤ 2295 := Nat.le_trans (Nat.mul_le_mul hi hs.2) (by decide)
  have h3 : j * s + s ≤ i * s := by
    have := Nat.mul_le_mul_right s (show j + 1 ≤ i by omega)
    rwa [Nat.add_mul, Nat.one_mul] at this
  have := k2_inj (a := kf down s j) (b := kf down s i) (by unfold kf; split <;> omega) (by unfold kf; split <;> omega) e
  unfold kf at this
  split at this <;> omega
end
end Go.Bt
namespace Go.Bt
section
variable {M N : List (Ky × Int)} {i n kk : Nat} {f g : Nat → UInt16}
end
end Go.Bt
namespace Go.Gx
open Go.Bt
end Go.Gx

/- Walks, written by a program: what each function of the translation hands back. -/
namespace Go.Proofs.Ytcpfdfejojghbaa
open Go.Gx Go.RowKit
attribute [local irreducible] wpList wpStill Code.wp Calls
open Go.Bt
theorem TreeDeep_ret (n step : UInt8) (down : Bool) (w : World) : Ret Try.prog 3 #[(Value.int .u8 (n.toNat : Int)), (Value.int .u8 (step.toNat : Int)), (Value.bool down)] w (fun v' w' => Below w.heap.size w w' ∧ v' = .bool true) := by
 have hn9 := n.toNat_lt
 have hs9 := step.toNat_lt
 have hs8 : 1 ≤ (1 + step.toNat % 9) ∧ (1 + step.toNat % 9) ≤ 9 := by omega
 have hb := Below.refl w.heap.size w
 refine enter (N := 86) Try.func3 rfl rfl (by simp) fun a0 hN hd hA => ?_
 have s0 : a0.tmps.getD 0 undef = (Value.int .u8 (n.toNat : Int)) := hA 0 (by simp)
 have s1 : a0.tmps.getD 1 undef = (Value.int .u8 (step.toNat : Int)) := hA 1 (by simp)
 have s2 : a0.tmps.getD 2 undef = (Value.bool down) := hA 2 (by simp)
 clear hA
 refine seq_any fun K1 hK1 => ?_
 refine one_reg ?_
 refine op_assign rfl ?_
 refine reg_nil ?_
 refine hK1 _ _ ?_
 refine seq_any fun K2 hK2 => ?_
 refine seq_any fun K3 hK3 => ?_
 refine one_reg ?_
 refine op_fn (vs := []) ok11 trivial (begun15) ?_
 rintro _ w4 ⟨E5, rfl⟩
 have E5 := grown_of_below E5
 have z_w4 := E5.size
 have hb := below_step0 hb E5 hb.size
 refine op_not (ev_hit hN rfl) ?_
 refine reg_nil ?_
 refine hK3 _ _ ?_
 refine wp_cond_false (ev_hit hN rfl) ?_
 refine wp_skip ?_
 refine hK2 _ _ ?_
 refine seq_any fun K6 hK6 => ?_
 refine one_reg ?_
 refine op_fn (vs := []) ok12 trivial (newLS) ?_
 rintro _ w8 ⟨E9, p7, F7, rfl, hT7⟩
 have E9 := grown_of_below E9
 have hlo10 : ∀ k, F7 k → w4.heap.size ≤ k := fun k hk => (hT7.lt k hk).1
 have z_w8 := E9.size
 have hb := below_step0 hb E9 hb.size
 have hT7 : TopL kS 88 w.heap.size w8 p7 [] F7 := hT7.rebase (by omega)
 refine op_assign (ev_hit hN rfl) ?_
 refine reg_nil ?_
 refine hK6 _ _ ?_
 refine seq_any fun K11 hK11 => ?_
 refine seq_any fun K12 hK12 => ?_
 refine one_reg ?_
 refine op_assign rfl ?_
 refine reg_nil ?_
 refine hK12 _ _ ?_
 refine wp_block ?_
 refine loop_m (fun mz_ az_ w' => ∃ (i : Nat) (M : List (Ky × List UInt8)) (F9 : Nat → Prop), mz_ = n.toNat - i ∧ (az_.tmps.getD 0 undef = (Value.int .u8 (n.toNat : Int))) ∧ (az_.tmps.getD 1 undef = (Value.int .u8 (step.toNat : Int))) ∧ (az_.tmps.getD 2 undef = (Value.bool down)) ∧ (az_.tmps.getD 6 undef = (Value.bool false)) ∧ (az_.tmps.getD 7 undef = (ptr p7 0)) ∧ (az_.tmps.getD 8 undef = (Value.int .i64 ((i : Nat) : Int))) ∧ (i ≤ n.toNat) ∧ (M.length = i) ∧ (∀ q ∈ M, ∃ j, j < i ∧ q.1 = k2 ((kf down (1 + step.toNat % 9)) j)) ∧ (Below w.heap.size w w') ∧ (w8.heap.size ≤ w'.heap.size) ∧ (TopL kS 88 w.heap.size w' p7 M F9)) _ hN hd ⟨0, [], F7, rfl, (sl_base hN rfl s0), (sl_base hN rfl s1), (sl_base hN rfl s2), (sl_hit hN rfl), (sl_hit hN rfl), (sl_hit hN rfl), (Nat.zero_le _), rfl, (fun _ h => (by cases h)), hb, (Nat.le_refl _), hT7⟩ ?_
 rintro _ a13 w13 hN13 hd13 ⟨i, M, F9, rfl, s13_0, s13_1, s13_2, s13_6, s13_7, s13_8, hi, hlen, hmem, hb, zl_w13, hTi⟩
 have z_w13 := hb.size
 refine seq_any fun K14 hK14 => ?_
 refine seq_any fun K15 hK15 => ?_
 refine one_reg ?_
 refine op_move (ev_base hN13 rfl s13_8) ?_
 refine op_move (ev_base hN13 rfl s13_0) ?_
 refine op_conv (r := (n.toNat : Int)) (ev_hit hN13 rfl) us5 Try.underlying3 (wrap_i64 (by have := (n).toNat_lt; omega)) ?_
 refine op_lss (ev_hit hN13 rfl) (ev_hit hN13 rfl) (fun c20 => ?_) (fun c20 => ?_)
 · -- 20T
  refine reg_nil ?_
  refine hK15 _ _ ?_
  refine wp_cond_true (ev_hit hN13 rfl) ?_
  refine wp_skip ?_
  refine hK14 _ _ ?_
  refine seq_any fun K16 hK16 => ?_
  refine wp_block ?_
  refine seq_any fun K17 hK17 => ?_
  refine one_reg ?_
  have hmul : i * (1 + step.toNat % 9) ≤ 2295 := Nat.le_trans (Nat.mul_le_mul (show i ≤ 255 by omega) hs8.2) (by decide)
  refine op_move (ev_base hN13 rfl s13_8) ?_
  refine op_move (ev_base hN13 rfl s13_1) ?_
  refine op_rem (r := ((step.toNat % 9 : Nat) : Int)) (ev_hit hN13 rfl) rfl (by decide) (by rw [Int.tmod_eq_emod_of_nonneg (by omega)]; omega) ?_
  refine op_conv (r := ((step.toNat % 9 : Nat) : Int)) (ev_hit hN13 rfl) us5 Try.underlying3 (wrap_i64 (by omega)) ?_
  refine op_add (r := (((1 + step.toNat % 9) : Nat) : Int)) rfl (ev_hit hN13 rfl) ((add64 (by omega)).trans (by omega)) ?_
  refine op_mul (r := ((i * (1 + step.toNat % 9) : Nat) : Int)) (ev_hit hN13 rfl) (ev_hit hN13 rfl) ((mul64 (by rw [← Int.natCast_mul]; omega)).trans (Int.natCast_mul _ _).symm) ?_
  refine op_assign (ev_hit hN13 rfl) ?_
  refine reg_nil ?_
  refine hK17 _ _ ?_
  refine seq_any fun K18 hK18 => ?_
  refine seq_any fun K19 hK19 => ?_
  refine one_reg ?_
  refine op_move (ev_base hN13 rfl s13_2) ?_
  refine reg_nil ?_
  refine hK19 _ _ ?_
  refine wp_cond_split (ev_hit hN13 rfl) (fun c29 => ?_) (fun c29 => ?_)
  · -- 29T
   refine one_reg ?_
   refine op_move (ev_hit hN13 rfl) ?_
   refine op_sub (r := ((5000 - i * (1 + step.toNat % 9) : Nat) : Int)) rfl (ev_hit hN13 rfl) ((sub64 (by omega)).trans (by omega)) ?_
   refine op_assign (ev_hit hN13 rfl) ?_
   refine reg_nil ?_
   refine hK18 _ _ ?_
   refine one_reg ?_
   have hkf : (kf down (1 + step.toNat % 9)) i = (5000 - i * (1 + step.toNat % 9)) := by unfold kf; rw [c29]; rfl
   have hgr : (putL (k2 (5000 - i * (1 + step.toNat % 9))) ([120] : List UInt8) M).length = i + 1 ∧ ∀ q ∈ putL (k2 (5000 - i * (1 + step.toNat % 9))) ([120] : List UInt8) M, ∃ j, j < i + 1 ∧ q.1 = k2 ((kf down (1 + step.toNat % 9)) j) := by rw [← hkf]; exact grow_keys (f := fun j => k2 ((kf down (1 + step.toNat % 9)) j)) hTi.sorted hlen hmem (kf_inj (by omega) (by omega))
   refine op_move (ev_base hN13 rfl s13_7) ?_
   refine op_move (ev_hit hN13 rfl) ?_
   refine op_shr (r := (((5000 - i * (1 + step.toNat % 9)) / 256 : Nat) : Int)) (ev_hit hN13 rfl) rfl (by decide) (shr_nat (j := 8) (by omega) (by decide)) ?_
   refine op_conv (r := ((UInt8.ofNat ((5000 - i * (1 + step.toNat % 9)) / 256)).toNat : Int)) (ev_hit hN13 rfl) us3 Try.underlying5 conv_u8 ?_
   refine op_move (ev_hit hN13 rfl) ?_
   refine op_conv (r := ((UInt8.ofNat (5000 - i * (1 + step.toNat % 9))).toNat : Int)) (ev_hit hN13 rfl) us3 Try.underlying5 conv_u8 ?_
   refine op_bslice (e := 5) (pv := [(0, (Value.int .u8 ((UInt8.ofNat ((5000 - i * (1 + step.toNat % 9)) / 256)).toNat : Int))), (1, (Value.int .u8 ((UInt8.ofNat (5000 - i * (1 + step.toNat % 9))).toNat : Int)))]) (cs := [(Value.int .u8 ((UInt8.ofNat ((5000 - i * (1 + step.toNat % 9)) / 256)).toNat : Int)), (Value.int .u8 ((UInt8.ofNat (5000 - i * (1 + step.toNat % 9))).toNat : Int))]) ⟨rfl, (ev_hit hN13 rfl), ⟨rfl, (ev_hit hN13 rfl), trivial⟩⟩ (by kernel_rfl) ?_
   intro w20 b21 lo_b21 hi_b21 hB23 E22
   have dj24 : ¬ F9 b21 := fun hf => by have := (hTi.lt _ hf).2; omega
   have z_w20 := E22.size
   have hTi := hTi.keepG (Gr.of0 E22 NoB) (fun _ _ h => h)
   have hb := below_step0 hb E22 hb.size
   refine op_fn (vs := [(ptr p7 0), (Value.slice (some ⟨b21, 0, none⟩) 2 2), (Value.string (bs [120]))]) ok13 ⟨(ev_hit hN13 rfl), ⟨(ev_hit hN13 rfl), ⟨rfl, trivial⟩⟩⟩ (putLsS (k := [(UInt8.ofNat ((5000 - i * (1 + step.toNat % 9)) / 256)), (UInt8.ofNat (5000 - i * (1 + step.toNat % 9)))]) (x := [120]) hTi hb.size (RdC.ofBx (sz := 1) (n := 2) hB23 rfl (by decide)) (by have := hB23.lt; omega) (hapB dj24) (by simp; done)) ?_
   rintro _ w26 ⟨E27, rfl, F25, hT25, hN25⟩
   have bd28 := hB23.lt
   have hTi_old := hTi
   have z_w26 := E27.size
   have hB23 := hB23.keepG E27 dj24
   have hb := below_stepG hb E27 hb.size (fun k hk => (hTi_old.lt k hk).1)
   have dj29 : ¬ F25 b21 := ne_stepF hN25 bd28 dj24
   refine reg_nil ?_
   refine hK16 _ _ ?_
   refine one_reg ?_
   refine op_move (ev_base hN13 rfl s13_8) ?_
   refine op_add (ev_hit hN13 rfl) rfl (add64 (by omega)) ?_
   refine op_assign (ev_hit hN13 rfl) ?_
   refine reg_nil ?_
   -- round 20T 29T
   exact loop_next _ hN13 hd13 ⟨(i + 1), (putL ([(UInt8.ofNat ((5000 - i * (1 + step.toNat % 9)) / 256)), (UInt8.ofNat (5000 - i * (1 + step.toNat % 9)))]) ([120]) M), F25, rfl, (sl_base hN13 rfl s13_0), (sl_base hN13 rfl s13_1), (sl_base hN13 rfl s13_2), (sl_base hN13 rfl s13_6), (sl_base hN13 rfl s13_7), (sl_hit hN13 rfl).trans (congrArg (Value.int .i64) (by omega)), (by omega), hgr.1, hgr.2, hb, (by omega), hT25⟩ (by omega)
  · -- 29F
   refine wp_skip ?_
   refine hK18 _ _ ?_
   refine one_reg ?_
   have hkf : (kf down (1 + step.toNat % 9)) i = (i * (1 + step.toNat % 9)) := by unfold kf; rw [c29]; rfl
   have hgr : (putL (k2 (i * (1 + step.toNat % 9))) ([120] : List UInt8) M).length = i + 1 ∧ ∀ q ∈ putL (k2 (i * (1 + step.toNat % 9))) ([120] : List UInt8) M, ∃ j, j < i + 1 ∧ q.1 = k2 ((kf down (1 + step.toNat % 9)) j) := by rw [← hkf]; exact grow_keys (f := fun j => k2 ((kf down (1 + step.toNat % 9)) j)) hTi.sorted hlen hmem (kf_inj (by omega) (by omega))
   refine op_move (ev_base hN13 rfl s13_7) ?_
   refine op_move (ev_hit hN13 rfl) ?_
   refine op_shr (r := (((i * (1 + step.toNat % 9)) / 256 : Nat) : Int)) (ev_hit hN13 rfl) rfl (by decide) (shr_nat (j := 8) (by omega) (by decide)) ?_
   refine op_conv (r := ((UInt8.ofNat ((i * (1 + step.toNat % 9)) / 256)).toNat : Int)) (ev_hit hN13 rfl) us3 Try.underlying5 conv_u8 ?_
   refine op_move (ev_hit hN13 rfl) ?_
   refine op_conv (r := ((UInt8.ofNat (i * (1 + step.toNat % 9))).toNat : Int)) (ev_hit hN13 rfl) us3 Try.underlying5 conv_u8 ?_
   refine op_bslice (e := 5) (pv := [(0, (Value.int .u8 ((UInt8.ofNat ((i * (1 + step.toNat % 9)) / 256)).toNat : Int))), (1, (Value.int .u8 ((UInt8.ofNat (i * (1 + step.toNat % 9))).toNat : Int)))]) (cs := [(Value.int .u8 ((UInt8.ofNat ((i * (1 + step.toNat % 9)) / 256)).toNat : Int)), (Value.int .u8 ((UInt8.ofNat (i * (1 + step.toNat % 9))).toNat : Int))]) ⟨rfl, (ev_hit hN13 rfl), ⟨rfl, (ev_hit hN13 rfl), trivial⟩⟩ (by kernel_rfl) ?_
   intro w30 b31 lo_b31 hi_b31 hB33 E32
   have dj34 : ¬ F9 b31 := fun hf => by have := (hTi.lt _ hf).2; omega
   have z_w30 := E32.size
   have hTi := hTi.keepG (Gr.of0 E32 NoB) (fun _ _ h => h)
   have hb := below_step0 hb E32 hb.size
   refine op_fn (vs := [(ptr p7 0), (Value.slice (some ⟨b31, 0, none⟩) 2 2), (Value.string (bs [120]))]) ok13 ⟨(ev_hit hN13 rfl), ⟨(ev_hit hN13 rfl), ⟨rfl, trivial⟩⟩⟩ (putLsS (k := [(UInt8.ofNat ((i * (1 + step.toNat % 9)) / 256)), (UInt8.ofNat (i * (1 + step.toNat % 9)))]) (x := [120]) hTi hb.size (RdC.ofBx (sz := 1) (n := 2) hB33 rfl (by decide)) (by have := hB33.lt; omega) (hapB dj34) (by simp; done)) ?_
   rintro _ w36 ⟨E37, rfl, F35, hT35, hN35⟩
   have bd38 := hB33.lt
   have hTi_old := hTi
   have z_w36 := E37.size
   have hB33 := hB33.keepG E37 dj34
   have hb := below_stepG hb E37 hb.size (fun k hk => (hTi_old.lt k hk).1)
   have dj39 : ¬ F35 b31 := ne_stepF hN35 bd38 dj34
   refine reg_nil ?_
   refine hK16 _ _ ?_
   refine one_reg ?_
   refine op_move (ev_base hN13 rfl s13_8) ?_
   refine op_add (ev_hit hN13 rfl) rfl (add64 (by omega)) ?_
   refine op_assign (ev_hit hN13 rfl) ?_
   refine reg_nil ?_
   -- round 20T 29F
   exact loop_next _ hN13 hd13 ⟨(i + 1), (putL ([(UInt8.ofNat ((i * (1 + step.toNat % 9)) / 256)), (UInt8.ofNat (i * (1 + step.toNat % 9)))]) ([120]) M), F35, rfl, (sl_base hN13 rfl s13_0), (sl_base hN13 rfl s13_1), (sl_base hN13 rfl s13_2), (sl_base hN13 rfl s13_6), (sl_base hN13 rfl s13_7), (sl_hit hN13 rfl).trans (congrArg (Value.int .i64) (by omega)), (by omega), hgr.1, hgr.2, hb, (by omega), hT35⟩ (by omega)
 · -- 20F
  refine reg_nil ?_
  refine hK15 _ _ ?_
  refine wp_cond_false (ev_hit hN13 rfl) ?_
  refine wp_exit (then_exit (then_exit (blk_hit ?_)))
  refine hK11 _ _ ?_
  refine seq_any fun K40 hK40 => ?_
  refine one_reg ?_
  refine op_move (ev_base hN13 rfl s13_7) ?_
  refine op_fn (vs := [(ptr p7 0)]) ok14 ⟨(ev_hit hN13 rfl), trivial⟩ (levLsS hTi (by omega)) ?_
  rintro v41 w42 ⟨E43, LL41, LV41, hO41, hA41, hlev41, hLK41⟩
  have dj44 : Dj F9 (Bl v41) := Dj.fresh (fun k hk => (hTi.lt k hk).2) (fun k hk => (hO41.lt k hk).1)
  have E43 := grown_of_below E43
  have z_w42 := E43.size
  have hTi := hTi.keepG (Gr.of0 E43 NoB) (fun _ _ h => h)
  have hb := below_step0 hb E43 hb.size
  have hLn41 := lev_len hlev41
  have hz41 := hLK41.zero
  have hle41 := hLK41.le
  have hO41 := hO41.mono (base' := w.heap.size) (by omega)
  have hA41 : ∀ x9 ∈ LL41, Own w42 w.heap.size 3 1 x9.1 x9.2.length (x9.2.map (Value.int .i64)) := fun x9 h9 => (hA41 x9 h9).mono (by omega)
  refine op_assign (ev_hit hN13 rfl) ?_
  refine reg_nil ?_
  refine hK40 _ _ ?_
  refine seq_any fun K45 hK45 => ?_
  refine one_reg ?_
  have hMn : M.length = n.toNat := by omega
  rw [hMn] at hLK41
  refine op_move (ev_base hN13 rfl s13_0) ?_
  refine op_conv (r := (n.toNat : Int)) (ev_hit hN13 rfl) us5 Try.underlying3 (wrap_i64 (by have := (n).toNat_lt; omega)) ?_
  refine op_quo (r := ((n.toNat / 3 : Nat) : Int)) (ev_hit hN13 rfl) rfl (by decide) (by rw [IntKind.wrap_i64, Int.tdiv_eq_ediv_of_nonneg (by omega)]; omega) ?_
  refine op_max (r := ((max (n.toNat / 3) 1 : Nat) : Int)) (ev_hit hN13 rfl) rfl (by split <;> omega) ?_
  refine op_assign (ev_hit hN13 rfl) ?_
  refine op_assign rfl ?_
  refine reg_nil ?_
  refine hK45 _ _ ?_
  refine seq_any fun K46 hK46 => ?_
  refine seq_any fun K47 hK47 => ?_
  refine one_reg ?_
  refine op_move (ev_hit hN13 rfl) ?_
  refine op_assign (ev_hit hN13 rfl) ?_
  refine reg_nil ?_
  refine hK47 _ _ ?_
  refine wp_block ?_
  refine loop_m (fun mz_ az_ w' => ∃ (d m : Nat), mz_ = (m + 1) ∧ (az_.tmps.getD 0 undef = (Value.int .u8 (n.toNat : Int))) ∧ (az_.tmps.getD 6 undef = (Value.bool false)) ∧ (az_.tmps.getD 7 undef = (ptr p7 0)) ∧ (az_.tmps.getD 10 undef = v41) ∧ (az_.tmps.getD 11 undef = (Value.int .i64 ((max (n.toNat / 3) 1 : Nat) : Int))) ∧ (az_.tmps.getD 13 undef = (Value.int .i64 ((m : Nat) : Int))) ∧ (az_.tmps.getD 12 undef = (Value.int .i64 (((d + 1) : Nat) : Int))) ∧ (d + m ≤ 86) ∧ (d < LV41.length → (LV41.getD (LV41.length - 1 - d) []).length ≤ m) ∧ (Below w.heap.size w w') ∧ (w42.heap.size ≤ w'.heap.size) ∧ (TopL kS 88 w.heap.size w' p7 M F9) ∧ (Own w' w.heap.size 30 1 v41 LL41.length (LL41.flatMap (fun x9 => [x9.1]))) ∧ (∀ x9 ∈ LL41, Own w' w.heap.size 3 1 x9.1 x9.2.length (x9.2.map (Value.int .i64)))) _ hN13 hd13 ⟨0, (max (n.toNat / 3) 1), rfl, (sl_base hN13 rfl s13_0), (sl_base hN13 rfl s13_6), (sl_base hN13 rfl s13_7), (sl_hit hN13 rfl), (sl_hit hN13 rfl), (sl_hit hN13 rfl), (sl_hit hN13 rfl), (by omega), (fun h => deep_last hLK41 h), hb, (Nat.le_refl _), hTi, hO41, hA41⟩ ?_
  rintro _ a48 w48 hN48 hd48 ⟨d, m, rfl, s48_0, s48_6, s48_7, s48_10, s48_11, s48_13, s48_12, hdm, hd9, hb, zl_w48, hTi, hO41, hA41⟩
  have z_w48 := hb.size
  refine seq_any fun K49 hK49 => ?_
  refine seq_any fun K50 hK50 => ?_
  refine one_reg ?_
  refine op_move (ev_base hN48 rfl s48_13) ?_
  refine op_gtr (ev_hit hN48 rfl) rfl (fun c48 => ?_) (fun c48 => ?_)
  · -- 48T
   refine reg_nil ?_
   refine hK50 _ _ ?_
   refine wp_cond_true (ev_hit hN48 rfl) ?_
   refine wp_skip ?_
   refine hK49 _ _ ?_
   refine seq_any fun K51 hK51 => ?_
   refine wp_block ?_
   refine one_reg ?_
   refine op_move (ev_base hN48 rfl s48_12) ?_
   refine op_add (ev_hit hN48 rfl) rfl (add64 (by omega)) ?_
   refine op_assign (ev_hit hN48 rfl) ?_
   refine reg_nil ?_
   refine hK51 _ _ ?_
   refine one_reg ?_
   refine op_move (ev_base hN48 rfl s48_13) ?_
   refine op_quo (r := ((m / 4 : Nat) : Int)) (ev_hit hN48 rfl) rfl (by decide) (by rw [IntKind.wrap_i64, Int.tdiv_eq_ediv_of_nonneg (by omega)]; omega) ?_
   refine op_max (r := ((max (m / 4) 1 : Nat) : Int)) (ev_hit hN48 rfl) rfl (by split <;> omega) ?_
   refine op_assign (ev_hit hN48 rfl) ?_
   refine reg_nil ?_
   -- round 20F 48T
   exact loop_next _ hN48 hd48 ⟨(d + 1), (max (m / 4) 1), rfl, (sl_base hN48 rfl s48_0), (sl_base hN48 rfl s48_6), (sl_base hN48 rfl s48_7), (sl_base hN48 rfl s48_10), (sl_base hN48 rfl s48_11), (sl_hit hN48 rfl), (sl_hit hN48 rfl).trans (congrArg (Value.int .i64) (by omega)), (by omega), (deep_go hLK41 hd9 (by omega)), hb, (by omega), hTi, hO41, hA41⟩ (by omega)
  · -- 48F
   refine reg_nil ?_
   refine hK50 _ _ ?_
   refine wp_cond_false (ev_hit hN48 rfl) ?_
   refine wp_exit (then_exit (then_exit (blk_hit ?_)))
   refine hK46 _ _ ?_
   refine seq_any fun K52 hK52 => ?_
   refine seq_any fun K53 hK53 => ?_
   refine one_reg ?_
   refine op_move (ev_base hN48 rfl s48_0) ?_
   refine op_eql (ev_hit hN48 rfl) rfl (fun c55 => ?_) (fun c55 => ?_)
   · -- 55T
    refine reg_nil ?_
    refine hK53 _ _ ?_
    refine wp_cond_true (ev_hit hN48 rfl) ?_
    refine seq_any fun K54 hK54 => ?_
    refine one_reg ?_
    refine op_move (ev_base hN48 rfl s48_10) ?_
    refine op_len_rd Try.underlying28 (ev_hit hN48 rfl) hO41.rdw ?_
    refine op_eql (ev_hit hN48 rfl) rfl (fun c58 => ?_) (fun c58 => ?_)
    · -- 58T
     refine op_assign (ev_hit hN48 rfl) ?_
     refine reg_nil ?_
     refine hK54 _ _ ?_
     refine wp_ret (then_ret ( ?_))
     refine ret1 rfl hd48 (ev_hit hN48 rfl) ⟨_, rfl, ?_⟩
     -- path 20F 48F 55T 58T
     exact ⟨hb, rfl⟩
    · -- 58F
     exfalso; omega
   · -- 55F
    refine reg_nil ?_
    refine hK53 _ _ ?_
    refine wp_cond_false (ev_hit hN48 rfl) ?_
    refine wp_skip ?_
    refine hK52 _ _ ?_
    refine seq_any fun K55 hK55 => ?_
    refine one_reg ?_
    have hLat := lev_at hlev41 (LL41.length - 1)
    have hdl := deep_last hLK41 (by omega)
    have hLl : (LL41.getD (LL41.length - 1) default).2.length = (LV41.getD (LV41.length - 1) []).length := by rw [hLat, List.length_map, show LL41.length = LV41.length by omega]
    have hde := deep_end hLK41 hd9 (by omega)
    refine op_move (ev_base hN48 rfl s48_10) ?_
    refine op_len_rd Try.underlying28 (ev_hit hN48 rfl) hO41.rdw ?_
    refine op_gtr (ev_hit hN48 rfl) rfl (fun c61 => ?_) (fun c61 => ?_)
    · -- 61T
     refine op_move (ev_hit hN48 rfl) ?_
     refine g_true (j := 3) (dj := 62) (b := true) rfl rfl rfl (ev_hit hN48 rfl) ?_
     refine op_move (ev_base hN48 rfl s48_10) ?_
     refine g_true (j := 3) (dj := 62) (b := true) rfl rfl rfl (ev_hit hN48 rfl) ?_
     refine op_len_rd Try.underlying28 (ev_hit hN48 rfl) hO41.rdw ?_
     refine g_true (j := 3) (dj := 62) (b := true) rfl rfl rfl (ev_hit hN48 rfl) ?_
     refine op_move (ev_base hN48 rfl s48_12) ?_
     refine g_true (j := 3) (dj := 62) (b := true) rfl rfl rfl (ev_hit hN48 rfl) ?_
     refine op_leq (ev_hit hN48 rfl) (ev_hit hN48 rfl) (fun c66 => ?_) (fun c66 => ?_)
     · -- 66T
      refine op_pick_t (ev_hit hN48 rfl) (ev_hit hN48 rfl) ?_
      refine op_move (ev_hit hN48 rfl) ?_
      refine g_true (j := 9) (dj := 68) (b := true) rfl rfl rfl (ev_hit hN48 rfl) ?_
      refine op_move (ev_base hN48 rfl s48_10) ?_
      refine g_true (j := 9) (dj := 68) (b := true) rfl rfl rfl (ev_hit hN48 rfl) ?_
      refine op_move (ev_base hN48 rfl s48_10) ?_
      refine g_true (j := 9) (dj := 68) (b := true) rfl rfl rfl (ev_hit hN48 rfl) ?_
      refine op_len_rd Try.underlying28 (ev_hit hN48 rfl) hO41.rdw ?_
      refine g_true (j := 9) (dj := 68) (b := true) rfl rfl rfl (ev_hit hN48 rfl) ?_
      refine op_sub (r := ((LL41.length - 1 : Nat) : Int)) (ev_hit hN48 rfl) rfl ((sub64 (by omega)).trans (by omega)) ?_
      refine g_true (j := 9) (dj := 68) (b := true) rfl rfl rfl (ev_hit hN48 rfl) ?_
      refine op_index_rd slt28 (ev_hit hN48 rfl) hO41.rdw (ev_hit hN48 rfl) (by omega) (by omega) ?_
      intro b56 o57 h0b56 h1b56 hc58
      refine g_true (j := 9) (dj := 68) (b := true) rfl rfl rfl (ev_hit hN48 rfl) ?_
      have hs59 : Own w48 w.heap.size 3 1 (LL41.getD (LL41.length - 1) default).1 (LL41.getD (LL41.length - 1) default).2.length ((LL41.getD (LL41.length - 1) default).2.map (Value.int .i64)) := hA41 _ (getD_mem (by omega))
      refine op_load1 (v := (LL41.getD (LL41.length - 1) default).1) one30 (ev_hit hN48 rfl) (by have := hc58 0 (LL41.getD (LL41.length - 1) default).1 (by decide) (el_ll (i := (LL41.length - 1)) (d := default) (by omega) (by omega)); simpa using this) ?_
      refine g_true (j := 9) (dj := 68) (b := true) rfl rfl rfl (ev_hit hN48 rfl) ?_
      refine op_len_rd Try.underlying30 (ev_hit hN48 rfl) hs59.rdw ?_
      refine g_true (j := 9) (dj := 68) (b := true) rfl rfl rfl (ev_hit hN48 rfl) ?_
      refine op_move (ev_base hN48 rfl s48_11) ?_
      refine g_true (j := 9) (dj := 68) (b := true) rfl rfl rfl (ev_hit hN48 rfl) ?_
      refine op_leq (ev_hit hN48 rfl) (ev_hit hN48 rfl) (fun c77 => ?_) (fun c77 => ?_)
      · -- 77T
       refine op_pick_t (ev_hit hN48 rfl) (ev_hit hN48 rfl) ?_
       refine op_move (ev_hit hN48 rfl) ?_
       refine g_true (j := 20) (dj := 79) (b := true) rfl rfl rfl (ev_hit hN48 rfl) ?_
       refine op_move (ev_base hN48 rfl s48_7) ?_
       refine g_true (j := 20) (dj := 79) (b := true) rfl rfl rfl (ev_hit hN48 rfl) ?_
       refine op_fn (vs := [(ptr p7 0)]) ok15 ⟨(ev_hit hN48 rfl), trivial⟩ (lenLsS hTi (by omega)) ?_
       rintro _ w60 ⟨E61, rfl⟩
       have E61 := grown_of_below E61
       have z_w60 := E61.size
       have hTi := hTi.keepG (Gr.of0 E61 NoB) (fun _ _ h => h)
       have hO41 := hO41.keep0 E61
       have hA41 : ∀ x9 ∈ LL41, Own w60 w.heap.size 3 1 x9.1 x9.2.length (x9.2.map (Value.int .i64)) := fun x9 hx9 => (hA41 x9 hx9).keep0 E61
       have hs59 := hs59.keep0 E61
       have hb := below_step0 hb E61 hb.size
       refine g_true (j := 20) (dj := 79) (b := true) rfl rfl rfl (ev_hit hN48 rfl) ?_
       refine op_move (ev_base hN48 rfl s48_0) ?_
       refine g_true (j := 20) (dj := 79) (b := true) rfl rfl rfl (ev_hit hN48 rfl) ?_
       refine op_conv (r := (n.toNat : Int)) (ev_hit hN48 rfl) us5 Try.underlying3 (wrap_i64 (by have := (n).toNat_lt; omega)) ?_
       refine g_true (j := 20) (dj := 79) (b := true) rfl rfl rfl (ev_hit hN48 rfl) ?_
       refine op_eql (ev_hit hN48 rfl) (ev_hit hN48 rfl) (fun c84 => ?_) (fun c84 => ?_)
       · -- 84T
        refine op_pick_t (ev_hit hN48 rfl) (ev_hit hN48 rfl) ?_
        refine op_assign (ev_hit hN48 rfl) ?_
        refine reg_nil ?_
        refine hK55 _ _ ?_
        refine wp_ret ?_
        refine ret1 rfl hd48 (ev_hit hN48 rfl) ⟨_, rfl, ?_⟩
        -- path 20F 48F 55F 61T 66T 77T 84T
        exact ⟨hb, rfl⟩
       · -- 84F
        exfalso; omega
      · -- 77F
       exfalso; omega
     · -- 66F
      exfalso; omega
    · -- 61F
     exfalso; omega

end Go.Proofs.Ytcpfdfejojghbaa

/- What the arguments of the laws are, told by their types. -/
namespace Go.Proofs.Ytcpfdfejojghbaa
open Go.Gx Go.RowKit
end Go.Proofs.Ytcpfdfejojghbaa
