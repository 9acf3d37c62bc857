/- Walks, written by a program: what each function of the translation hands back. -/
import Derived.Test.YtcpfdfejojghbaaB5
set_option linter.unusedVariables false
set_option linter.unusedSimpArgs false

namespace Go.Proofs.Ytcpfdfejojghbaa
open Go.Gx Go.RowKit
attribute [local irreducible] wpList wpStill Code.wp Calls
open Go.Bt
set_option maxHeartbeats 1000000 in
theorem mendJL {i j p : Nat} {R W G f g G0 : Nat → Prop} {kv cv : Value} {K : List DK} {P : List Nat} {w : World} (hNd : NodeR kI R w p kv cv K P G W) (hfg : Dj f g) (hfG : Dj f G0) (hgG : Dj g G0) (hfs : ∀ k, f k → G k) (hgs : ∀ k, g k → G k) (hGs : ∀ k, G0 k → G k) (hPl : P.length = K.length + 1) (hi : i < K.length) (hn : K.length ≤ 7) {cs : List (Tr Int 0)} {av bv : Value} {Da Db : List (DP Int)} (hA : LeafR kI R w (P.getD i default) av Da f) (hB : LeafR kI R w (P.getD (i + 1) default) bv Db g) (hr : KidsR kI R w 0 ((P.eraseIdx i).eraseIdx i) ((cs.eraseIdx i).eraseIdx i) G0) (hPc : P.length = cs.length) (ha : cs[i]? = some ((Da.map Prod.snd : List (Ky × Int)) : Tr Int 0)) (hb9 : cs[i + 1]? = some ((Db.map Prod.snd : List (Ky × Int)) : Tr Int 0)) (hna : Da.length ≤ 7) (hnb : Db.length ≤ 7) (hKs0 : KidsR kI R w 0 P cs G) (hlen : cs.length = K.length + 1) (hsh : ∀ c ∈ cs, Ok 0 c ∧ szT 0 c ≤ 7) (hij : i = j - 1) (hl : ¬ 3 < lender 0 cs i (decide (j = 0))) : Ret Try.prog 88 #[(ptr p 0), (Value.int .i64 ((j : Nat) : Int))] w (fun v' w' => Gr w w' W ∧ v' = .tuple #[] ∧ ∃ W', TreeR kI R w' (0 + 1) p (mendsT 0 ((K.map Prod.snd, cs) : Tr Int (0 + 1)) j) W' ∧ NewF w.heap.size W W') := by
 have h0 : 0 ≤ w.heap.size := Nat.zero_le _
 have hx : Bx w p 115 [.slice none 0 0, kv, cv] := hNd.bx
 have ok := hNd.ok
 have oc : Own w 0 69 1 cv P.length (P.flatMap cN) := hNd.oc
 have ks := hNd.ks
 have hi_p := hx.lt
 have djkG : Dj (Bl kv) G0 := hNd.nk.mono hGs
 have djcG : Dj (Bl cv) G0 := hNd.nc.mono hGs
 have djpG : ¬ G0 p := fun q => hNd.np (hGs p q)
 have hxa : Bx w (P.getD i default) 115 [av, .slice none 0 0, .slice none 0 0] := hA.bx
 have oa : Own w 0 51 2 av Da.length (Da.flatMap cI) := hA.op
 have kas := hA.ks
 have hxb : Bx w (P.getD (i + 1) default) 115 [bv, .slice none 0 0, .slice none 0 0] := hB.bx
 have ob : Own w 0 51 2 bv Db.length (Db.flatMap cI) := hB.op
 have kbs := hB.ks
 have hi_a := hxa.lt
 have hi_b := hxb.lt
 have hab : (P.getD i default) ≠ (P.getD (i + 1) default) := fun e => hfg _ hA.wp (e ▸ hB.wp)
 have hpa : p ≠ (P.getD i default) := fun e => hNd.np (e ▸ hfs _ hA.wp)
 have hpb : p ≠ (P.getD (i + 1) default) := fun e => hNd.np (e ▸ hgs _ hB.wp)
 have djaG : Dj (Bl av) G0 := fun k h => hfG k (hA.wv k h)
 have djpaG : ¬ G0 (P.getD i default) := hfG _ hA.wp
 have djpbG : ¬ G0 (P.getD (i + 1) default) := hgG _ hB.wp
 have hNd0 := hNd
 have hb := Gr.refl w W
 refine enter (N := 101) Try.func88 rfl rfl (by simp) fun a0 hN hd hA => ?_
 have s0 : a0.tmps.getD 0 undef = (ptr p 0) := hA 0 (by simp)
 have s1 : a0.tmps.getD 1 undef = (Value.int .i64 ((j : Nat) : Int)) := hA 1 (by simp)
 clear hA
 refine seq_any fun K7 hK7 => one_reg (op_move (ev_base hN rfl s1) (op_sub (r := ((j : Int) - 1)) (ev_hit hN rfl) rfl ((sub64 (by omega)).trans (by omega)) ?_))
 refine op_max (r := ((i : Nat) : Int)) (ev_hit hN rfl) rfl (by split <;> omega) ?_
 refine op_assign (ev_hit hN rfl) (reg_nil (hK7 _ _ ?_))
 refine seq_any fun K10 hK10 => seq_any fun K11 hK11 => one_reg (op_move (ev_base hN rfl s0) (op_move (ev_hit hN rfl) (op_move (ev_base hN rfl s1) (op_cmp (b := (decide (((j : Nat) : Int) = 0))) (ev_hit hN rfl) rfl (b_eql rfl) ?_))))
 refine op_fn (vs := [(ptr p 0), (Value.int .i64 ((i : Nat) : Int)), (Value.bool (decide (((j : Nat) : Int) = 0)))]) ok120 ⟨(ev_hit hN rfl), ⟨(ev_hit hN rfl), ⟨(ev_hit hN rfl), trivial⟩⟩⟩ (lendsF (left := (decide (((j : Nat) : Int) = 0))) hNd0 hKs0 hlen hsh hi hn (by have q := hl; rw [show decide (j = 0) = (decide (((j : Nat) : Int) = 0)) from decide_eq_decide.2 (by omega)] at q; exact q)) ?_
 rintro _ w12 ⟨E13, rfl⟩
 have E13 := grown_of_below E13
 have z_w12 := E13.size
 have hx := hx.keep0 E13
 have ok := ok.keep0 E13
 have oc := oc.keep0 E13
 have ks := all9 ks fun _ h => h.keep0 E13
 have hxa := hxa.keep0 E13
 have hxb := hxb.keep0 E13
 have oa := oa.keep0 E13
 have ob := ob.keep0 E13
 have kas := all9 kas fun _ h => h.keep0 E13
 have kbs := all9 kbs fun _ h => h.keep0 E13
 have hr := hr.kz E13
 have hb := hb.step0 E13
 refine reg_nil (hK11 _ _ (wp_cond_false (ev_hit hN rfl) (wp_skip (hK10 _ _ (seq_any fun K14 hK14 => reg_still mixed (by kernel_rfl) ?_)))))
 intro w16 E15
 have z_w16 := E15.size
 have hx := hx.keep0 E15
 have ok := ok.keep0 E15
 have oc := oc.keep0 E15
 have ks := all9 ks fun _ h => h.keep0 E15
 have hxa := hxa.keep0 E15
 have hxb := hxb.keep0 E15
 have oa := oa.keep0 E15
 have ob := ob.keep0 E15
 have kas := all9 kas fun _ h => h.keep0 E15
 have kbs := all9 kbs fun _ h => h.keep0 E15
 have hr := hr.kz E15
 have hb := hb.step0 E15
 refine st_step rfl (fun _ h9 => op_move (ev_base hN rfl s0) h9) ?_
 refine st_step rfl (fun _ h9 => op_nil (ev_hit hN rfl) h9) ?_
 refine st_step rfl (fun _ h9 => op_field fld115_2 (ev_hit hN rfl) h9) ?_
 refine st_step rfl (fun _ h9 => op_load1 (v := cv) one113 (ev_hit hN rfl) (hx.cell rfl) h9) ?_
 refine st_step rfl (fun _ h9 => op_move (ev_hit hN rfl) h9) ?_
 refine st_index_rd slt113 (ev_hit hN rfl) oc.rdw (ev_hit hN rfl) (by omega) (by omega) ?_
 intro b17 o18 h0b17 h1b17 hc19
 refine st_step rfl (fun _ h9 => op_load1 (v := (ptr (P.getD i default) 0)) one69 (ev_hit hN rfl) (by have := hc19 0 (ptr (P.getD i default) 0) (by decide) (el_pn (i := i) (by omega) (by first | omega | (simp only [List.length_drop, List.length_take]; omega))); simpa using this) h9) ?_
 refine st_step rfl (fun _ h9 => op_move (ev_base hN rfl s0) h9) ?_
 refine st_step rfl (fun _ h9 => op_nil (ev_hit hN rfl) h9) ?_
 refine st_step rfl (fun _ h9 => op_field fld115_2 (ev_hit hN rfl) h9) ?_
 refine st_step rfl (fun _ h9 => op_load1 (v := cv) one113 (ev_hit hN rfl) (hx.cell rfl) h9) ?_
 refine st_step rfl (fun _ h9 => op_move (ev_hit hN rfl) h9) ?_
 refine st_step rfl (fun _ h9 => op_add (ev_hit hN rfl) rfl (add64 (by omega)) h9) ?_
 refine st_index_rd slt113 (ev_hit hN rfl) oc.rdw (ev_hit hN rfl) (by omega) (by omega) ?_
 intro b22 o23 h0b22 h1b22 hc24
 refine st_step rfl (fun _ h9 => op_load1 (v := (ptr (P.getD (i + 1) default) 0)) one69 (ev_hit hN rfl) (by have := hc24 0 (ptr (P.getD (i + 1) default) 0) (by decide) (el_pn (i := (i + 1)) (by omega) (by first | omega | (simp only [List.length_drop, List.length_take]; omega))); simpa using this) h9) ?_
 refine st_step rfl (fun _ h9 => op_assign (ev_hit hN rfl) h9) ?_
 refine st_step rfl (fun _ h9 => op_assign (ev_hit hN rfl) h9) ?_
 refine st_nil ?_
 refine hK14 _ _ (seq_any fun K25 hK25 => seq_any fun K26 hK26 => one_reg (op_move (ev_hit hN rfl) (op_fn (vs := [(ptr (P.getD i default) 0)]) ok81 ⟨(ev_hit hN rfl), trivial⟩ (Ret.flip (leafLI hxa oa)) ?_)))
 rintro _ _ ⟨rfl, rfl⟩
 refine op_not (ev_hit hN rfl) ?_
 refine reg_nil (hK26 _ _ (wp_cond_false (ev_hit hN rfl) (wp_skip (hK25 _ _ (seq_any fun K27 hK27 => reg_split (hd := [_, _, _, _, _, _, _, _, _, _, _, _, _, _, _, _, _, _, _, _, _, _, _]) (tl := _) 23 mixed (by kernel_rfl) rfl rfl ?_)))))
 refine any_envk (φ := phiV [(fun uz => uz = (ptr (P.getD i default) 0)), (fun uz => uz = (ptr (P.getD i default) 0)), (fun uz => uz = (ptr (P.getD i default) 0)), (fun uz => uz = (ptr (P.getD i default) 0)), (fun uz => uz = (ptr (P.getD i default) 0)), (fun uz => uz = av), (fun uz => uz = (ptr (P.getD (i + 1) default) 0)), (fun uz => uz = (ptr (P.getD (i + 1) default) 0)), (fun uz => uz = (ptr (P.getD (i + 1) default) 0)), (fun uz => uz = bv), (fun _ => True), (fun uz => uz = (ptr (P.getD i default) 0)), (fun uz => uz = (ptr (P.getD i default) 0)), (fun uz => uz = (ptr (P.getD i default) 2)), (fun uz => uz = (Value.slice none 0 0)), (fun uz => uz = (ptr (P.getD (i + 1) default) 0)), (fun uz => uz = (ptr (P.getD (i + 1) default) 0)), (fun uz => uz = (ptr (P.getD (i + 1) default) 2)), (fun uz => uz = (Value.slice none 0 0)), (fun _ => True), (fun uz => uz = (ptr (P.getD i default) 0)), (fun uz => uz = (ptr (P.getD i default) 0)), (fun _ => True)]) (G := fun c9 w' => c9 ≤ 2 → (Bx w' (P.getD i default) 115 [av, (Value.slice none 0 0), (Value.slice none 0 0)] ∧ Bx w' (P.getD (i + 1) default) 115 [bv, (Value.slice none 0 0), (Value.slice none 0 0)])) [10, 19, 22] (by kernel_rfl) (by kernel_rfl) (by kernel_rfl) (by kernel_rfl) hN (fun _ w1 w2 E h hc9 => by have h := h hc9; obtain ⟨h0, h1⟩ := h; exact ⟨h0.keep0 E, h1.keep0 E⟩) (fun _ => ⟨hxa, hxb⟩) (ObKs.cons ?_ (ObKs.cons ?_ (ObKs.cons ?_ (ObKs.cons ?_ (ObKs.cons ?_ (ObKs.cons ?_ (ObKs.cons ?_ (ObKs.cons ?_ (ObKs.cons ?_ (ObKs.cons ?_ (ObKs.pass rfl (ObKs.cons ?_ (ObKs.cons ?_ (ObKs.cons ?_ (ObKs.cons ?_ (ObKs.cons ?_ (ObKs.cons ?_ (ObKs.cons ?_ (ObKs.cons ?_ (ObKs.pass rfl (ObKs.cons ?_ (ObKs.cons ?_ (ObKs.pass rfl (ObKs.nil)))))))))))))))))))))))) (by simp only [putsL_defers]) ?_
 ·
  intro eA aA wA hNA hckA hGA hbsA hdpA
  have qA_5 := (hbsA 5 rfl).trans (sl_hit hN rfl)
  refine op_move (ev_base hNA rfl qA_5) ?_
  exact obK_end rfl rfl rfl
 ·
  intro eA aA wA hNA hckA hGA hbsA hdpA
  have qA_5 := (hbsA 5 rfl).trans (sl_hit hN rfl)
  refine op_move (ev_base hNA rfl qA_5) ?_
  exact obK_end rfl rfl rfl
 ·
  intro eA aA wA hNA hckA hGA hbsA hdpA
  have qA_5 := (hbsA 5 rfl).trans (sl_hit hN rfl)
  refine op_move (ev_base hNA rfl qA_5) ?_
  exact obK_end rfl rfl rfl
 ·
  intro eA aA wA hNA hckA hGA hbsA hdpA
  have qA_56 : Sl aA 56 (ptr (P.getD i default) 0) := (hdpA 2 _ 56 (by kernel_rfl) rfl rfl).2 rfl
  refine op_nil (ev_base hNA rfl qA_56) ?_
  exact obK_end rfl rfl rfl
 ·
  intro eA aA wA hNA hckA hGA hbsA hdpA
  have qA_57 : Sl aA 57 (ptr (P.getD i default) 0) := (hdpA 3 _ 57 (by kernel_rfl) rfl rfl).2 rfl
  refine op_field fld115_0 (ev_base hNA rfl qA_57) ?_
  exact obK_end rfl rfl rfl
 ·
  intro eA aA wA hNA hckA hGA hbsA hdpA
  have qA_58 : Sl aA 58 (ptr (P.getD i default) 0) := (hdpA 4 _ 58 (by kernel_rfl) rfl rfl).2 rfl
  have hGA := hGA (hckA 2 22 rfl (by kernel_rfl))
  obtain ⟨hxa, hxb⟩ := hGA
  refine op_load1 (v := av) one48 (ev_base hNA rfl qA_58) (hxa.cell rfl) ?_
  exact obK_end rfl rfl rfl
 ·
  intro eA aA wA hNA hckA hGA hbsA hdpA
  have qA_6 := (hbsA 6 rfl).trans (sl_hit hN rfl)
  refine op_move (ev_base hNA rfl qA_6) ?_
  exact obK_end rfl rfl rfl
 ·
  intro eA aA wA hNA hckA hGA hbsA hdpA
  have qA_60 : Sl aA 60 (ptr (P.getD (i + 1) default) 0) := (hdpA 6 _ 60 (by kernel_rfl) rfl rfl).2 rfl
  refine op_nil (ev_base hNA rfl qA_60) ?_
  exact obK_end rfl rfl rfl
 ·
  intro eA aA wA hNA hckA hGA hbsA hdpA
  have qA_61 : Sl aA 61 (ptr (P.getD (i + 1) default) 0) := (hdpA 7 _ 61 (by kernel_rfl) rfl rfl).2 rfl
  refine op_field fld115_0 (ev_base hNA rfl qA_61) ?_
  exact obK_end rfl rfl rfl
 ·
  intro eA aA wA hNA hckA hGA hbsA hdpA
  have qA_62 : Sl aA 62 (ptr (P.getD (i + 1) default) 0) := (hdpA 8 _ 62 (by kernel_rfl) rfl rfl).2 rfl
  have hGA := hGA (hckA 2 22 rfl (by kernel_rfl))
  obtain ⟨hxa, hxb⟩ := hGA
  refine op_load1 (v := bv) one48 (ev_base hNA rfl qA_62) (hxb.cell rfl) ?_
  exact obK_end rfl rfl rfl
 ·
  intro eA aA wA hNA hckA hGA hbsA hdpA
  have qA_5 := (hbsA 5 rfl).trans (sl_hit hN rfl)
  refine op_move (ev_base hNA rfl qA_5) ?_
  exact obK_end rfl rfl rfl
 ·
  intro eA aA wA hNA hckA hGA hbsA hdpA
  have qA_65 : Sl aA 65 (ptr (P.getD i default) 0) := (hdpA 11 _ 65 (by kernel_rfl) rfl rfl).2 rfl
  refine op_nil (ev_base hNA rfl qA_65) ?_
  exact obK_end rfl rfl rfl
 ·
  intro eA aA wA hNA hckA hGA hbsA hdpA
  have qA_66 : Sl aA 66 (ptr (P.getD i default) 0) := (hdpA 12 _ 66 (by kernel_rfl) rfl rfl).2 rfl
  refine op_field fld115_2 (ev_base hNA rfl qA_66) ?_
  exact obK_end rfl rfl rfl
 ·
  intro eA aA wA hNA hckA hGA hbsA hdpA
  have qA_67 : Sl aA 67 (ptr (P.getD i default) 2) := (hdpA 13 _ 67 (by kernel_rfl) rfl rfl).2 rfl
  have hGA := hGA (hckA 2 22 rfl (by kernel_rfl))
  obtain ⟨hxa, hxb⟩ := hGA
  refine op_load1 (v := (Value.slice none 0 0)) one113 (ev_base hNA rfl qA_67) (hxa.cell rfl) ?_
  exact obK_end rfl rfl rfl
 ·
  intro eA aA wA hNA hckA hGA hbsA hdpA
  have qA_6 := (hbsA 6 rfl).trans (sl_hit hN rfl)
  refine op_move (ev_base hNA rfl qA_6) ?_
  exact obK_end rfl rfl rfl
 ·
  intro eA aA wA hNA hckA hGA hbsA hdpA
  have qA_69 : Sl aA 69 (ptr (P.getD (i + 1) default) 0) := (hdpA 15 _ 69 (by kernel_rfl) rfl rfl).2 rfl
  refine op_nil (ev_base hNA rfl qA_69) ?_
  exact obK_end rfl rfl rfl
 ·
  intro eA aA wA hNA hckA hGA hbsA hdpA
  have qA_70 : Sl aA 70 (ptr (P.getD (i + 1) default) 0) := (hdpA 16 _ 70 (by kernel_rfl) rfl rfl).2 rfl
  refine op_field fld115_2 (ev_base hNA rfl qA_70) ?_
  exact obK_end rfl rfl rfl
 ·
  intro eA aA wA hNA hckA hGA hbsA hdpA
  have qA_71 : Sl aA 71 (ptr (P.getD (i + 1) default) 2) := (hdpA 17 _ 71 (by kernel_rfl) rfl rfl).2 rfl
  have hGA := hGA (hckA 2 22 rfl (by kernel_rfl))
  obtain ⟨hxa, hxb⟩ := hGA
  refine op_load1 (v := (Value.slice none 0 0)) one113 (ev_base hNA rfl qA_71) (hxb.cell rfl) ?_
  exact obK_end rfl rfl rfl
 ·
  intro eA aA wA hNA hckA hGA hbsA hdpA
  have qA_54 : Sl aA 54 (ptr (P.getD i default) 0) := (hdpA 0 _ 54 (by kernel_rfl) rfl rfl).2 rfl
  refine op_nil (ev_base hNA rfl qA_54) ?_
  exact obK_end rfl rfl rfl
 ·
  intro eA aA wA hNA hckA hGA hbsA hdpA
  have qA_74 : Sl aA 74 (ptr (P.getD i default) 0) := (hdpA 20 _ 74 (by kernel_rfl) rfl rfl).2 rfl
  refine op_field fld115_0 (ev_base hNA rfl qA_74) ?_
  exact obK_end rfl rfl rfl
 ·
  intro w28 E28 _ a28 hN28 hbs28 hdp28 o_ ho_; obtain rfl := Option.some.inj ho_
  have z_w28 := E28.size
  have hx := hx.keep0 E28
  have ok := ok.keep0 E28
  have oc := oc.keep0 E28
  have ks := all9 ks fun _ h => h.keep0 E28
  have hxa := hxa.keep0 E28
  have hxb := hxb.keep0 E28
  have oa := oa.keep0 E28
  have ob := ob.keep0 E28
  have kas := all9 kas fun _ h => h.keep0 E28
  have kbs := all9 kbs fun _ h => h.keep0 E28
  have hr := hr.kz E28
  have hb := hb.step0 E28
  have q28_59 : Sl a28 59 av := (hdp28 5 _ 59 (by kernel_rfl) rfl rfl).2 rfl
  have q28_63 : Sl a28 63 bv := (hdp28 9 _ 63 (by kernel_rfl) rfl rfl).2 rfl
  have hP34 := oa
  refine op_append slt48 (ev_base hN28 rfl q28_59) hP34 (ev_base hN28 rfl q28_63) (Src.ofRd Try.underlying48 (by decide) ob.rdw (one_pI kbs (fun _ h => h))) (by unfold maxLen; omega) (by omega) (Nat.le_trans (by assumption) hb.size) ?_
  intro v29 w30 hO32 E31 hm33
  have dj35 : Dj G0 (Bl v29) := Dj.step hm33 (fun k hk => (hr.lt k hk).2) djaG.symm
  have z_w30 := E31.size
  have hx := hx.keepO hP34 E31 (by decide)
  have ok := ok.keepT hP34 E31 (by decide)
  have oc := oc.keepT hP34 E31 (by decide)
  have ks := all9 ks fun _ h => h.keepT hP34 E31 (by decide)
  have hxa := hxa.keepO hP34 E31 (by decide)
  have hxb := hxb.keepO hP34 E31 (by decide)
  have kas := all9 kas fun _ h => h.keepT hP34 E31 (by decide)
  have kbs := all9 kbs fun _ h => h.keepT hP34 E31 (by decide)
  have hr := hr.keepG (Gr.of E31) djaG.symm (NoK.ofOwn hP34 (by decide))
  have hb := hb.stepL E31 (fun k _ h => hNd.wg k (hfs k (hA.wv k h)))
  have hO32 : Own w30 0 51 2 v29 (Da.length + Db.length) (((Da ++ Db)).flatMap cI) := by simpa [u8v, sv] using hO32
  refine kk_end rfl (by decide) rfl (fun _ => ⟨hxa, hxb⟩) ?_
  intro w36 E36 _ a36 hN36 hbs36 hdp36 o_ ho_; obtain rfl := Option.some.inj ho_
  have z_w36 := E36.size
  have hx := hx.keep0 E36
  have ok := ok.keep0 E36
  have oc := oc.keep0 E36
  have ks := all9 ks fun _ h => h.keep0 E36
  have hxa := hxa.keep0 E36
  have hxb := hxb.keep0 E36
  have kas := all9 kas fun _ h => h.keep0 E36
  have kbs := all9 kbs fun _ h => h.keep0 E36
  have hr := hr.kz E36
  have hO32 := hO32.keep0 E36
  have hb := hb.step0 E36
  have q36_68 : Sl a36 68 (Value.slice none 0 0) := (hdp36 14 _ 68 (by kernel_rfl) rfl rfl).2 rfl
  have q36_72 : Sl a36 72 (Value.slice none 0 0) := (hdp36 18 _ 72 (by kernel_rfl) rfl rfl).2 rfl
  refine op_append_none slt113 Try.underlying113 (by decide) (ev_base hN36 rfl q36_68) (ev_base hN36 rfl q36_72) ?_
  intro w37 E38
  have z_w37 := E38.size
  have hx := hx.keep0 E38
  have ok := ok.keep0 E38
  have oc := oc.keep0 E38
  have ks := all9 ks fun _ h => h.keep0 E38
  have hxa := hxa.keep0 E38
  have hxb := hxb.keep0 E38
  have kas := all9 kas fun _ h => h.keep0 E38
  have kbs := all9 kbs fun _ h => h.keep0 E38
  have hr := hr.kz E38
  have hO32 := hO32.keep0 E38
  have hb := hb.step0 E38
  refine kk_end rfl (by decide) rfl (fun _ => ⟨hxa, hxb⟩) ?_
  intro w39 E39 _ a39 hN39 hbs39 hdp39 o_ ho_; obtain rfl := Option.some.inj ho_
  have z_w39 := E39.size
  have hx := hx.keep0 E39
  have ok := ok.keep0 E39
  have oc := oc.keep0 E39
  have ks := all9 ks fun _ h => h.keep0 E39
  have hxa := hxa.keep0 E39
  have kas := all9 kas fun _ h => h.keep0 E39
  have kbs := all9 kbs fun _ h => h.keep0 E39
  have hr := hr.kz E39
  have hO32 := hO32.keep0 E39
  have hb := hb.step0 E39
  have q39_75 : Sl a39 75 (ptr (P.getD i default) 0) := (hdp39 21 _ 75 (by kernel_rfl) rfl rfl).2 rfl
  have q39_64 : Sl a39 64 v29 := (Option.some.inj ((hdp39 10 _ 64 (by kernel_rfl) rfl rfl).1 0 rfl)).symm
  have hxa_old := hxa
  refine op_store (vs := [v29]) (cs' := [v29, (Value.slice none 0 0), (Value.slice none 0 0)]) size48 (ev_base hN39 rfl q39_75) (ev_base hN39 rfl q39_64) hO32.cl rfl (by simp only [List.all_cons, List.all_nil, Bool.true_and, Bool.and_true, hO32.one]; try rfl) hxa (Nat.le_of_ble_eq_true rfl) rfl ?_
  intro w40 hxa E41
  have z_w40 := E41.size
  have hx := hx.keep E41 (by simp only [ne_eq, Option.some.injEq]; omega)
  have ok := ok.keepX hxa_old E41 (by decide)
  have oc := oc.keepX hxa_old E41 (by decide)
  have ks := all9 ks fun _ h => h.keepX hxa_old E41 (by decide)
  have kas := all9 kas fun _ h => h.keepX hxa_old E41 (by decide)
  have kbs := all9 kbs fun _ h => h.keepX hxa_old E41 (by decide)
  have hr := hr.keepG (Gr.of E41) (Dj.one djpaG) (NoK.ofBx hxa_old (by decide))
  have hO32 := hO32.keepX hxa_old E41 (by decide)
  have hb := hb.stepB E41 (hNd.wg _ (hfs _ hA.wp))
  refine kk_end0 rfl (fun h => absurd h (by simp)) ?_
  intro w42 E42 a42 hN42 hd42 hbs42 hph42
  have hd42 := hd42.trans ((by simp only [putsL_defers] : _ = _).trans hd)
  have z_w42 := E42.size
  have hx := hx.keep0 E42
  have ok := ok.keep0 E42
  have oc := oc.keep0 E42
  have ks := all9 ks fun _ h => h.keep0 E42
  have kas := all9 kas fun _ h => h.keep0 E42
  have kbs := all9 kbs fun _ h => h.keep0 E42
  have hr := hr.kz E42
  have hO32 := hO32.keep0 E42
  have hxa := hxa.keep0 E42
  have hb := hb.step0 E42
  have s42_0 := (hbs42 0 rfl).trans (sl_base hN rfl s0)
  have s42_4 := (hbs42 4 rfl).trans (sl_hit hN rfl)
  have s42_55 : Sl a42 55 (ptr (P.getD i default) 0) := (hph42 1 _ 55 rfl rfl).2 rfl
  have s42_73 : Sl a42 73 (Value.slice none 0 0) := (Option.some.inj ((hph42 19 _ 73 rfl rfl).1 1 rfl)).symm
  refine split_end ?_
  refine from_seq (tl := [_, _, _]) (by decide) (by kernel_rfl) rfl ?_
  refine op_nil (ev_base hN42 rfl s42_55) (op_field fld115_2 (ev_hit hN42 rfl) ?_)
  have hxa_old := hxa
  refine op_store (vs := [(Value.slice none 0 0)]) (cs' := [v29, (Value.slice none 0 0), (Value.slice none 0 0)]) size113 (ev_hit hN42 rfl) (ev_base hN42 rfl s42_73) rfl rfl rfl hxa (Nat.le_of_ble_eq_true rfl) rfl ?_
  intro w43 hxa E44
  have z_w43 := E44.size
  have hx := hx.keep E44 (by simp only [ne_eq, Option.some.injEq]; omega)
  have ok := ok.keepX hxa_old E44 (by decide)
  have oc := oc.keepX hxa_old E44 (by decide)
  have ks := all9 ks fun _ h => h.keepX hxa_old E44 (by decide)
  have kas := all9 kas fun _ h => h.keepX hxa_old E44 (by decide)
  have kbs := all9 kbs fun _ h => h.keepX hxa_old E44 (by decide)
  have hr := hr.keepG (Gr.of E44) (Dj.one djpaG) (NoK.ofBx hxa_old (by decide))
  have hO32 := hO32.keepX hxa_old E44 (by decide)
  have hb := hb.stepB E44 (hNd.wg _ (hfs _ hA.wp))
  refine reg_nil (hK27 _ _ (reg_split (hd := [_, _, _, _, _, _, _, _, _, _, _, _, _, _, _, _, _, _, _, _, _, _]) (tl := _) 22 mixed (by kernel_rfl) rfl rfl ?_))
  refine any_envk (φ := phiV [(fun uz => uz = (ptr p 0)), (fun uz => uz = (ptr p 0)), (fun uz => uz = (ptr p 0)), (fun uz => uz = (ptr p 0)), (fun uz => uz = (ptr p 1)), (fun uz => uz = kv), (fun uz => uz = (Value.int .i64 ((i : Nat) : Int))), (fun uz => uz = (Value.int .i64 ((i : Nat) : Int))), (fun uz => uz = (Value.int .i64 (((i : Nat) : Int) + 1))), (fun _ => True), (fun uz => uz = (ptr p 0)), (fun uz => uz = (ptr p 0)), (fun uz => uz = (ptr p 2)), (fun uz => uz = cv), (fun uz => uz = (Value.int .i64 ((i : Nat) : Int))), (fun uz => uz = (Value.int .i64 ((i + 1 : Nat) : Int))), (fun uz => uz = (Value.int .i64 ((i : Nat) : Int))), (fun uz => uz = (Value.int .i64 ((i + 1 + 1 : Nat) : Int))), (fun _ => True), (fun uz => uz = (ptr p 0)), (fun uz => uz = (ptr p 1)), (fun _ => True)]) (G := fun c9 w' => c9 ≤ 2 → (Bx w' p 115 [(Value.slice none 0 0), kv, cv])) [9, 18, 21] (by kernel_rfl) (by kernel_rfl) (by kernel_rfl) (by kernel_rfl) hN42 (fun _ w1 w2 E h hc9 => (h hc9).keep0 E) (fun _ => hx) (ObKs.cons ?_ (ObKs.cons ?_ (ObKs.cons ?_ (ObKs.cons ?_ (ObKs.cons ?_ (ObKs.cons ?_ (ObKs.cons ?_ (ObKs.cons ?_ (ObKs.cons ?_ (ObKs.pass rfl (ObKs.cons ?_ (ObKs.cons ?_ (ObKs.cons ?_ (ObKs.cons ?_ (ObKs.cons ?_ (ObKs.cons ?_ (ObKs.cons ?_ (ObKs.cons ?_ (ObKs.pass rfl (ObKs.cons ?_ (ObKs.cons ?_ (ObKs.pass rfl (ObKs.nil))))))))))))))))))))))) (by simp only [putsL_defers]) ?_
  ·
   intro eA aA wA hNA hckA hGA hbsA hdpA
   have qA_0 := (hbsA 0 rfl).trans (sl_base hN42 rfl s42_0)
   refine op_move (ev_base hNA rfl qA_0) ?_
   exact obK_end rfl rfl rfl
  ·
   intro eA aA wA hNA hckA hGA hbsA hdpA
   have qA_0 := (hbsA 0 rfl).trans (sl_base hN42 rfl s42_0)
   refine op_move (ev_base hNA rfl qA_0) ?_
   exact obK_end rfl rfl rfl
  ·
   intro eA aA wA hNA hckA hGA hbsA hdpA
   have qA_0 := (hbsA 0 rfl).trans (sl_base hN42 rfl s42_0)
   refine op_move (ev_base hNA rfl qA_0) ?_
   exact obK_end rfl rfl rfl
  ·
   intro eA aA wA hNA hckA hGA hbsA hdpA
   have qA_80 : Sl aA 80 (ptr p 0) := (hdpA 2 _ 80 (by kernel_rfl) rfl rfl).2 rfl
   refine op_nil (ev_base hNA rfl qA_80) ?_
   exact obK_end rfl rfl rfl
  ·
   intro eA aA wA hNA hckA hGA hbsA hdpA
   have qA_81 : Sl aA 81 (ptr p 0) := (hdpA 3 _ 81 (by kernel_rfl) rfl rfl).2 rfl
   refine op_field fld115_1 (ev_base hNA rfl qA_81) ?_
   exact obK_end rfl rfl rfl
  ·
   intro eA aA wA hNA hckA hGA hbsA hdpA
   have qA_82 : Sl aA 82 (ptr p 1) := (hdpA 4 _ 82 (by kernel_rfl) rfl rfl).2 rfl
   have hGA := hGA (hckA 2 21 rfl (by kernel_rfl))
   refine op_load1 (v := kv) one90 (ev_base hNA rfl qA_82) (hGA.cell rfl) ?_
   exact obK_end rfl rfl rfl
  ·
   intro eA aA wA hNA hckA hGA hbsA hdpA
   have qA_4 := (hbsA 4 rfl).trans (sl_base hN42 rfl s42_4)
   refine op_move (ev_base hNA rfl qA_4) ?_
   exact obK_end rfl rfl rfl
  ·
   intro eA aA wA hNA hckA hGA hbsA hdpA
   have qA_4 := (hbsA 4 rfl).trans (sl_base hN42 rfl s42_4)
   refine op_move (ev_base hNA rfl qA_4) ?_
   exact obK_end rfl rfl rfl
  ·
   intro eA aA wA hNA hckA hGA hbsA hdpA
   have qA_85 : Sl aA 85 (Value.int .i64 ((i : Nat) : Int)) := (hdpA 7 _ 85 (by kernel_rfl) rfl rfl).2 rfl
   refine op_add (ev_base hNA rfl qA_85) rfl (add64 (by omega)) ?_
   exact obK_end rfl rfl rfl
  ·
   intro eA aA wA hNA hckA hGA hbsA hdpA
   have qA_0 := (hbsA 0 rfl).trans (sl_base hN42 rfl s42_0)
   refine op_move (ev_base hNA rfl qA_0) ?_
   exact obK_end rfl rfl rfl
  ·
   intro eA aA wA hNA hckA hGA hbsA hdpA
   have qA_88 : Sl aA 88 (ptr p 0) := (hdpA 10 _ 88 (by kernel_rfl) rfl rfl).2 rfl
   refine op_nil (ev_base hNA rfl qA_88) ?_
   exact obK_end rfl rfl rfl
  ·
   intro eA aA wA hNA hckA hGA hbsA hdpA
   have qA_89 : Sl aA 89 (ptr p 0) := (hdpA 11 _ 89 (by kernel_rfl) rfl rfl).2 rfl
   refine op_field fld115_2 (ev_base hNA rfl qA_89) ?_
   exact obK_end rfl rfl rfl
  ·
   intro eA aA wA hNA hckA hGA hbsA hdpA
   have qA_90 : Sl aA 90 (ptr p 2) := (hdpA 12 _ 90 (by kernel_rfl) rfl rfl).2 rfl
   have hGA := hGA (hckA 2 21 rfl (by kernel_rfl))
   refine op_load1 (v := cv) one113 (ev_base hNA rfl qA_90) (hGA.cell rfl) ?_
   exact obK_end rfl rfl rfl
  ·
   intro eA aA wA hNA hckA hGA hbsA hdpA
   have qA_4 := (hbsA 4 rfl).trans (sl_base hN42 rfl s42_4)
   refine op_move (ev_base hNA rfl qA_4) ?_
   exact obK_end rfl rfl rfl
  ·
   intro eA aA wA hNA hckA hGA hbsA hdpA
   have qA_92 : Sl aA 92 (Value.int .i64 ((i : Nat) : Int)) := (hdpA 14 _ 92 (by kernel_rfl) rfl rfl).2 rfl
   refine op_add (r := ((i + 1 : Nat) : Int)) (ev_base hNA rfl qA_92) rfl ((add64 (by omega)).trans (by omega)) ?_
   exact obK_end rfl rfl rfl
  ·
   intro eA aA wA hNA hckA hGA hbsA hdpA
   have qA_4 := (hbsA 4 rfl).trans (sl_base hN42 rfl s42_4)
   refine op_move (ev_base hNA rfl qA_4) ?_
   exact obK_end rfl rfl rfl
  ·
   intro eA aA wA hNA hckA hGA hbsA hdpA
   have qA_94 : Sl aA 94 (Value.int .i64 ((i : Nat) : Int)) := (hdpA 16 _ 94 (by kernel_rfl) rfl rfl).2 rfl
   refine op_add (r := ((i + 1 + 1 : Nat) : Int)) (ev_base hNA rfl qA_94) rfl ((add64 (by omega)).trans (by omega)) ?_
   exact obK_end rfl rfl rfl
  ·
   intro eA aA wA hNA hckA hGA hbsA hdpA
   have qA_78 : Sl aA 78 (ptr p 0) := (hdpA 0 _ 78 (by kernel_rfl) rfl rfl).2 rfl
   refine op_nil (ev_base hNA rfl qA_78) ?_
   exact obK_end rfl rfl rfl
  ·
   intro eA aA wA hNA hckA hGA hbsA hdpA
   have qA_97 : Sl aA 97 (ptr p 0) := (hdpA 19 _ 97 (by kernel_rfl) rfl rfl).2 rfl
   refine op_field fld115_1 (ev_base hNA rfl qA_97) ?_
   exact obK_end rfl rfl rfl
  ·
   intro w45 E45 _ a45 hN45 hbs45 hdp45 o_ ho_; obtain rfl := Option.some.inj ho_
   have z_w45 := E45.size
   have hx := hx.keep0 E45
   have ok := ok.keep0 E45
   have oc := oc.keep0 E45
   have ks := all9 ks fun _ h => h.keep0 E45
   have kas := all9 kas fun _ h => h.keep0 E45
   have kbs := all9 kbs fun _ h => h.keep0 E45
   have hr := hr.kz E45
   have hO32 := hO32.keep0 E45
   have hxa := hxa.keep0 E45
   have hb := hb.step0 E45
   have q45_83 : Sl a45 83 kv := (hdp45 5 _ 83 (by kernel_rfl) rfl rfl).2 rfl
   have q45_84 : Sl a45 84 (Value.int .i64 ((i : Nat) : Int)) := (hdp45 6 _ 84 (by kernel_rfl) rfl rfl).2 rfl
   have q45_86 : Sl a45 86 (Value.int .i64 (((i : Nat) : Int) + 1)) := (hdp45 8 _ 86 (by kernel_rfl) rfl rfl).2 rfl
   refine op_fn (vs := [kv, (Value.int .i64 ((i : Nat) : Int)), (Value.int .i64 (((i : Nat) : Int) + 1))]) ok121 ⟨(ev_base hN45 rfl q45_83), ⟨(ev_base hN45 rfl q45_84), ⟨(ev_base hN45 rfl q45_86), trivial⟩⟩⟩ (DelK (i := i) ok (one_kd ks (fun _ h => h)) (by omega) (by omega)) ?_
   rintro v46 w47 ⟨E49, hO46, hm46⟩
   have hm46 : v46.ownBlock = kv.ownBlock ∨ ∀ k, v46.ownBlock = some k → w45.heap.size ≤ k := .inl hm46
   have dj50 : Dj G0 (Bl v46) := Dj.step hm46 (fun k hk => (hr.lt k hk).2) djkG.symm
   have hin51 := inF_step (n := w.heap.size) hm46 (by omega) (fun k _ h => hNd.wk k h)
   have z_w47 := E49.size
   have hx := hx.keepO ok E49 (by decide)
   have oc := oc.keepT ok E49 (by decide)
   have ks := all9 ks fun _ h => h.keepT ok E49 (by decide)
   have kas := all9 kas fun _ h => h.keepT ok E49 (by decide)
   have kbs := all9 kbs fun _ h => h.keepT ok E49 (by decide)
   have hr := hr.keepG (Gr.of E49) djkG.symm (NoK.ofOwn ok (by decide))
   have hO32 := hO32.keepT ok E49 (by decide)
   have hxa := hxa.keepO ok E49 (by decide)
   have hb := hb.stepL E49 (fun k _ h => hNd.wk k h)
   have hO46 : Own w47 0 27 1 v46 (K.eraseIdx i).length ((K.eraseIdx i).flatMap cK) := hO46.cast (by rw [List.length_eraseIdx, if_pos (by omega)]) (flat_del cK_len _ _)
   refine kk_end rfl (by decide) rfl (fun _ => hx) ?_
   intro w52 E52 _ a52 hN52 hbs52 hdp52 o_ ho_; obtain rfl := Option.some.inj ho_
   have z_w52 := E52.size
   have hx := hx.keep0 E52
   have oc := oc.keep0 E52
   have ks := all9 ks fun _ h => h.keep0 E52
   have kas := all9 kas fun _ h => h.keep0 E52
   have kbs := all9 kbs fun _ h => h.keep0 E52
   have hr := hr.kz E52
   have hO32 := hO32.keep0 E52
   have hxa := hxa.keep0 E52
   have hO46 := hO46.keep0 E52
   have hb := hb.step0 E52
   have q52_91 : Sl a52 91 cv := (hdp52 13 _ 91 (by kernel_rfl) rfl rfl).2 rfl
   have q52_93 : Sl a52 93 (Value.int .i64 ((i + 1 : Nat) : Int)) := (hdp52 15 _ 93 (by kernel_rfl) rfl rfl).2 rfl
   have q52_95 : Sl a52 95 (Value.int .i64 ((i + 1 + 1 : Nat) : Int)) := (hdp52 17 _ 95 (by kernel_rfl) rfl rfl).2 rfl
   refine op_fn (vs := [cv, (Value.int .i64 ((i + 1 : Nat) : Int)), (Value.int .i64 ((i + 1 + 1 : Nat) : Int))]) ok122 ⟨(ev_base hN52 rfl q52_91), ⟨(ev_base hN52 rfl q52_93), ⟨(ev_base hN52 rfl q52_95), trivial⟩⟩⟩ (DelN (i := (i + 1)) oc (one_pn _) (by omega) (by omega)) ?_
   rintro v53 w76 ⟨E77, hO53, hm53⟩
   have hm53 : v53.ownBlock = cv.ownBlock ∨ ∀ k, v53.ownBlock = some k → w52.heap.size ≤ k := .inl hm53
   have dj99 : Dj G0 (Bl v53) := Dj.step hm53 (fun k hk => (hr.lt k hk).2) djcG.symm
   have hin100 := inF_step (n := w.heap.size) hm53 (by omega) (fun k _ h => hNd.wc k h)
   have z_w76 := E77.size
   have hx := hx.keepO oc E77 (by decide)
   have ks := all9 ks fun _ h => h.keepT oc E77 (by decide)
   have kas := all9 kas fun _ h => h.keepT oc E77 (by decide)
   have kbs := all9 kbs fun _ h => h.keepT oc E77 (by decide)
   have hr := hr.keepG (Gr.of E77) djcG.symm (NoK.ofOwn oc (by decide))
   have hO32 := hO32.keepT oc E77 (by decide)
   have hxa := hxa.keepO oc E77 (by decide)
   have hO46 := hO46.keepT oc E77 (by decide)
   have hb := hb.stepL E77 (fun k _ h => hNd.wc k h)
   have hO53 : Own w76 0 69 1 v53 (P.eraseIdx (i + 1)).length ((P.eraseIdx (i + 1)).flatMap cN) := hO53.cast (by rw [List.length_eraseIdx, if_pos (by omega)]) (flat_del cN_len _ _)
   refine kk_end rfl (by decide) rfl (fun _ => hx) ?_
   intro w101 E101 _ a101 hN101 hbs101 hdp101 o_ ho_; obtain rfl := Option.some.inj ho_
   have z_w101 := E101.size
   have hx := hx.keep0 E101
   have ks := all9 ks fun _ h => h.keep0 E101
   have kas := all9 kas fun _ h => h.keep0 E101
   have kbs := all9 kbs fun _ h => h.keep0 E101
   have hr := hr.kz E101
   have hO32 := hO32.keep0 E101
   have hxa := hxa.keep0 E101
   have hO46 := hO46.keep0 E101
   have hO53 := hO53.keep0 E101
   have hb := hb.step0 E101
   have q101_98 : Sl a101 98 (ptr p 1) := (hdp101 20 _ 98 (by kernel_rfl) rfl rfl).2 rfl
   have q101_87 : Sl a101 87 v46 := (Option.some.inj ((hdp101 9 _ 87 (by kernel_rfl) rfl rfl).1 0 rfl)).symm
   have hx_old := hx
   refine op_store (vs := [v46]) (cs' := [(Value.slice none 0 0), v46, cv]) size90 (ev_base hN101 rfl q101_98) (ev_base hN101 rfl q101_87) hO46.cl rfl (by simp only [List.all_cons, List.all_nil, Bool.true_and, Bool.and_true, hO46.one]; try rfl) hx (Nat.le_of_ble_eq_true rfl) rfl ?_
   intro w102 hx E103
   have z_w102 := E103.size
   have ks := all9 ks fun _ h => h.keepX hx_old E103 (by decide)
   have kas := all9 kas fun _ h => h.keepX hx_old E103 (by decide)
   have kbs := all9 kbs fun _ h => h.keepX hx_old E103 (by decide)
   have hr := hr.keepG (Gr.of E103) (Dj.one djpG) (NoK.ofBx hx_old (by decide))
   have hO32 := hO32.keepX hx_old E103 (by decide)
   have hxa := hxa.keep E103 (by simp only [ne_eq, Option.some.injEq]; omega)
   have hO46 := hO46.keepX hx_old E103 (by decide)
   have hO53 := hO53.keepX hx_old E103 (by decide)
   have hb := hb.stepB E103 hNd.wp
   refine kk_end0 rfl (fun h => absurd h (by simp)) ?_
   intro w104 E104 a104 hN104 hd104 hbs104 hph104
   have hd104 := hd104.trans ((by simp only [putsL_defers] : _ = _).trans hd42)
   have z_w104 := E104.size
   have ks := all9 ks fun _ h => h.keep0 E104
   have kas := all9 kas fun _ h => h.keep0 E104
   have kbs := all9 kbs fun _ h => h.keep0 E104
   have hr := hr.kz E104
   have hO32 := hO32.keep0 E104
   have hxa := hxa.keep0 E104
   have hO46 := hO46.keep0 E104
   have hO53 := hO53.keep0 E104
   have hx := hx.keep0 E104
   have hb := hb.step0 E104
   have s104_79 : Sl a104 79 (ptr p 0) := (hph104 1 _ 79 rfl rfl).2 rfl
   have s104_96 : Sl a104 96 v53 := (Option.some.inj ((hph104 18 _ 96 rfl rfl).1 1 rfl)).symm
   refine split_end ?_
   refine from_seq (tl := [_, _, _]) (by decide) (by kernel_rfl) rfl ?_
   refine op_nil (ev_base hN104 rfl s104_79) (op_field fld115_2 (ev_hit hN104 rfl) ?_)
   have hx_old := hx
   refine op_store (vs := [v53]) (cs' := [(Value.slice none 0 0), v46, v53]) size113 (ev_hit hN104 rfl) (ev_base hN104 rfl s104_96) hO53.cl rfl (by simp only [List.all_cons, List.all_nil, Bool.true_and, Bool.and_true, hO53.one]; try rfl) hx (Nat.le_of_ble_eq_true rfl) rfl ?_
   intro w105 hx E106
   have z_w105 := E106.size
   have ks := all9 ks fun _ h => h.keepX hx_old E106 (by decide)
   have kas := all9 kas fun _ h => h.keepX hx_old E106 (by decide)
   have kbs := all9 kbs fun _ h => h.keepX hx_old E106 (by decide)
   have hr := hr.keepG (Gr.of E106) (Dj.one djpG) (NoK.ofBx hx_old (by decide))
   have hO32 := hO32.keepX hx_old E106 (by decide)
   have hxa := hxa.keep E106 (by simp only [ne_eq, Option.some.injEq]; omega)
   have hO46 := hO46.keepX hx_old E106 (by decide)
   have hO53 := hO53.keepX hx_old E106 (by decide)
   have hb := hb.stepB E106 hNd.wp
   refine reg_nil (end_ret ?_)
   refine ret0 rfl hd104  ⟨_, rfl, ?_⟩
   have hTA := mkLeaf (κ := kI) (D := (Da ++ Db)) hxa (hO32.cast (n' := (Da ++ Db).length) (cs' := (Da ++ Db).flatMap cI) (by simp) (by simp)) (kr_app kas kbs) (kr_app hA.kr hB.kr) rfl
   have hT9 := mkNode (κ := kI) (K := (K.eraseIdx i)) hx hO46 hO53 (kks_sub ks (fun _ h => List.mem_of_mem_eraseIdx h)) (kks_sub hNd.kr (fun _ h => List.mem_of_mem_eraseIdx h)) (Kids.join2 hr hPc (by omega) hTA (fun j h1 h2 => (h1).elim (fun y0 => djpaG (y0 ▸ h2)) (fun z0 => dj35.symm _ z0 h2))) (fun h1 => (h1).elim (fun y0 => (y0).elim (fun y1 => hpa y1) (fun z1 => bx_own_ne hx hO32 (by decide) z1)) (fun z0 => djpG z0)) (fun j h1 h2 => (h2).elim (fun y20 => (y20).elim (fun y21 => bx_own_ne hxa hO46 (by decide) (y21 ▸ h1)) (fun z21 => own_own_dj hO46 hO32 (by decide) _ h1 z21)) (fun z20 => dj50.symm _ h1 z20)) (fun j h1 h2 => (h2).elim (fun y20 => (y20).elim (fun y21 => bx_own_ne hxa hO53 (by decide) (y21 ▸ h1)) (fun z21 => own_own_dj hO53 hO32 (by decide) _ h1 z21)) (fun z20 => dj99.symm _ h1 z20))
   rw [mends_join (ks := K.map Prod.snd) (cs := cs) (i := j) (by rw [← hij]; exact hl), ← hij, join_L ha hb9]
   exact ⟨hb, rfl, _, hT9, (newF_in (fun j hj h1 => (h1).elim (fun y0 => (y0 ▸ hNd.wp)) (fun z0 => (z0).elim (fun y1 => hin51 j hj y1) (fun z1 => (z1).elim (fun y2 => hin100 j hj y2) (fun z2 => (z2).elim (fun y3 => (y3).elim (fun y4 => (y4 ▸ (hNd.wg _ (hfs _ hA.wp)))) (fun z4 => (inF_step (n := w.heap.size) hm33 (by omega) (fun k _ h => hNd.wg k (hfs k (hA.wv k h)))) j hj z4)) (fun z3 => (fun j q => hNd.wg j (hGs j q)) j z3))))))⟩
set_option maxHeartbeats 1000000 in
theorem mendJN {i j p : Nat} {R W G f g G0 : Nat → Prop} {kv cv : Value} {K : List DK} {P : List Nat} {w : World} (hNd : NodeR kI R w p kv cv K P G W) (hfg : Dj f g) (hfG : Dj f G0) (hgG : Dj g G0) (hfs : ∀ k, f k → G k) (hgs : ∀ k, g k → G k) (hGs : ∀ k, G0 k → G k) (hPl : P.length = K.length + 1) (hi : i < K.length) (hn : K.length ≤ 7) {h : Nat} {cs : List (Tr Int (h + 1))} {ta tb : List (Tr Int h)} {ka ca kb cb : Value} {Ka Kb : List DK} {Pa Pb : List Nat} {Ga Gb : Nat → Prop} (hA : NodeR kI R w (P.getD i default) ka ca Ka Pa Ga f) (hKa : KidsR kI R w h Pa ta Ga) (hB : NodeR kI R w (P.getD (i + 1) default) kb cb Kb Pb Gb g) (hKb : KidsR kI R w h Pb tb Gb) (hr : KidsR kI R w (h + 1) ((P.eraseIdx i).eraseIdx i) ((cs.eraseIdx i).eraseIdx i) G0) (hPc : P.length = cs.length) (ha : cs[i]? = some ((Ka.map Prod.snd, ta) : Tr Int (h + 1))) (hb9 : cs[i + 1]? = some ((Kb.map Prod.snd, tb) : Tr Int (h + 1))) (hla : ta.length = Ka.length + 1) (hlb : tb.length = Kb.length + 1) (hna : Ka.length ≤ 7) (hnb : Kb.length ≤ 7) (hKs0 : KidsR kI R w (h + 1) P cs G) (hlen : cs.length = K.length + 1) (hsh : ∀ c ∈ cs, Ok (h + 1) c ∧ szT (h + 1) c ≤ 7) (hij : i = j - 1) (hl : ¬ 3 < lender (h + 1) cs i (decide (j = 0))) : Ret Try.prog 88 #[(ptr p 0), (Value.int .i64 ((j : Nat) : Int))] w (fun v' w' => Gr w w' W ∧ v' = .tuple #[] ∧ ∃ W', TreeR kI R w' ((h + 1) + 1) p (mendsT (h + 1) ((K.map Prod.snd, cs) : Tr Int (h + 1 + 1)) j) W' ∧ NewF w.heap.size W W') := by
 have h0 : 0 ≤ w.heap.size := Nat.zero_le _
 have hx : Bx w p 115 [.slice none 0 0, kv, cv] := hNd.bx
 have ok := hNd.ok
 have oc : Own w 0 69 1 cv P.length (P.flatMap cN) := hNd.oc
 have ks := hNd.ks
 have hi_p := hx.lt
 have djkG : Dj (Bl kv) G0 := hNd.nk.mono hGs
 have djcG : Dj (Bl cv) G0 := hNd.nc.mono hGs
 have djpG : ¬ G0 p := fun q => hNd.np (hGs p q)
 have hxa : Bx w (P.getD i default) 115 [.slice none 0 0, ka, ca] := hA.bx
 have oka := hA.ok
 have oca : Own w 0 69 1 ca Pa.length (Pa.flatMap cN) := hA.oc
 have kas := hA.ks
 have hxb : Bx w (P.getD (i + 1) default) 115 [.slice none 0 0, kb, cb] := hB.bx
 have okb := hB.ok
 have ocb : Own w 0 69 1 cb Pb.length (Pb.flatMap cN) := hB.oc
 have kbs := hB.ks
 have hi_a := hxa.lt
 have hi_b := hxb.lt
 have hPa : Pa.length = ta.length := hKa.len
 have hPb : Pb.length = tb.length := hKb.len
 have hab : (P.getD i default) ≠ (P.getD (i + 1) default) := fun e => hfg _ hA.wp (e ▸ hB.wp)
 have hpa : p ≠ (P.getD i default) := fun e => hNd.np (e ▸ hfs _ hA.wp)
 have hpb : p ≠ (P.getD (i + 1) default) := fun e => hNd.np (e ▸ hgs _ hB.wp)
 have dk3 : DJ kv ka := fun k h1 h2 => hNd.nk k h1 (hfs k (hA.wk k h2))
 have dk5 : DJ cv ca := fun k h1 h2 => hNd.nc k h1 (hfs k (hA.wc k h2))
 have dk7 : DJ ka kb := fun k h1 h2 => hfg k (hA.wk k h1) (hB.wk k h2)
 have dk9 : Dj (Bl ka) G0 := fun k h1 h2 => hfG k (hA.wk k h1) h2
 have dk10 : Dj (Bl ca) G0 := fun k h1 h2 => hfG k (hA.wc k h1) h2
 have dk13 : ¬ G0 (P.getD i default) := hfG _ hA.wp
 have dk14 : ¬ G0 (P.getD (i + 1) default) := hgG _ hB.wp
 have dk15 : Dj (Bl kv) Ga := hNd.nk.mono fun k q => hfs k (hA.wg k ((fun _ q => q) k q))
 have dk16 : Dj (Bl cv) Ga := hNd.nc.mono fun k q => hfs k (hA.wg k ((fun _ q => q) k q))
 have dk17 : ¬ Ga p := fun q => hNd.np (hfs _ (hA.wg _ ((fun _ q => q) _ q)))
 have dk18 : Dj (Bl ka) Ga := hA.nk.mono (fun _ q => q)
 have dk19 : Dj (Bl ca) Ga := hA.nc.mono (fun _ q => q)
 have dk22 : ¬ Ga (P.getD i default) := fun q => hA.np ((fun _ q => q) _ q)
 have dk23 : ¬ Ga (P.getD (i + 1) default) := fun q => hfg _ (hA.wg _ ((fun _ q => q) _ q)) hB.wp
 have dk24 : Dj Ga G0 := fun k h1 h2 => hfG k (hA.wg k ((fun _ q => q) k h1)) h2
 have dk25 : Dj (Bl kv) Gb := hNd.nk.mono fun k q => hgs k (hB.wg k ((fun _ q => q) k q))
 have dk26 : Dj (Bl cv) Gb := hNd.nc.mono fun k q => hgs k (hB.wg k ((fun _ q => q) k q))
 have dk27 : ¬ Gb p := fun q => hNd.np (hgs _ (hB.wg _ ((fun _ q => q) _ q)))
 have dk28 : Dj (Bl ka) Gb := fun k h1 h2 => hfg k (hA.wk k h1) (hB.wg k ((fun _ q => q) k h2))
 have dk29 : Dj (Bl ca) Gb := fun k h1 h2 => hfg k (hA.wc k h1) (hB.wg k ((fun _ q => q) k h2))
 have dk32 : ¬ Gb (P.getD i default) := fun q => hfg _ hA.wp (hB.wg _ ((fun _ q => q) _ q))
 have dk33 : ¬ Gb (P.getD (i + 1) default) := fun q => hB.np ((fun _ q => q) _ q)
 have dk34 : Dj Gb G0 := fun k h1 h2 => hgG k (hB.wg k ((fun _ q => q) k h1)) h2
 have dk35 : Dj Ga Gb := fun k h1 h2 => hfg k (hA.wg k ((fun _ q => q) k h1)) (hB.wg k ((fun _ q => q) k h2))
 have hNd0 := hNd
 have hb := Gr.refl w W
 refine enter (N := 101) Try.func88 rfl rfl (by simp) fun a0 hN hd hA => ?_
 have s0 : a0.tmps.getD 0 undef = (ptr p 0) := hA 0 (by simp)
 have s1 : a0.tmps.getD 1 undef = (Value.int .i64 ((j : Nat) : Int)) := hA 1 (by simp)
 clear hA
 refine seq_any fun K11 hK11 => one_reg (op_move (ev_base hN rfl s1) (op_sub (r := ((j : Int) - 1)) (ev_hit hN rfl) rfl ((sub64 (by omega)).trans (by omega)) ?_))
 refine op_max (r := ((i : Nat) : Int)) (ev_hit hN rfl) rfl (by split <;> omega) ?_
 refine op_assign (ev_hit hN rfl) (reg_nil (hK11 _ _ ?_))
 refine seq_any fun K12 hK12 => seq_any fun K30 hK30 => one_reg (op_move (ev_base hN rfl s0) (op_move (ev_hit hN rfl) (op_move (ev_base hN rfl s1) (op_cmp (b := (decide (((j : Nat) : Int) = 0))) (ev_hit hN rfl) rfl (b_eql rfl) ?_))))
 refine op_fn (vs := [(ptr p 0), (Value.int .i64 ((i : Nat) : Int)), (Value.bool (decide (((j : Nat) : Int) = 0)))]) ok120 ⟨(ev_hit hN rfl), ⟨(ev_hit hN rfl), ⟨(ev_hit hN rfl), trivial⟩⟩⟩ (lendsF (left := (decide (((j : Nat) : Int) = 0))) hNd0 hKs0 hlen hsh hi hn (by have q := hl; rw [show decide (j = 0) = (decide (((j : Nat) : Int) = 0)) from decide_eq_decide.2 (by omega)] at q; exact q)) ?_
 rintro _ w31 ⟨E52, rfl⟩
 have E52 := grown_of_below E52
 have z_w31 := E52.size
 have hx := hx.keep0 E52
 have ok := ok.keep0 E52
 have oc := oc.keep0 E52
 have ks := all9 ks fun _ h => h.keep0 E52
 have hxa := hxa.keep0 E52
 have hxb := hxb.keep0 E52
 have oka := oka.keep0 E52
 have okb := okb.keep0 E52
 have oca := oca.keep0 E52
 have ocb := ocb.keep0 E52
 have kas := all9 kas fun _ h => h.keep0 E52
 have kbs := all9 kbs fun _ h => h.keep0 E52
 have hr := hr.kz E52
 have hKa := hKa.kz E52
 have hKb := hKb.kz E52
 have hb := hb.step0 E52
 refine reg_nil (hK30 _ _ (wp_cond_false (ev_hit hN rfl) (wp_skip (hK12 _ _ (seq_any fun K53 hK53 => reg_still mixed (by kernel_rfl) ?_)))))
 intro w77 E76
 have z_w77 := E76.size
 have hx := hx.keep0 E76
 have ok := ok.keep0 E76
 have oc := oc.keep0 E76
 have ks := all9 ks fun _ h => h.keep0 E76
 have hxa := hxa.keep0 E76
 have hxb := hxb.keep0 E76
 have oka := oka.keep0 E76
 have okb := okb.keep0 E76
 have oca := oca.keep0 E76
 have ocb := ocb.keep0 E76
 have kas := all9 kas fun _ h => h.keep0 E76
 have kbs := all9 kbs fun _ h => h.keep0 E76
 have hr := hr.kz E76
 have hKa := hKa.kz E76
 have hKb := hKb.kz E76
 have hb := hb.step0 E76
 refine st_step rfl (fun _ h9 => op_move (ev_base hN rfl s0) h9) ?_
 refine st_step rfl (fun _ h9 => op_nil (ev_hit hN rfl) h9) ?_
 refine st_step rfl (fun _ h9 => op_field fld115_2 (ev_hit hN rfl) h9) ?_
 refine st_step rfl (fun _ h9 => op_load1 (v := cv) one113 (ev_hit hN rfl) (hx.cell rfl) h9) ?_
 refine st_step rfl (fun _ h9 => op_move (ev_hit hN rfl) h9) ?_
 refine st_index_rd slt113 (ev_hit hN rfl) oc.rdw (ev_hit hN rfl) (by omega) (by omega) ?_
 intro b99 o100 h0b99 h1b99 hc101
 refine st_step rfl (fun _ h9 => op_load1 (v := (ptr (P.getD i default) 0)) one69 (ev_hit hN rfl) (by have := hc101 0 (ptr (P.getD i default) 0) (by decide) (el_pn (i := i) (by omega) (by first | omega | (simp only [List.length_drop, List.length_take]; omega))); simpa using this) h9) ?_
 refine st_step rfl (fun _ h9 => op_move (ev_base hN rfl s0) h9) ?_
 refine st_step rfl (fun _ h9 => op_nil (ev_hit hN rfl) h9) ?_
 refine st_step rfl (fun _ h9 => op_field fld115_2 (ev_hit hN rfl) h9) ?_
 refine st_step rfl (fun _ h9 => op_load1 (v := cv) one113 (ev_hit hN rfl) (hx.cell rfl) h9) ?_
 refine st_step rfl (fun _ h9 => op_move (ev_hit hN rfl) h9) ?_
 refine st_step rfl (fun _ h9 => op_add (ev_hit hN rfl) rfl (add64 (by omega)) h9) ?_
 refine st_index_rd slt113 (ev_hit hN rfl) oc.rdw (ev_hit hN rfl) (by omega) (by omega) ?_
 intro b102 o103 h0b102 h1b102 hc104
 refine st_step rfl (fun _ h9 => op_load1 (v := (ptr (P.getD (i + 1) default) 0)) one69 (ev_hit hN rfl) (by have := hc104 0 (ptr (P.getD (i + 1) default) 0) (by decide) (el_pn (i := (i + 1)) (by omega) (by first | omega | (simp only [List.length_drop, List.length_take]; omega))); simpa using this) h9) ?_
 refine st_step rfl (fun _ h9 => op_assign (ev_hit hN rfl) h9) ?_
 refine st_step rfl (fun _ h9 => op_assign (ev_hit hN rfl) h9) ?_
 refine st_nil ?_
 refine hK53 _ _ (seq_any fun K105 hK105 => seq_any fun K106 hK106 => one_reg (op_move (ev_hit hN rfl) (op_fn (vs := [(ptr (P.getD i default) 0)]) ok81 ⟨(ev_hit hN rfl), trivial⟩ (Ret.flip (leafNI hxa oka oca (by omega) (by omega))) ?_)))
 rintro _ _ ⟨rfl, rfl⟩
 refine op_not (ev_hit hN rfl) ?_
 refine reg_nil (hK106 _ _ (wp_cond_true (ev_hit hN rfl) ?_))
 obtain ⟨b107, o108, _, hAt109⟩ := ok.atV (i := i) (by omega)
 refine reg_split (hd := [_, _, _, _, _, _, _, _, _, _, _, _, _, _, _, _, _, _, _]) (tl := _) 19 mixed (by kernel_rfl) rfl rfl ?_
 refine any_env (φ := phiV [(fun uz => uz = (ptr (P.getD i default) 0)), (fun uz => uz = (ptr (P.getD i default) 0)), (fun uz => uz = (ptr (P.getD i default) 0)), (fun uz => uz = (ptr (P.getD i default) 1)), (fun uz => uz = ka), (fun uz => uz = (ptr p 0)), (fun uz => uz = (ptr p 0)), (fun uz => uz = (ptr p 1)), (fun uz => uz = kv), (fun uz => uz = (Value.int .i64 ((i : Nat) : Int))), (fun uz => uz = (ptr b107 o108)), (fun uz => uz = (K.getD i default).1), (fun _ => True), (fun _ => True), (fun uz => uz = (ptr (P.getD (i + 1) default) 0)), (fun uz => uz = (ptr (P.getD (i + 1) default) 0)), (fun uz => uz = (ptr (P.getD (i + 1) default) 1)), (fun uz => uz = kb), (fun _ => True)]) (G := fun w' => Own w' 0 27 1 kv K.length (K.flatMap cK) ∧ Bx w' (P.getD i default) 115 [(Value.slice none 0 0), ka, ca] ∧ Bx w' p 115 [(Value.slice none 0 0), kv, cv] ∧ Bx w' (P.getD (i + 1) default) 115 [(Value.slice none 0 0), kb, cb]) [12, 13, 18] (by kernel_rfl) (by kernel_rfl) (by kernel_rfl) (by kernel_rfl) hN (fun w1 w2 E h => by obtain ⟨h0, h1, h2, h3⟩ := h; exact ⟨h0.keep0 E, h1.keep0 E, h2.keep0 E, h3.keep0 E⟩) ⟨ok, hxa, hx, hxb⟩ (ObEs.cons ?_ (ObEs.cons ?_ (ObEs.cons ?_ (ObEs.cons ?_ (ObEs.cons ?_ (ObEs.cons ?_ (ObEs.cons ?_ (ObEs.cons ?_ (ObEs.cons ?_ (ObEs.cons ?_ (ObEs.cons ?_ (ObEs.cons ?_ (ObEs.pass rfl (ObEs.pass rfl (ObEs.cons ?_ (ObEs.cons ?_ (ObEs.cons ?_ (ObEs.cons ?_ (ObEs.pass rfl (ObEs.nil)))))))))))))))))))) (by simp only [putsL_defers]) ?_
 ·
  intro eA aA wA hNA hGA hbsA hdpA
  have qA_5 := (hbsA 5 rfl).trans (sl_hit hN rfl)
  refine op_move (ev_base hNA rfl qA_5) ?_
  exact obE_end rfl rfl rfl
 ·
  intro eA aA wA hNA hGA hbsA hdpA
  have qA_5 := (hbsA 5 rfl).trans (sl_hit hN rfl)
  refine op_move (ev_base hNA rfl qA_5) ?_
  exact obE_end rfl rfl rfl
 ·
  intro eA aA wA hNA hGA hbsA hdpA
  have qA_34 : Sl aA 34 (ptr (P.getD i default) 0) := (hdpA 1 _ 34 (by kernel_rfl) rfl rfl).2 rfl
  refine op_nil (ev_base hNA rfl qA_34) ?_
  exact obE_end rfl rfl rfl
 ·
  intro eA aA wA hNA hGA hbsA hdpA
  have qA_35 : Sl aA 35 (ptr (P.getD i default) 0) := (hdpA 2 _ 35 (by kernel_rfl) rfl rfl).2 rfl
  refine op_field fld115_1 (ev_base hNA rfl qA_35) ?_
  exact obE_end rfl rfl rfl
 ·
  intro eA aA wA hNA hGA hbsA hdpA
  have qA_36 : Sl aA 36 (ptr (P.getD i default) 1) := (hdpA 3 _ 36 (by kernel_rfl) rfl rfl).2 rfl
  obtain ⟨ok, hxa, hx, hxb⟩ := hGA
  refine op_load1 (v := ka) one90 (ev_base hNA rfl qA_36) (hxa.cell rfl) ?_
  exact obE_end rfl rfl rfl
 ·
  intro eA aA wA hNA hGA hbsA hdpA
  have qA_0 := (hbsA 0 rfl).trans (sl_base hN rfl s0)
  refine op_move (ev_base hNA rfl qA_0) ?_
  exact obE_end rfl rfl rfl
 ·
  intro eA aA wA hNA hGA hbsA hdpA
  have qA_38 : Sl aA 38 (ptr p 0) := (hdpA 5 _ 38 (by kernel_rfl) rfl rfl).2 rfl
  refine op_nil (ev_base hNA rfl qA_38) ?_
  exact obE_end rfl rfl rfl
 ·
  intro eA aA wA hNA hGA hbsA hdpA
  have qA_39 : Sl aA 39 (ptr p 0) := (hdpA 6 _ 39 (by kernel_rfl) rfl rfl).2 rfl
  refine op_field fld115_1 (ev_base hNA rfl qA_39) ?_
  exact obE_end rfl rfl rfl
 ·
  intro eA aA wA hNA hGA hbsA hdpA
  have qA_40 : Sl aA 40 (ptr p 1) := (hdpA 7 _ 40 (by kernel_rfl) rfl rfl).2 rfl
  obtain ⟨ok, hxa, hx, hxb⟩ := hGA
  refine op_load1 (v := kv) one90 (ev_base hNA rfl qA_40) (hx.cell rfl) ?_
  exact obE_end rfl rfl rfl
 ·
  intro eA aA wA hNA hGA hbsA hdpA
  have qA_4 := (hbsA 4 rfl).trans (sl_hit hN rfl)
  refine op_move (ev_base hNA rfl qA_4) ?_
  exact obE_end rfl rfl rfl
 ·
  intro eA aA wA hNA hGA hbsA hdpA
  have qA_41 : Sl aA 41 kv := (hdpA 8 _ 41 (by kernel_rfl) rfl rfl).2 rfl
  have qA_42 : Sl aA 42 (Value.int .i64 ((i : Nat) : Int)) := (hdpA 9 _ 42 (by kernel_rfl) rfl rfl).2 rfl
  refine op_index_at (i := i) slt90 (ev_base hNA rfl qA_41) ok (ev_base hNA rfl qA_42) (by omega) (by omega) hAt109 ?_
  exact obE_end rfl rfl rfl
 ·
  intro eA aA wA hNA hGA hbsA hdpA
  have qA_43 : Sl aA 43 (ptr b107 o108) := (hdpA 10 _ 43 (by kernel_rfl) rfl rfl).2 rfl
  obtain ⟨ok, hxa, hx, hxb⟩ := hGA
  refine op_load1 (v := (K.getD i default).1) one27 (ev_base hNA rfl qA_43) (ok.cellAt hAt109 0 _ (el_kd (e := ((i : Nat) : Int)) (i := i) rfl (by omega))) ?_
  exact obE_end rfl rfl rfl
 ·
  intro eA aA wA hNA hGA hbsA hdpA
  have qA_6 := (hbsA 6 rfl).trans (sl_hit hN rfl)
  refine op_move (ev_base hNA rfl qA_6) ?_
  exact obE_end rfl rfl rfl
 ·
  intro eA aA wA hNA hGA hbsA hdpA
  have qA_47 : Sl aA 47 (ptr (P.getD (i + 1) default) 0) := (hdpA 14 _ 47 (by kernel_rfl) rfl rfl).2 rfl
  refine op_nil (ev_base hNA rfl qA_47) ?_
  exact obE_end rfl rfl rfl
 ·
  intro eA aA wA hNA hGA hbsA hdpA
  have qA_48 : Sl aA 48 (ptr (P.getD (i + 1) default) 0) := (hdpA 15 _ 48 (by kernel_rfl) rfl rfl).2 rfl
  refine op_field fld115_1 (ev_base hNA rfl qA_48) ?_
  exact obE_end rfl rfl rfl
 ·
  intro eA aA wA hNA hGA hbsA hdpA
  have qA_49 : Sl aA 49 (ptr (P.getD (i + 1) default) 1) := (hdpA 16 _ 49 (by kernel_rfl) rfl rfl).2 rfl
  obtain ⟨ok, hxa, hx, hxb⟩ := hGA
  refine op_load1 (v := kb) one90 (ev_base hNA rfl qA_49) (hxb.cell rfl) ?_
  exact obE_end rfl rfl rfl
 ·
  intro w110 E110 _ a110 hN110 hbs110 hdp110 o_ ho_; obtain rfl := Option.some.inj ho_
  have z_w110 := E110.size
  have hx := hx.keep0 E110
  have ok := ok.keep0 E110
  have oc := oc.keep0 E110
  have ks := all9 ks fun _ h => h.keep0 E110
  have hxa := hxa.keep0 E110
  have hxb := hxb.keep0 E110
  have oka := oka.keep0 E110
  have okb := okb.keep0 E110
  have oca := oca.keep0 E110
  have ocb := ocb.keep0 E110
  have kas := all9 kas fun _ h => h.keep0 E110
  have kbs := all9 kbs fun _ h => h.keep0 E110
  have hr := hr.kz E110
  have hKa := hKa.kz E110
  have hKb := hKb.kz E110
  have hb := hb.step0 E110
  have q110_44 : Sl a110 44 (K.getD i default).1 := (hdp110 11 _ 44 (by kernel_rfl) rfl rfl).2 rfl
  refine op_bslice (e := 27) (pv := [(0, (K.getD i default).1)]) (cs := [(K.getD i default).1]) ⟨rfl, (ev_base hN110 rfl q110_44), trivial⟩ (by obtain ⟨_, _, _, hq9⟩ := (show Own _ _ _ _ (K.getD i default).1 (K.getD i default).2.length ((K.getD i default).2.map u8v) from ks (K.getD i default) (getD_mem (by first | omega | (simp only [List.length_drop, List.length_take]; omega)))).sl; rw [hq9]; kernel_rfl) ?_
  intro w111 b112 lo_b112 hi_b112 hB116 E114
  have z_w111 := E114.size
  have hx := hx.keep0 E114
  have ok := ok.keep0 E114
  have oc := oc.keep0 E114
  have ks := all9 ks fun _ h => h.keep0 E114
  have hxa := hxa.keep0 E114
  have hxb := hxb.keep0 E114
  have oka := oka.keep0 E114
  have okb := okb.keep0 E114
  have oca := oca.keep0 E114
  have ocb := ocb.keep0 E114
  have kas := all9 kas fun _ h => h.keep0 E114
  have kbs := all9 kbs fun _ h => h.keep0 E114
  have hr := hr.kz E114
  have hKa := hKa.kz E114
  have hKb := hKb.kz E114
  have hb := hb.step0 E114
  refine ke_end rfl (by decide) rfl ⟨ok, hxa, hx, hxb⟩ ?_
  intro w117 E117 _ a117 hN117 hbs117 hdp117 o_ ho_; obtain rfl := Option.some.inj ho_
  have z_w117 := E117.size
  have hx := hx.keep0 E117
  have ok := ok.keep0 E117
  have oc := oc.keep0 E117
  have ks := all9 ks fun _ h => h.keep0 E117
  have hxa := hxa.keep0 E117
  have hxb := hxb.keep0 E117
  have oka := oka.keep0 E117
  have okb := okb.keep0 E117
  have oca := oca.keep0 E117
  have ocb := ocb.keep0 E117
  have kas := all9 kas fun _ h => h.keep0 E117
  have kbs := all9 kbs fun _ h => h.keep0 E117
  have hr := hr.kz E117
  have hKa := hKa.kz E117
  have hKb := hKb.kz E117
  have hB116 := hB116.keep0 E117
  have hb := hb.step0 E117
  have q117_37 : Sl a117 37 ka := (hdp117 4 _ 37 (by kernel_rfl) rfl rfl).2 rfl
  have q117_45 : Sl a117 45 (Value.slice (some ⟨b112, 0, none⟩) 1 1) := (Option.some.inj ((hdp117 12 _ 45 (by kernel_rfl) rfl rfl).1 0 rfl)).symm
  have hP126 := oka
  refine op_append slt90 (ev_base hN117 rfl q117_37) hP126 (ev_base hN117 rfl q117_45) (Src.ofRd Try.underlying90 (by decide) (RdC.ofBx (sz := 1) (n := 1) hB116 rfl (by decide)) (by simp only [List.all_cons, List.all_nil, Bool.true_and, Bool.and_true, (own_one (show Own _ _ _ _ (K.getD i default).1 (K.getD i default).2.length ((K.getD i default).2.map u8v) from ks (K.getD i default) (getD_mem (by first | omega | (simp only [List.length_drop, List.length_take]; omega)))))]; try rfl)) (by unfold maxLen; omega) (by omega) (Nat.le_trans (by assumption) hb.size) ?_
  intro v118 w119 hO124 E123 hm125
  have dj127 : DJ kv v118 := DJ.step hm125 (fun k hk => (ok.lt k hk).2) dk3
  have dj128 : Dj G0 (Bl v118) := Dj.step hm125 (fun k hk => (hr.lt k hk).2) dk9.symm
  have dj129 : Dj Ga (Bl v118) := Dj.step hm125 (fun k hk => (hKa.lt k hk).2) dk18.symm
  have dj130 : Dj Gb (Bl v118) := Dj.step hm125 (fun k hk => (hKb.lt k hk).2) dk28.symm
  have z_w119 := E123.size
  have hx := hx.keepO hP126 E123 (by decide)
  have ok := ok.keepD E123 dk3
  have oc := oc.keepT hP126 E123 (by decide)
  have ks := all9 ks fun _ h => h.keepT hP126 E123 (by decide)
  have hxa := hxa.keepO hP126 E123 (by decide)
  have hxb := hxb.keepO hP126 E123 (by decide)
  have okb := okb.keepD E123 dk7.symm
  have oca := oca.keepT hP126 E123 (by decide)
  have ocb := ocb.keepT hP126 E123 (by decide)
  have kas := all9 kas fun _ h => h.keepT hP126 E123 (by decide)
  have kbs := all9 kbs fun _ h => h.keepT hP126 E123 (by decide)
  have hr := hr.keepG (Gr.of E123) dk9.symm (NoK.ofOwn hP126 (by decide))
  have hKa := hKa.keepG (Gr.of E123) dk18.symm (NoK.ofOwn hP126 (by decide))
  have hKb := hKb.keepG (Gr.of E123) dk28.symm (NoK.ofOwn hP126 (by decide))
  have hb := hb.stepL E123 (fun k _ h => hNd.wg k (hfs k (hA.wk k h)))
  have hO124 : Own w119 0 27 1 v118 (Ka.length + 1) ((Ka.flatMap cK ++ [(K.getD i default).1])) := by simpa [u8v, sv] using hO124
  refine ke_end rfl (by decide) rfl ⟨ok, hxa, hx, hxb⟩ ?_
  intro w131 E131 _ a131 hN131 hbs131 hdp131 o_ ho_; obtain rfl := Option.some.inj ho_
  have z_w131 := E131.size
  have hx := hx.keep0 E131
  have ok := ok.keep0 E131
  have oc := oc.keep0 E131
  have ks := all9 ks fun _ h => h.keep0 E131
  have hxa := hxa.keep0 E131
  have hxb := hxb.keep0 E131
  have okb := okb.keep0 E131
  have oca := oca.keep0 E131
  have ocb := ocb.keep0 E131
  have kas := all9 kas fun _ h => h.keep0 E131
  have kbs := all9 kbs fun _ h => h.keep0 E131
  have hr := hr.kz E131
  have hKa := hKa.kz E131
  have hKb := hKb.kz E131
  have hO124 := hO124.keep0 E131
  have hb := hb.step0 E131
  have q131_46 : Sl a131 46 v118 := (Option.some.inj ((hdp131 13 _ 46 (by kernel_rfl) rfl rfl).1 1 rfl)).symm
  have q131_50 : Sl a131 50 kb := (hdp131 17 _ 50 (by kernel_rfl) rfl rfl).2 rfl
  have hP137 := hO124
  refine op_append slt90 (ev_base hN131 rfl q131_46) hP137 (ev_base hN131 rfl q131_50) (Src.ofRd Try.underlying90 (by decide) okb.rdw (one_kd kbs (fun _ h => h))) (by unfold maxLen; omega) (by omega) (Nat.le_trans (by assumption) hb.size) ?_
  intro v132 w133 hO135 E134 hm136
  have dj138 : DJ kv v132 := DJ.step hm136 (fun k hk => (ok.lt k hk).2) dj127
  have dj139 : Dj G0 (Bl v132) := Dj.step hm136 (fun k hk => (hr.lt k hk).2) dj128
  have dj140 : Dj Ga (Bl v132) := Dj.step hm136 (fun k hk => (hKa.lt k hk).2) dj129
  have dj141 : Dj Gb (Bl v132) := Dj.step hm136 (fun k hk => (hKb.lt k hk).2) dj130
  have z_w133 := E134.size
  have hx := hx.keepO hP137 E134 (by decide)
  have ok := ok.keepD E134 dj127
  have oc := oc.keepT hP137 E134 (by decide)
  have ks := all9 ks fun _ h => h.keepT hP137 E134 (by decide)
  have hxa := hxa.keepO hP137 E134 (by decide)
  have hxb := hxb.keepO hP137 E134 (by decide)
  have oca := oca.keepT hP137 E134 (by decide)
  have ocb := ocb.keepT hP137 E134 (by decide)
  have kas := all9 kas fun _ h => h.keepT hP137 E134 (by decide)
  have kbs := all9 kbs fun _ h => h.keepT hP137 E134 (by decide)
  have hr := hr.keepG (Gr.of E134) dj128 (NoK.ofOwn hP137 (by decide))
  have hKa := hKa.keepG (Gr.of E134) dj129 (NoK.ofOwn hP137 (by decide))
  have hKb := hKb.keepG (Gr.of E134) dj130 (NoK.ofOwn hP137 (by decide))
  have hb := hb.stepL E134 (inF_step (n := w.heap.size) hm125 (by omega) (fun k _ h => hNd.wg k (hfs k (hA.wk k h))))
  have hO135 : Own w133 0 27 1 v132 ((Ka.length + 1) + Kb.length) (((Ka.flatMap cK ++ [(K.getD i default).1]) ++ Kb.flatMap cK)) := by simpa [u8v, sv] using hO135
  refine ke_end rfl (by decide) rfl ⟨ok, hxa, hx, hxb⟩ ?_
  intro w142 E142 a142 hN142 hd142 hbs142 hph142
  have hd142 := hd142.trans ((by simp only [putsL_defers] : _ = _).trans hd)
  have z_w142 := E142.size
  have hx := hx.keep0 E142
  have ok := ok.keep0 E142
  have oc := oc.keep0 E142
  have ks := all9 ks fun _ h => h.keep0 E142
  have hxa := hxa.keep0 E142
  have hxb := hxb.keep0 E142
  have oca := oca.keep0 E142
  have ocb := ocb.keep0 E142
  have kas := all9 kas fun _ h => h.keep0 E142
  have kbs := all9 kbs fun _ h => h.keep0 E142
  have hr := hr.kz E142
  have hKa := hKa.kz E142
  have hKb := hKb.kz E142
  have hO135 := hO135.keep0 E142
  have hb := hb.step0 E142
  have s142_0 := (hbs142 0 rfl).trans (sl_base hN rfl s0)
  have s142_4 := (hbs142 4 rfl).trans (sl_hit hN rfl)
  have s142_5 := (hbs142 5 rfl).trans (sl_hit hN rfl)
  have s142_6 := (hbs142 6 rfl).trans (sl_hit hN rfl)
  have s142_33 : Sl a142 33 (ptr (P.getD i default) 0) := (hph142 0 _ 33 rfl rfl).2 rfl
  have s142_51 : Sl a142 51 v132 := (Option.some.inj ((hph142 18 _ 51 rfl rfl).1 2 rfl)).symm
  refine split_end ?_
  refine from_seq (tl := [_, _, _]) (by decide) (by kernel_rfl) rfl ?_
  refine op_nil (ev_base hN142 rfl s142_33) (op_field fld115_1 (ev_hit hN142 rfl) ?_)
  have hxa_old := hxa
  refine op_store (vs := [v132]) (cs' := [(Value.slice none 0 0), v132, ca]) size90 (ev_hit hN142 rfl) (ev_base hN142 rfl s142_51) hO135.cl rfl (by simp only [List.all_cons, List.all_nil, Bool.true_and, Bool.and_true, hO135.one]; try rfl) hxa (Nat.le_of_ble_eq_true rfl) rfl ?_
  intro w143 hxa E144
  have z_w143 := E144.size
  have hx := hx.keep E144 (by simp only [ne_eq, Option.some.injEq]; omega)
  have ok := ok.keepX hxa_old E144 (by decide)
  have oc := oc.keepX hxa_old E144 (by decide)
  have ks := all9 ks fun _ h => h.keepX hxa_old E144 (by decide)
  have hxb := hxb.keep E144 (by simp only [ne_eq, Option.some.injEq]; omega)
  have oca := oca.keepX hxa_old E144 (by decide)
  have ocb := ocb.keepX hxa_old E144 (by decide)
  have kas := all9 kas fun _ h => h.keepX hxa_old E144 (by decide)
  have kbs := all9 kbs fun _ h => h.keepX hxa_old E144 (by decide)
  have hr := hr.keepG (Gr.of E144) (Dj.one dk13) (NoK.ofBx hxa_old (by decide))
  have hKa := hKa.keepG (Gr.of E144) (Dj.one dk22) (NoK.ofBx hxa_old (by decide))
  have hKb := hKb.keepG (Gr.of E144) (Dj.one dk32) (NoK.ofBx hxa_old (by decide))
  have hO135 := hO135.keepX hxa_old E144 (by decide)
  have hb := hb.stepB E144 (hNd.wg _ (hfs _ hA.wp))
  refine reg_nil (hK105 _ _ (seq_any fun K145 hK145 => reg_split (hd := [_, _, _, _, _, _, _, _, _, _, _, _, _, _, _, _, _, _, _, _, _, _, _]) (tl := _) 23 mixed (by kernel_rfl) rfl rfl ?_))
  refine any_envk (φ := phiV [(fun uz => uz = (ptr (P.getD i default) 0)), (fun uz => uz = (ptr (P.getD i default) 0)), (fun uz => uz = (ptr (P.getD i default) 0)), (fun uz => uz = (ptr (P.getD i default) 0)), (fun uz => uz = (ptr (P.getD i default) 0)), (fun uz => uz = (Value.slice none 0 0)), (fun uz => uz = (ptr (P.getD (i + 1) default) 0)), (fun uz => uz = (ptr (P.getD (i + 1) default) 0)), (fun uz => uz = (ptr (P.getD (i + 1) default) 0)), (fun uz => uz = (Value.slice none 0 0)), (fun _ => True), (fun uz => uz = (ptr (P.getD i default) 0)), (fun uz => uz = (ptr (P.getD i default) 0)), (fun uz => uz = (ptr (P.getD i default) 2)), (fun uz => uz = ca), (fun uz => uz = (ptr (P.getD (i + 1) default) 0)), (fun uz => uz = (ptr (P.getD (i + 1) default) 0)), (fun uz => uz = (ptr (P.getD (i + 1) default) 2)), (fun uz => uz = cb), (fun _ => True), (fun uz => uz = (ptr (P.getD i default) 0)), (fun uz => uz = (ptr (P.getD i default) 0)), (fun _ => True)]) (G := fun c9 w' => c9 ≤ 2 → (Bx w' (P.getD i default) 115 [(Value.slice none 0 0), v132, ca] ∧ Bx w' (P.getD (i + 1) default) 115 [(Value.slice none 0 0), kb, cb])) [10, 19, 22] (by kernel_rfl) (by kernel_rfl) (by kernel_rfl) (by kernel_rfl) hN142 (fun _ w1 w2 E h hc9 => by have h := h hc9; obtain ⟨h0, h1⟩ := h; exact ⟨h0.keep0 E, h1.keep0 E⟩) (fun _ => ⟨hxa, hxb⟩) (ObKs.cons ?_ (ObKs.cons ?_ (ObKs.cons ?_ (ObKs.cons ?_ (ObKs.cons ?_ (ObKs.cons ?_ (ObKs.cons ?_ (ObKs.cons ?_ (ObKs.cons ?_ (ObKs.cons ?_ (ObKs.pass rfl (ObKs.cons ?_ (ObKs.cons ?_ (ObKs.cons ?_ (ObKs.cons ?_ (ObKs.cons ?_ (ObKs.cons ?_ (ObKs.cons ?_ (ObKs.cons ?_ (ObKs.pass rfl (ObKs.cons ?_ (ObKs.cons ?_ (ObKs.pass rfl (ObKs.nil)))))))))))))))))))))))) (by simp only [putsL_defers]) ?_
  ·
   intro eA aA wA hNA hckA hGA hbsA hdpA
   have qA_5 := (hbsA 5 rfl).trans (sl_base hN142 rfl s142_5)
   refine op_move (ev_base hNA rfl qA_5) ?_
   exact obK_end rfl rfl rfl
  ·
   intro eA aA wA hNA hckA hGA hbsA hdpA
   have qA_5 := (hbsA 5 rfl).trans (sl_base hN142 rfl s142_5)
   refine op_move (ev_base hNA rfl qA_5) ?_
   exact obK_end rfl rfl rfl
  ·
   intro eA aA wA hNA hckA hGA hbsA hdpA
   have qA_5 := (hbsA 5 rfl).trans (sl_base hN142 rfl s142_5)
   refine op_move (ev_base hNA rfl qA_5) ?_
   exact obK_end rfl rfl rfl
  ·
   intro eA aA wA hNA hckA hGA hbsA hdpA
   have qA_56 : Sl aA 56 (ptr (P.getD i default) 0) := (hdpA 2 _ 56 (by kernel_rfl) rfl rfl).2 rfl
   refine op_nil (ev_base hNA rfl qA_56) ?_
   exact obK_end rfl rfl rfl
  ·
   intro eA aA wA hNA hckA hGA hbsA hdpA
   have qA_57 : Sl aA 57 (ptr (P.getD i default) 0) := (hdpA 3 _ 57 (by kernel_rfl) rfl rfl).2 rfl
   refine op_field fld115_0 (ev_base hNA rfl qA_57) ?_
   exact obK_end rfl rfl rfl
  ·
   intro eA aA wA hNA hckA hGA hbsA hdpA
   have qA_58 : Sl aA 58 (ptr (P.getD i default) 0) := (hdpA 4 _ 58 (by kernel_rfl) rfl rfl).2 rfl
   have hGA := hGA (hckA 2 22 rfl (by kernel_rfl))
   obtain ⟨hxa, hxb⟩ := hGA
   refine op_load1 (v := (Value.slice none 0 0)) one48 (ev_base hNA rfl qA_58) (hxa.cell rfl) ?_
   exact obK_end rfl rfl rfl
  ·
   intro eA aA wA hNA hckA hGA hbsA hdpA
   have qA_6 := (hbsA 6 rfl).trans (sl_base hN142 rfl s142_6)
   refine op_move (ev_base hNA rfl qA_6) ?_
   exact obK_end rfl rfl rfl
  ·
   intro eA aA wA hNA hckA hGA hbsA hdpA
   have qA_60 : Sl aA 60 (ptr (P.getD (i + 1) default) 0) := (hdpA 6 _ 60 (by kernel_rfl) rfl rfl).2 rfl
   refine op_nil (ev_base hNA rfl qA_60) ?_
   exact obK_end rfl rfl rfl
  ·
   intro eA aA wA hNA hckA hGA hbsA hdpA
   have qA_61 : Sl aA 61 (ptr (P.getD (i + 1) default) 0) := (hdpA 7 _ 61 (by kernel_rfl) rfl rfl).2 rfl
   refine op_field fld115_0 (ev_base hNA rfl qA_61) ?_
   exact obK_end rfl rfl rfl
  ·
   intro eA aA wA hNA hckA hGA hbsA hdpA
   have qA_62 : Sl aA 62 (ptr (P.getD (i + 1) default) 0) := (hdpA 8 _ 62 (by kernel_rfl) rfl rfl).2 rfl
   have hGA := hGA (hckA 2 22 rfl (by kernel_rfl))
   obtain ⟨hxa, hxb⟩ := hGA
   refine op_load1 (v := (Value.slice none 0 0)) one48 (ev_base hNA rfl qA_62) (hxb.cell rfl) ?_
   exact obK_end rfl rfl rfl
  ·
   intro eA aA wA hNA hckA hGA hbsA hdpA
   have qA_5 := (hbsA 5 rfl).trans (sl_base hN142 rfl s142_5)
   refine op_move (ev_base hNA rfl qA_5) ?_
   exact obK_end rfl rfl rfl
  ·
   intro eA aA wA hNA hckA hGA hbsA hdpA
   have qA_65 : Sl aA 65 (ptr (P.getD i default) 0) := (hdpA 11 _ 65 (by kernel_rfl) rfl rfl).2 rfl
   refine op_nil (ev_base hNA rfl qA_65) ?_
   exact obK_end rfl rfl rfl
  ·
   intro eA aA wA hNA hckA hGA hbsA hdpA
   have qA_66 : Sl aA 66 (ptr (P.getD i default) 0) := (hdpA 12 _ 66 (by kernel_rfl) rfl rfl).2 rfl
   refine op_field fld115_2 (ev_base hNA rfl qA_66) ?_
   exact obK_end rfl rfl rfl
  ·
   intro eA aA wA hNA hckA hGA hbsA hdpA
   have qA_67 : Sl aA 67 (ptr (P.getD i default) 2) := (hdpA 13 _ 67 (by kernel_rfl) rfl rfl).2 rfl
   have hGA := hGA (hckA 2 22 rfl (by kernel_rfl))
   obtain ⟨hxa, hxb⟩ := hGA
   refine op_load1 (v := ca) one113 (ev_base hNA rfl qA_67) (hxa.cell rfl) ?_
   exact obK_end rfl rfl rfl
  ·
   intro eA aA wA hNA hckA hGA hbsA hdpA
   have qA_6 := (hbsA 6 rfl).trans (sl_base hN142 rfl s142_6)
   refine op_move (ev_base hNA rfl qA_6) ?_
   exact obK_end rfl rfl rfl
  ·
   intro eA aA wA hNA hckA hGA hbsA hdpA
   have qA_69 : Sl aA 69 (ptr (P.getD (i + 1) default) 0) := (hdpA 15 _ 69 (by kernel_rfl) rfl rfl).2 rfl
   refine op_nil (ev_base hNA rfl qA_69) ?_
   exact obK_end rfl rfl rfl
  ·
   intro eA aA wA hNA hckA hGA hbsA hdpA
   have qA_70 : Sl aA 70 (ptr (P.getD (i + 1) default) 0) := (hdpA 16 _ 70 (by kernel_rfl) rfl rfl).2 rfl
   refine op_field fld115_2 (ev_base hNA rfl qA_70) ?_
   exact obK_end rfl rfl rfl
  ·
   intro eA aA wA hNA hckA hGA hbsA hdpA
   have qA_71 : Sl aA 71 (ptr (P.getD (i + 1) default) 2) := (hdpA 17 _ 71 (by kernel_rfl) rfl rfl).2 rfl
   have hGA := hGA (hckA 2 22 rfl (by kernel_rfl))
   obtain ⟨hxa, hxb⟩ := hGA
   refine op_load1 (v := cb) one113 (ev_base hNA rfl qA_71) (hxb.cell rfl) ?_
   exact obK_end rfl rfl rfl
  ·
   intro eA aA wA hNA hckA hGA hbsA hdpA
   have qA_54 : Sl aA 54 (ptr (P.getD i default) 0) := (hdpA 0 _ 54 (by kernel_rfl) rfl rfl).2 rfl
   refine op_nil (ev_base hNA rfl qA_54) ?_
   exact obK_end rfl rfl rfl
  ·
   intro eA aA wA hNA hckA hGA hbsA hdpA
   have qA_74 : Sl aA 74 (ptr (P.getD i default) 0) := (hdpA 20 _ 74 (by kernel_rfl) rfl rfl).2 rfl
   refine op_field fld115_0 (ev_base hNA rfl qA_74) ?_
   exact obK_end rfl rfl rfl
  ·
   intro w146 E146 _ a146 hN146 hbs146 hdp146 o_ ho_; obtain rfl := Option.some.inj ho_
   have z_w146 := E146.size
   have hx := hx.keep0 E146
   have ok := ok.keep0 E146
   have oc := oc.keep0 E146
   have ks := all9 ks fun _ h => h.keep0 E146
   have hxb := hxb.keep0 E146
   have oca := oca.keep0 E146
   have ocb := ocb.keep0 E146
   have kas := all9 kas fun _ h => h.keep0 E146
   have kbs := all9 kbs fun _ h => h.keep0 E146
   have hr := hr.kz E146
   have hKa := hKa.kz E146
   have hKb := hKb.kz E146
   have hO135 := hO135.keep0 E146
   have hxa := hxa.keep0 E146
   have hb := hb.step0 E146
   have q146_59 : Sl a146 59 (Value.slice none 0 0) := (hdp146 5 _ 59 (by kernel_rfl) rfl rfl).2 rfl
   have q146_63 : Sl a146 63 (Value.slice none 0 0) := (hdp146 9 _ 63 (by kernel_rfl) rfl rfl).2 rfl
   refine op_append_none slt48 Try.underlying48 (by decide) (ev_base hN146 rfl q146_59) (ev_base hN146 rfl q146_63) ?_
   intro w147 E148
   have z_w147 := E148.size
   have hx := hx.keep0 E148
   have ok := ok.keep0 E148
   have oc := oc.keep0 E148
   have ks := all9 ks fun _ h => h.keep0 E148
   have hxb := hxb.keep0 E148
   have oca := oca.keep0 E148
   have ocb := ocb.keep0 E148
   have kas := all9 kas fun _ h => h.keep0 E148
   have kbs := all9 kbs fun _ h => h.keep0 E148
   have hr := hr.kz E148
   have hKa := hKa.kz E148
   have hKb := hKb.kz E148
   have hO135 := hO135.keep0 E148
   have hxa := hxa.keep0 E148
   have hb := hb.step0 E148
   refine kk_end rfl (by decide) rfl (fun _ => ⟨hxa, hxb⟩) ?_
   intro w149 E149 _ a149 hN149 hbs149 hdp149 o_ ho_; obtain rfl := Option.some.inj ho_
   have z_w149 := E149.size
   have hx := hx.keep0 E149
   have ok := ok.keep0 E149
   have oc := oc.keep0 E149
   have ks := all9 ks fun _ h => h.keep0 E149
   have hxb := hxb.keep0 E149
   have oca := oca.keep0 E149
   have ocb := ocb.keep0 E149
   have kas := all9 kas fun _ h => h.keep0 E149
   have kbs := all9 kbs fun _ h => h.keep0 E149
   have hr := hr.kz E149
   have hKa := hKa.kz E149
   have hKb := hKb.kz E149
   have hO135 := hO135.keep0 E149
   have hxa := hxa.keep0 E149
   have hb := hb.step0 E149
   have q149_68 : Sl a149 68 ca := (hdp149 14 _ 68 (by kernel_rfl) rfl rfl).2 rfl
   have q149_72 : Sl a149 72 cb := (hdp149 18 _ 72 (by kernel_rfl) rfl rfl).2 rfl
   have hP155 := oca
   refine op_append slt113 (ev_base hN149 rfl q149_68) hP155 (ev_base hN149 rfl q149_72) (Src.ofRd Try.underlying113 (by decide) ocb.rdw (one_pn _)) (by unfold maxLen; omega) (by omega) (Nat.le_trans (by assumption) hb.size) ?_
   intro v150 w151 hO153 E152 hm154
   have dj156 : DJ cv v150 := DJ.step hm154 (fun k hk => (oc.lt k hk).2) dk5
   have dj157 : Dj G0 (Bl v150) := Dj.step hm154 (fun k hk => (hr.lt k hk).2) dk10.symm
   have dj158 : Dj Ga (Bl v150) := Dj.step hm154 (fun k hk => (hKa.lt k hk).2) dk19.symm
   have dj159 : Dj Gb (Bl v150) := Dj.step hm154 (fun k hk => (hKb.lt k hk).2) dk29.symm
   have z_w151 := E152.size
   have hx := hx.keepO hP155 E152 (by decide)
   have ok := ok.keepT hP155 E152 (by decide)
   have oc := oc.keepD E152 dk5
   have ks := all9 ks fun _ h => h.keepT hP155 E152 (by decide)
   have hxb := hxb.keepO hP155 E152 (by decide)
   have kas := all9 kas fun _ h => h.keepT hP155 E152 (by decide)
   have kbs := all9 kbs fun _ h => h.keepT hP155 E152 (by decide)
   have hr := hr.keepG (Gr.of E152) dk10.symm (NoK.ofOwn hP155 (by decide))
   have hKa := hKa.keepG (Gr.of E152) dk19.symm (NoK.ofOwn hP155 (by decide))
   have hKb := hKb.keepG (Gr.of E152) dk29.symm (NoK.ofOwn hP155 (by decide))
   have hO135 := hO135.keepT hP155 E152 (by decide)
   have hxa := hxa.keepO hP155 E152 (by decide)
   have hb := hb.stepL E152 (fun k _ h => hNd.wg k (hfs k (hA.wc k h)))
   have hO153 : Own w151 0 69 1 v150 (Pa.length + Pb.length) (((Pa ++ Pb)).flatMap cN) := by simpa [u8v, sv] using hO153
   refine kk_end rfl (by decide) rfl (fun _ => ⟨hxa, hxb⟩) ?_
   intro w160 E160 _ a160 hN160 hbs160 hdp160 o_ ho_; obtain rfl := Option.some.inj ho_
   have z_w160 := E160.size
   have hx := hx.keep0 E160
   have ok := ok.keep0 E160
   have oc := oc.keep0 E160
   have ks := all9 ks fun _ h => h.keep0 E160
   have kas := all9 kas fun _ h => h.keep0 E160
   have kbs := all9 kbs fun _ h => h.keep0 E160
   have hr := hr.kz E160
   have hKa := hKa.kz E160
   have hKb := hKb.kz E160
   have hO135 := hO135.keep0 E160
   have hxa := hxa.keep0 E160
   have hO153 := hO153.keep0 E160
   have hb := hb.step0 E160
   have q160_75 : Sl a160 75 (ptr (P.getD i default) 0) := (hdp160 21 _ 75 (by kernel_rfl) rfl rfl).2 rfl
   have q160_64 : Sl a160 64 (Value.slice none 0 0) := (Option.some.inj ((hdp160 10 _ 64 (by kernel_rfl) rfl rfl).1 0 rfl)).symm
   have hxa_old := hxa
   refine op_store (vs := [(Value.slice none 0 0)]) (cs' := [(Value.slice none 0 0), v132, ca]) size48 (ev_base hN160 rfl q160_75) (ev_base hN160 rfl q160_64) rfl rfl rfl hxa (Nat.le_of_ble_eq_true rfl) rfl ?_
   intro w161 hxa E162
   have z_w161 := E162.size
   have hx := hx.keep E162 (by simp only [ne_eq, Option.some.injEq]; omega)
   have ok := ok.keepX hxa_old E162 (by decide)
   have oc := oc.keepX hxa_old E162 (by decide)
   have ks := all9 ks fun _ h => h.keepX hxa_old E162 (by decide)
   have kas := all9 kas fun _ h => h.keepX hxa_old E162 (by decide)
   have kbs := all9 kbs fun _ h => h.keepX hxa_old E162 (by decide)
   have hr := hr.keepG (Gr.of E162) (Dj.one dk13) (NoK.ofBx hxa_old (by decide))
   have hKa := hKa.keepG (Gr.of E162) (Dj.one dk22) (NoK.ofBx hxa_old (by decide))
   have hKb := hKb.keepG (Gr.of E162) (Dj.one dk32) (NoK.ofBx hxa_old (by decide))
   have hO135 := hO135.keepX hxa_old E162 (by decide)
   have hO153 := hO153.keepX hxa_old E162 (by decide)
   have hb := hb.stepB E162 (hNd.wg _ (hfs _ hA.wp))
   refine kk_end0 rfl (fun h => absurd h (by simp)) ?_
   intro w163 E163 a163 hN163 hd163 hbs163 hph163
   have hd163 := hd163.trans ((by simp only [putsL_defers] : _ = _).trans hd142)
   have z_w163 := E163.size
   have hx := hx.keep0 E163
   have ok := ok.keep0 E163
   have oc := oc.keep0 E163
   have ks := all9 ks fun _ h => h.keep0 E163
   have kas := all9 kas fun _ h => h.keep0 E163
   have kbs := all9 kbs fun _ h => h.keep0 E163
   have hr := hr.kz E163
   have hKa := hKa.kz E163
   have hKb := hKb.kz E163
   have hO135 := hO135.keep0 E163
   have hO153 := hO153.keep0 E163
   have hxa := hxa.keep0 E163
   have hb := hb.step0 E163
   have s163_0 := (hbs163 0 rfl).trans (sl_base hN142 rfl s142_0)
   have s163_4 := (hbs163 4 rfl).trans (sl_base hN142 rfl s142_4)
   have s163_55 : Sl a163 55 (ptr (P.getD i default) 0) := (hph163 1 _ 55 rfl rfl).2 rfl
   have s163_73 : Sl a163 73 v150 := (Option.some.inj ((hph163 19 _ 73 rfl rfl).1 1 rfl)).symm
   refine split_end ?_
   refine from_seq (tl := [_, _, _]) (by decide) (by kernel_rfl) rfl ?_
   refine op_nil (ev_base hN163 rfl s163_55) (op_field fld115_2 (ev_hit hN163 rfl) ?_)
   have hxa_old := hxa
   refine op_store (vs := [v150]) (cs' := [(Value.slice none 0 0), v132, v150]) size113 (ev_hit hN163 rfl) (ev_base hN163 rfl s163_73) hO153.cl rfl (by simp only [List.all_cons, List.all_nil, Bool.true_and, Bool.and_true, hO153.one]; try rfl) hxa (Nat.le_of_ble_eq_true rfl) rfl ?_
   intro w164 hxa E165
   have z_w164 := E165.size
   have hx := hx.keep E165 (by simp only [ne_eq, Option.some.injEq]; omega)
   have ok := ok.keepX hxa_old E165 (by decide)
   have oc := oc.keepX hxa_old E165 (by decide)
   have ks := all9 ks fun _ h => h.keepX hxa_old E165 (by decide)
   have kas := all9 kas fun _ h => h.keepX hxa_old E165 (by decide)
   have kbs := all9 kbs fun _ h => h.keepX hxa_old E165 (by decide)
   have hr := hr.keepG (Gr.of E165) (Dj.one dk13) (NoK.ofBx hxa_old (by decide))
   have hKa := hKa.keepG (Gr.of E165) (Dj.one dk22) (NoK.ofBx hxa_old (by decide))
   have hKb := hKb.keepG (Gr.of E165) (Dj.one dk32) (NoK.ofBx hxa_old (by decide))
   have hO135 := hO135.keepX hxa_old E165 (by decide)
   have hO153 := hO153.keepX hxa_old E165 (by decide)
   have hb := hb.stepB E165 (hNd.wg _ (hfs _ hA.wp))
   refine reg_nil (hK145 _ _ (reg_split (hd := [_, _, _, _, _, _, _, _, _, _, _, _, _, _, _, _, _, _, _, _, _, _]) (tl := _) 22 mixed (by kernel_rfl) rfl rfl ?_))
   refine any_envk (φ := phiV [(fun uz => uz = (ptr p 0)), (fun uz => uz = (ptr p 0)), (fun uz => uz = (ptr p 0)), (fun uz => uz = (ptr p 0)), (fun uz => uz = (ptr p 1)), (fun uz => uz = kv), (fun uz => uz = (Value.int .i64 ((i : Nat) : Int))), (fun uz => uz = (Value.int .i64 ((i : Nat) : Int))), (fun uz => uz = (Value.int .i64 (((i : Nat) : Int) + 1))), (fun _ => True), (fun uz => uz = (ptr p 0)), (fun uz => uz = (ptr p 0)), (fun uz => uz = (ptr p 2)), (fun uz => uz = cv), (fun uz => uz = (Value.int .i64 ((i : Nat) : Int))), (fun uz => uz = (Value.int .i64 ((i + 1 : Nat) : Int))), (fun uz => uz = (Value.int .i64 ((i : Nat) : Int))), (fun uz => uz = (Value.int .i64 ((i + 1 + 1 : Nat) : Int))), (fun _ => True), (fun uz => uz = (ptr p 0)), (fun uz => uz = (ptr p 1)), (fun _ => True)]) (G := fun c9 w' => c9 ≤ 2 → (Bx w' p 115 [(Value.slice none 0 0), kv, cv])) [9, 18, 21] (by kernel_rfl) (by kernel_rfl) (by kernel_rfl) (by kernel_rfl) hN163 (fun _ w1 w2 E h hc9 => (h hc9).keep0 E) (fun _ => hx) (ObKs.cons ?_ (ObKs.cons ?_ (ObKs.cons ?_ (ObKs.cons ?_ (ObKs.cons ?_ (ObKs.cons ?_ (ObKs.cons ?_ (ObKs.cons ?_ (ObKs.cons ?_ (ObKs.pass rfl (ObKs.cons ?_ (ObKs.cons ?_ (ObKs.cons ?_ (ObKs.cons ?_ (ObKs.cons ?_ (ObKs.cons ?_ (ObKs.cons ?_ (ObKs.cons ?_ (ObKs.pass rfl (ObKs.cons ?_ (ObKs.cons ?_ (ObKs.pass rfl (ObKs.nil))))))))))))))))))))))) (by simp only [putsL_defers]) ?_
   ·
    intro eA aA wA hNA hckA hGA hbsA hdpA
    have qA_0 := (hbsA 0 rfl).trans (sl_base hN163 rfl s163_0)
    refine op_move (ev_base hNA rfl qA_0) ?_
    exact obK_end rfl rfl rfl
   ·
    intro eA aA wA hNA hckA hGA hbsA hdpA
    have qA_0 := (hbsA 0 rfl).trans (sl_base hN163 rfl s163_0)
    refine op_move (ev_base hNA rfl qA_0) ?_
    exact obK_end rfl rfl rfl
   ·
    intro eA aA wA hNA hckA hGA hbsA hdpA
    have qA_0 := (hbsA 0 rfl).trans (sl_base hN163 rfl s163_0)
    refine op_move (ev_base hNA rfl qA_0) ?_
    exact obK_end rfl rfl rfl
   ·
    intro eA aA wA hNA hckA hGA hbsA hdpA
    have qA_80 : Sl aA 80 (ptr p 0) := (hdpA 2 _ 80 (by kernel_rfl) rfl rfl).2 rfl
    refine op_nil (ev_base hNA rfl qA_80) ?_
    exact obK_end rfl rfl rfl
   ·
    intro eA aA wA hNA hckA hGA hbsA hdpA
    have qA_81 : Sl aA 81 (ptr p 0) := (hdpA 3 _ 81 (by kernel_rfl) rfl rfl).2 rfl
    refine op_field fld115_1 (ev_base hNA rfl qA_81) ?_
    exact obK_end rfl rfl rfl
   ·
    intro eA aA wA hNA hckA hGA hbsA hdpA
    have qA_82 : Sl aA 82 (ptr p 1) := (hdpA 4 _ 82 (by kernel_rfl) rfl rfl).2 rfl
    have hGA := hGA (hckA 2 21 rfl (by kernel_rfl))
    refine op_load1 (v := kv) one90 (ev_base hNA rfl qA_82) (hGA.cell rfl) ?_
    exact obK_end rfl rfl rfl
   ·
    intro eA aA wA hNA hckA hGA hbsA hdpA
    have qA_4 := (hbsA 4 rfl).trans (sl_base hN163 rfl s163_4)
    refine op_move (ev_base hNA rfl qA_4) ?_
    exact obK_end rfl rfl rfl
   ·
    intro eA aA wA hNA hckA hGA hbsA hdpA
    have qA_4 := (hbsA 4 rfl).trans (sl_base hN163 rfl s163_4)
    refine op_move (ev_base hNA rfl qA_4) ?_
    exact obK_end rfl rfl rfl
   ·
    intro eA aA wA hNA hckA hGA hbsA hdpA
    have qA_85 : Sl aA 85 (Value.int .i64 ((i : Nat) : Int)) := (hdpA 7 _ 85 (by kernel_rfl) rfl rfl).2 rfl
    refine op_add (ev_base hNA rfl qA_85) rfl (add64 (by omega)) ?_
    exact obK_end rfl rfl rfl
   ·
    intro eA aA wA hNA hckA hGA hbsA hdpA
    have qA_0 := (hbsA 0 rfl).trans (sl_base hN163 rfl s163_0)
    refine op_move (ev_base hNA rfl qA_0) ?_
    exact obK_end rfl rfl rfl
   ·
    intro eA aA wA hNA hckA hGA hbsA hdpA
    have qA_88 : Sl aA 88 (ptr p 0) := (hdpA 10 _ 88 (by kernel_rfl) rfl rfl).2 rfl
    refine op_nil (ev_base hNA rfl qA_88) ?_
    exact obK_end rfl rfl rfl
   ·
    intro eA aA wA hNA hckA hGA hbsA hdpA
    have qA_89 : Sl aA 89 (ptr p 0) := (hdpA 11 _ 89 (by kernel_rfl) rfl rfl).2 rfl
    refine op_field fld115_2 (ev_base hNA rfl qA_89) ?_
    exact obK_end rfl rfl rfl
   ·
    intro eA aA wA hNA hckA hGA hbsA hdpA
    have qA_90 : Sl aA 90 (ptr p 2) := (hdpA 12 _ 90 (by kernel_rfl) rfl rfl).2 rfl
    have hGA := hGA (hckA 2 21 rfl (by kernel_rfl))
    refine op_load1 (v := cv) one113 (ev_base hNA rfl qA_90) (hGA.cell rfl) ?_
    exact obK_end rfl rfl rfl
   ·
    intro eA aA wA hNA hckA hGA hbsA hdpA
    have qA_4 := (hbsA 4 rfl).trans (sl_base hN163 rfl s163_4)
    refine op_move (ev_base hNA rfl qA_4) ?_
    exact obK_end rfl rfl rfl
   ·
    intro eA aA wA hNA hckA hGA hbsA hdpA
    have qA_92 : Sl aA 92 (Value.int .i64 ((i : Nat) : Int)) := (hdpA 14 _ 92 (by kernel_rfl) rfl rfl).2 rfl
    refine op_add (r := ((i + 1 : Nat) : Int)) (ev_base hNA rfl qA_92) rfl ((add64 (by omega)).trans (by omega)) ?_
    exact obK_end rfl rfl rfl
   ·
    intro eA aA wA hNA hckA hGA hbsA hdpA
    have qA_4 := (hbsA 4 rfl).trans (sl_base hN163 rfl s163_4)
    refine op_move (ev_base hNA rfl qA_4) ?_
    exact obK_end rfl rfl rfl
   ·
    intro eA aA wA hNA hckA hGA hbsA hdpA
    have qA_94 : Sl aA 94 (Value.int .i64 ((i : Nat) : Int)) := (hdpA 16 _ 94 (by kernel_rfl) rfl rfl).2 rfl
    refine op_add (r := ((i + 1 + 1 : Nat) : Int)) (ev_base hNA rfl qA_94) rfl ((add64 (by omega)).trans (by omega)) ?_
    exact obK_end rfl rfl rfl
   ·
    intro eA aA wA hNA hckA hGA hbsA hdpA
    have qA_78 : Sl aA 78 (ptr p 0) := (hdpA 0 _ 78 (by kernel_rfl) rfl rfl).2 rfl
    refine op_nil (ev_base hNA rfl qA_78) ?_
    exact obK_end rfl rfl rfl
   ·
    intro eA aA wA hNA hckA hGA hbsA hdpA
    have qA_97 : Sl aA 97 (ptr p 0) := (hdpA 19 _ 97 (by kernel_rfl) rfl rfl).2 rfl
    refine op_field fld115_1 (ev_base hNA rfl qA_97) ?_
    exact obK_end rfl rfl rfl
   ·
    intro w166 E166 _ a166 hN166 hbs166 hdp166 o_ ho_; obtain rfl := Option.some.inj ho_
    have z_w166 := E166.size
    have hx := hx.keep0 E166
    have ok := ok.keep0 E166
    have oc := oc.keep0 E166
    have ks := all9 ks fun _ h => h.keep0 E166
    have kas := all9 kas fun _ h => h.keep0 E166
    have kbs := all9 kbs fun _ h => h.keep0 E166
    have hr := hr.kz E166
    have hKa := hKa.kz E166
    have hKb := hKb.kz E166
    have hO135 := hO135.keep0 E166
    have hO153 := hO153.keep0 E166
    have hxa := hxa.keep0 E166
    have hb := hb.step0 E166
    have q166_83 : Sl a166 83 kv := (hdp166 5 _ 83 (by kernel_rfl) rfl rfl).2 rfl
    have q166_84 : Sl a166 84 (Value.int .i64 ((i : Nat) : Int)) := (hdp166 6 _ 84 (by kernel_rfl) rfl rfl).2 rfl
    have q166_86 : Sl a166 86 (Value.int .i64 (((i : Nat) : Int) + 1)) := (hdp166 8 _ 86 (by kernel_rfl) rfl rfl).2 rfl
    refine op_fn (vs := [kv, (Value.int .i64 ((i : Nat) : Int)), (Value.int .i64 (((i : Nat) : Int) + 1))]) ok121 ⟨(ev_base hN166 rfl q166_83), ⟨(ev_base hN166 rfl q166_84), ⟨(ev_base hN166 rfl q166_86), trivial⟩⟩⟩ (DelK (i := i) ok (one_kd ks (fun _ h => h)) (by omega) (by omega)) ?_
    rintro v167 w168 ⟨E169, hO167, hm167⟩
    have hm167 : v167.ownBlock = kv.ownBlock ∨ ∀ k, v167.ownBlock = some k → w166.heap.size ≤ k := .inl hm167
    have dj170 : Dj G0 (Bl v167) := Dj.step hm167 (fun k hk => (hr.lt k hk).2) djkG.symm
    have dj171 : Dj Ga (Bl v167) := Dj.step hm167 (fun k hk => (hKa.lt k hk).2) dk15.symm
    have dj172 : Dj Gb (Bl v167) := Dj.step hm167 (fun k hk => (hKb.lt k hk).2) dk25.symm
    have dj173 : DJ v132 v167 := DJ.step hm167 (fun k hk => (hO135.lt k hk).2) dj138.symm
    have hin174 := inF_step (n := w.heap.size) hm167 (by omega) (fun k _ h => hNd.wk k h)
    have z_w168 := E169.size
    have hx := hx.keepO ok E169 (by decide)
    have oc := oc.keepT ok E169 (by decide)
    have ks := all9 ks fun _ h => h.keepT ok E169 (by decide)
    have kas := all9 kas fun _ h => h.keepT ok E169 (by decide)
    have kbs := all9 kbs fun _ h => h.keepT ok E169 (by decide)
    have hr := hr.keepG (Gr.of E169) djkG.symm (NoK.ofOwn ok (by decide))
    have hKa := hKa.keepG (Gr.of E169) dk15.symm (NoK.ofOwn ok (by decide))
    have hKb := hKb.keepG (Gr.of E169) dk25.symm (NoK.ofOwn ok (by decide))
    have hO135 := hO135.keepD E169 dj138.symm
    have hO153 := hO153.keepT ok E169 (by decide)
    have hxa := hxa.keepO ok E169 (by decide)
    have hb := hb.stepL E169 (fun k _ h => hNd.wk k h)
    have hO167 : Own w168 0 27 1 v167 (K.eraseIdx i).length ((K.eraseIdx i).flatMap cK) := hO167.cast (by rw [List.length_eraseIdx, if_pos (by omega)]) (flat_del cK_len _ _)
    refine kk_end rfl (by decide) rfl (fun _ => hx) ?_
    intro w175 E175 _ a175 hN175 hbs175 hdp175 o_ ho_; obtain rfl := Option.some.inj ho_
    have z_w175 := E175.size
    have hx := hx.keep0 E175
    have oc := oc.keep0 E175
    have ks := all9 ks fun _ h => h.keep0 E175
    have kas := all9 kas fun _ h => h.keep0 E175
    have kbs := all9 kbs fun _ h => h.keep0 E175
    have hr := hr.kz E175
    have hKa := hKa.kz E175
    have hKb := hKb.kz E175
    have hO135 := hO135.keep0 E175
    have hO153 := hO153.keep0 E175
    have hxa := hxa.keep0 E175
    have hO167 := hO167.keep0 E175
    have hb := hb.step0 E175
    have q175_91 : Sl a175 91 cv := (hdp175 13 _ 91 (by kernel_rfl) rfl rfl).2 rfl
    have q175_93 : Sl a175 93 (Value.int .i64 ((i + 1 : Nat) : Int)) := (hdp175 15 _ 93 (by kernel_rfl) rfl rfl).2 rfl
    have q175_95 : Sl a175 95 (Value.int .i64 ((i + 1 + 1 : Nat) : Int)) := (hdp175 17 _ 95 (by kernel_rfl) rfl rfl).2 rfl
    refine op_fn (vs := [cv, (Value.int .i64 ((i + 1 : Nat) : Int)), (Value.int .i64 ((i + 1 + 1 : Nat) : Int))]) ok122 ⟨(ev_base hN175 rfl q175_91), ⟨(ev_base hN175 rfl q175_93), ⟨(ev_base hN175 rfl q175_95), trivial⟩⟩⟩ (DelN (i := (i + 1)) oc (one_pn _) (by omega) (by omega)) ?_
    rintro v176 w177 ⟨E178, hO176, hm176⟩
    have hm176 : v176.ownBlock = cv.ownBlock ∨ ∀ k, v176.ownBlock = some k → w175.heap.size ≤ k := .inl hm176
    have dj179 : Dj G0 (Bl v176) := Dj.step hm176 (fun k hk => (hr.lt k hk).2) djcG.symm
    have dj180 : Dj Ga (Bl v176) := Dj.step hm176 (fun k hk => (hKa.lt k hk).2) dk16.symm
    have dj181 : Dj Gb (Bl v176) := Dj.step hm176 (fun k hk => (hKb.lt k hk).2) dk26.symm
    have dj182 : DJ v150 v176 := DJ.step hm176 (fun k hk => (hO153.lt k hk).2) dj156.symm
    have hin183 := inF_step (n := w.heap.size) hm176 (by omega) (fun k _ h => hNd.wc k h)
    have z_w177 := E178.size
    have hx := hx.keepO oc E178 (by decide)
    have ks := all9 ks fun _ h => h.keepT oc E178 (by decide)
    have kas := all9 kas fun _ h => h.keepT oc E178 (by decide)
    have kbs := all9 kbs fun _ h => h.keepT oc E178 (by decide)
    have hr := hr.keepG (Gr.of E178) djcG.symm (NoK.ofOwn oc (by decide))
    have hKa := hKa.keepG (Gr.of E178) dk16.symm (NoK.ofOwn oc (by decide))
    have hKb := hKb.keepG (Gr.of E178) dk26.symm (NoK.ofOwn oc (by decide))
    have hO135 := hO135.keepT oc E178 (by decide)
    have hO153 := hO153.keepD E178 dj156.symm
    have hxa := hxa.keepO oc E178 (by decide)
    have hO167 := hO167.keepT oc E178 (by decide)
    have hb := hb.stepL E178 (fun k _ h => hNd.wc k h)
    have hO176 : Own w177 0 69 1 v176 (P.eraseIdx (i + 1)).length ((P.eraseIdx (i + 1)).flatMap cN) := hO176.cast (by rw [List.length_eraseIdx, if_pos (by omega)]) (flat_del cN_len _ _)
    refine kk_end rfl (by decide) rfl (fun _ => hx) ?_
    intro w184 E184 _ a184 hN184 hbs184 hdp184 o_ ho_; obtain rfl := Option.some.inj ho_
    have z_w184 := E184.size
    have hx := hx.keep0 E184
    have ks := all9 ks fun _ h => h.keep0 E184
    have kas := all9 kas fun _ h => h.keep0 E184
    have kbs := all9 kbs fun _ h => h.keep0 E184
    have hr := hr.kz E184
    have hKa := hKa.kz E184
    have hKb := hKb.kz E184
    have hO135 := hO135.keep0 E184
    have hO153 := hO153.keep0 E184
    have hxa := hxa.keep0 E184
    have hO167 := hO167.keep0 E184
    have hO176 := hO176.keep0 E184
    have hb := hb.step0 E184
    have q184_98 : Sl a184 98 (ptr p 1) := (hdp184 20 _ 98 (by kernel_rfl) rfl rfl).2 rfl
    have q184_87 : Sl a184 87 v167 := (Option.some.inj ((hdp184 9 _ 87 (by kernel_rfl) rfl rfl).1 0 rfl)).symm
    have hx_old := hx
    refine op_store (vs := [v167]) (cs' := [(Value.slice none 0 0), v167, cv]) size90 (ev_base hN184 rfl q184_98) (ev_base hN184 rfl q184_87) hO167.cl rfl (by simp only [List.all_cons, List.all_nil, Bool.true_and, Bool.and_true, hO167.one]; try rfl) hx (Nat.le_of_ble_eq_true rfl) rfl ?_
    intro w185 hx E186
    have z_w185 := E186.size
    have ks := all9 ks fun _ h => h.keepX hx_old E186 (by decide)
    have kas := all9 kas fun _ h => h.keepX hx_old E186 (by decide)
    have kbs := all9 kbs fun _ h => h.keepX hx_old E186 (by decide)
    have hr := hr.keepG (Gr.of E186) (Dj.one djpG) (NoK.ofBx hx_old (by decide))
    have hKa := hKa.keepG (Gr.of E186) (Dj.one dk17) (NoK.ofBx hx_old (by decide))
    have hKb := hKb.keepG (Gr.of E186) (Dj.one dk27) (NoK.ofBx hx_old (by decide))
    have hO135 := hO135.keepX hx_old E186 (by decide)
    have hO153 := hO153.keepX hx_old E186 (by decide)
    have hxa := hxa.keep E186 (by simp only [ne_eq, Option.some.injEq]; omega)
    have hO167 := hO167.keepX hx_old E186 (by decide)
    have hO176 := hO176.keepX hx_old E186 (by decide)
    have hb := hb.stepB E186 hNd.wp
    refine kk_end0 rfl (fun h => absurd h (by simp)) ?_
    intro w187 E187 a187 hN187 hd187 hbs187 hph187
    have hd187 := hd187.trans ((by simp only [putsL_defers] : _ = _).trans hd163)
    have z_w187 := E187.size
    have ks := all9 ks fun _ h => h.keep0 E187
    have kas := all9 kas fun _ h => h.keep0 E187
    have kbs := all9 kbs fun _ h => h.keep0 E187
    have hr := hr.kz E187
    have hKa := hKa.kz E187
    have hKb := hKb.kz E187
    have hO135 := hO135.keep0 E187
    have hO153 := hO153.keep0 E187
    have hxa := hxa.keep0 E187
    have hO167 := hO167.keep0 E187
    have hO176 := hO176.keep0 E187
    have hx := hx.keep0 E187
    have hb := hb.step0 E187
    have s187_79 : Sl a187 79 (ptr p 0) := (hph187 1 _ 79 rfl rfl).2 rfl
    have s187_96 : Sl a187 96 v176 := (Option.some.inj ((hph187 18 _ 96 rfl rfl).1 1 rfl)).symm
    refine split_end ?_
    refine from_seq (tl := [_, _, _]) (by decide) (by kernel_rfl) rfl ?_
    refine op_nil (ev_base hN187 rfl s187_79) (op_field fld115_2 (ev_hit hN187 rfl) ?_)
    have hx_old := hx
    refine op_store (vs := [v176]) (cs' := [(Value.slice none 0 0), v167, v176]) size113 (ev_hit hN187 rfl) (ev_base hN187 rfl s187_96) hO176.cl rfl (by simp only [List.all_cons, List.all_nil, Bool.true_and, Bool.and_true, hO176.one]; try rfl) hx (Nat.le_of_ble_eq_true rfl) rfl ?_
    intro w188 hx E189
    have z_w188 := E189.size
    have ks := all9 ks fun _ h => h.keepX hx_old E189 (by decide)
    have kas := all9 kas fun _ h => h.keepX hx_old E189 (by decide)
    have kbs := all9 kbs fun _ h => h.keepX hx_old E189 (by decide)
    have hr := hr.keepG (Gr.of E189) (Dj.one djpG) (NoK.ofBx hx_old (by decide))
    have hKa := hKa.keepG (Gr.of E189) (Dj.one dk17) (NoK.ofBx hx_old (by decide))
    have hKb := hKb.keepG (Gr.of E189) (Dj.one dk27) (NoK.ofBx hx_old (by decide))
    have hO135 := hO135.keepX hx_old E189 (by decide)
    have hO153 := hO153.keepX hx_old E189 (by decide)
    have hxa := hxa.keep E189 (by simp only [ne_eq, Option.some.injEq]; omega)
    have hO167 := hO167.keepX hx_old E189 (by decide)
    have hO176 := hO176.keepX hx_old E189 (by decide)
    have hb := hb.stepB E189 hNd.wp
    refine reg_nil (end_ret ?_)
    refine ret0 rfl hd187  ⟨_, rfl, ?_⟩
    obtain ⟨G3, hkq3, hG3⟩ := Kids.app hKa hKb dk35
    have hTA := mkNode (κ := kI) (K := (Ka ++ [K.getD i default] ++ Kb)) (P := (Pa ++ Pb)) hxa (hO135.cast (n' := (Ka ++ [K.getD i default] ++ Kb).length) (cs' := (Ka ++ [K.getD i default] ++ Kb).flatMap cK) (by simp; omega) (by simp [cK])) (hO153.cast (n' := (Pa ++ Pb).length) (cs' := (Pa ++ Pb).flatMap cN) (by simp) (by simp)) (kks_app (kks_app kas (kks_one (ks _ (getD_mem (l := K) (i := i) (by omega))))) kbs) (kks_app (kks_app hA.kr (kks_one (hNd.kr _ (getD_mem (l := K) (i := i) (by omega))))) hB.kr) hkq3 (fun h1 => ((hG3 _ h1)).elim (fun y0 => dk22 y0) (fun z0 => dk32 z0)) (fun j h1 h2 => ((hG3 _ h2)).elim (fun y20 => dj140.symm _ h1 y20) (fun z20 => dj141.symm _ h1 z20)) (fun j h1 h2 => ((hG3 _ h2)).elim (fun y20 => dj158.symm _ h1 y20) (fun z20 => dj159.symm _ h1 z20))
    have hT9 := mkNode (κ := kI) (K := (K.eraseIdx i)) hx hO167 hO176 (kks_sub ks (fun _ h => List.mem_of_mem_eraseIdx h)) (kks_sub hNd.kr (fun _ h => List.mem_of_mem_eraseIdx h)) (Kids.join2 hr hPc (by omega) hTA (fun j h1 h2 => (h1).elim (fun y0 => dk13 (y0 ▸ h2)) (fun z0 => (z0).elim (fun y1 => dj139.symm _ y1 h2) (fun z1 => (z1).elim (fun y2 => dj157.symm _ y2 h2) (fun z2 => ((hG3 _ z2)).elim (fun y3 => dk24 _ y3 h2) (fun z3 => dk34 _ z3 h2)))))) (fun h1 => (h1).elim (fun y0 => (y0).elim (fun y1 => hpa y1) (fun z1 => (z1).elim (fun y2 => bx_own_ne hx hO135 (by decide) y2) (fun z2 => (z2).elim (fun y3 => bx_own_ne hx hO153 (by decide) y3) (fun z3 => ((hG3 _ z3)).elim (fun y4 => dk17 y4) (fun z4 => dk27 z4))))) (fun z0 => djpG z0)) (fun j h1 h2 => (h2).elim (fun y20 => (y20).elim (fun y21 => bx_own_ne hxa hO167 (by decide) (y21 ▸ h1)) (fun z21 => (z21).elim (fun y22 => dj173.symm _ h1 y22) (fun z22 => (z22).elim (fun y23 => own_own_dj hO167 hO153 (by decide) _ h1 y23) (fun z23 => ((hG3 _ z23)).elim (fun y24 => dj171.symm _ h1 y24) (fun z24 => dj172.symm _ h1 z24))))) (fun z20 => dj170.symm _ h1 z20)) (fun j h1 h2 => (h2).elim (fun y20 => (y20).elim (fun y21 => bx_own_ne hxa hO176 (by decide) (y21 ▸ h1)) (fun z21 => (z21).elim (fun y22 => own_own_dj hO176 hO135 (by decide) _ h1 y22) (fun z22 => (z22).elim (fun y23 => dj182.symm _ h1 y23) (fun z23 => ((hG3 _ z23)).elim (fun y24 => dj180.symm _ h1 y24) (fun z24 => dj181.symm _ h1 z24))))) (fun z20 => dj179.symm _ h1 z20))
    rw [mends_join (ks := K.map Prod.snd) (cs := cs) (i := j) (by rw [← hij]; exact hl), ← hij, join_N ha hb9 hi]
    exact ⟨hb, rfl, _, hT9, (newF_in (fun j hj h1 => (h1).elim (fun y0 => (y0 ▸ hNd.wp)) (fun z0 => (z0).elim (fun y1 => hin174 j hj y1) (fun z1 => (z1).elim (fun y2 => hin183 j hj y2) (fun z2 => (z2).elim (fun y3 => (y3).elim (fun y4 => (y4 ▸ (hNd.wg _ (hfs _ hA.wp)))) (fun z4 => (z4).elim (fun y5 => (inF_step (n := w.heap.size) hm136 (by omega) (inF_step (n := w.heap.size) hm125 (by omega) (fun k _ h => hNd.wg k (hfs k (hA.wk k h))))) j hj y5) (fun z5 => (z5).elim (fun y6 => (inF_step (n := w.heap.size) hm154 (by omega) (fun k _ h => hNd.wg k (hfs k (hA.wc k h)))) j hj y6) (fun z6 => ((hG3 _ z6)).elim (fun y7 => (fun j q => hNd.wg j (hfs j (hA.wg j q))) j y7) (fun z7 => (fun j q => hNd.wg j (hgs j (hB.wg j q))) j z7))))) (fun z3 => (fun j q => hNd.wg j (hGs j q)) j z3))))))⟩
theorem mendsTree {h j p : Nat} {R W : Nat → Prop} {t : Tr Int (h + 1)} {w : World} (T : TreeR kI R w (h + 1) p t W) (hlen : t.2.length = t.1.length + 1) (hsh : ∀ c ∈ t.2, Ok h c ∧ szT h c ≤ 7) (hj : j ≤ t.1.length) (h1 : 1 ≤ t.1.length) (hn : t.1.length ≤ 7) :
    Ret Try.prog 88 #[ptr p 0, .int .i64 ((j : Nat) : Int)] w (fun v' w' => Gr w w' W ∧ v' = .tuple #[] ∧ ∃ W', TreeR kI R w' (h + 1) p (mendsT h t j) W' ∧ NewF w.heap.size W W') := by
  obtain ⟨kv, cv, K, P, G, hNd, hKs, e⟩ := T
  obtain ⟨kl, cs⟩ := t
  have e' : K.map Prod.snd = kl := e
  subst e'
  have hlen' : cs.length = K.length + 1 := by simpa using hlen
  have hj' : j ≤ K.length := by simpa using hj
  have h1' : 1 ≤ K.length := by simpa using h1
  have hn' : K.length ≤ 7 := by simpa using hn
  by_cases hl : 3 < lender h cs (j - 1) (decide (j = 0))
  · exact mendL hNd hKs hlen' hsh rfl (by omega) hn' hl
  · have hPc : P.length = cs.length := Kids.len hKs
    obtain ⟨a, ha⟩ : ∃ a, cs[j - 1]? = some a := ⟨_, List.getElem?_eq_getElem (by omega)⟩
    obtain ⟨b, hb9⟩ : ∃ b, cs[j - 1 + 1]? = some b := ⟨_, List.getElem?_eq_getElem (by omega)⟩
    obtain ⟨f, g, G0, hA, hB, hr, d1, d2, d3, s1, s2, s3⟩ := Kids.cut2 hKs ha hb9
    obtain ⟨oa, za⟩ := hsh a (List.mem_of_getElem? ha)
    obtain ⟨ob, zb⟩ := hsh b (List.mem_of_getElem? hb9)
    cases h with
    | zero =>
      obtain ⟨av, Da, hLa, ea⟩ := hA
      obtain ⟨bv, Db, hLb, eb⟩ := hB
      have ea' : ((Da.map Prod.snd : List (Ky × Int)) : Tr Int 0) = a := ea
      have eb' : ((Db.map Prod.snd : List (Ky × Int)) : Tr Int 0) = b := eb
      subst ea'; subst eb'
      have za' : Da.length ≤ 7 := by have q : (Da.map Prod.snd).length ≤ 7 := za; simpa using q
      have zb' : Db.length ≤ 7 := by have q : (Db.map Prod.snd).length ≤ 7 := zb; simpa using q
      exact mendJL hNd d1 d2 d3 s1 s2 s3 (by omega) (by omega) hn' hLa hLb hr hPc ha hb9 za' zb' hKs hlen' hsh rfl hl
    | succ h =>
      obtain ⟨ka, ca, Ka, Pa, Ga, hNa, hKa, ea⟩ := hA
      obtain ⟨kb, cb, Kb, Pb, Gb, hNb, hKb, eb⟩ := hB
      obtain ⟨kla, ta⟩ := a
      obtain ⟨klb, tb⟩ := b
      have ea' : Ka.map Prod.snd = kla := ea
      have eb' : Kb.map Prod.snd = klb := eb
      subst ea'; subst eb'
      have la : ta.length = Ka.length + 1 := by have q := (ok_node.1 oa).1.1; simpa using q
      have lb : tb.length = Kb.length + 1 := by have q := (ok_node.1 ob).1.1; simpa using q
      have za' : Ka.length ≤ 7 := by have q : (Ka.map Prod.snd).length ≤ 7 := za; simpa using q
      have zb' : Kb.length ≤ 7 := by have q : (Kb.map Prod.snd).length ≤ 7 := zb; simpa using q
      exact mendJN hNd d1 d2 d3 s1 s2 s3 (by omega) (by omega) hn' hNa hKa hNb hKb hr hPc ha hb9 la lb za' zb' hKs hlen' hsh rfl hl
theorem sizeTree {h p : Nat} {R W : Nat → Prop} {t : Tr Int h} {w : World} (T : TreeR kI R w h p t W) (O : Ok h t) : Ret Try.prog 52 #[ptr p 0] w (fun v' w' => v' = .int .i64 (szT h t : Int) ∧ w' = w) := by
  obtain ⟨L, hpB, pv, kv, cv, a, b, ca, cb, hx, h2, h3, h4, h5⟩ := viewT T O
  exact sizeUI hx h2 h3 h4 h5
end Go.Proofs.Ytcpfdfejojghbaa

namespace Go.Gx
open Go.Bt Go.RowKit
section
variable {V : Type} {k : Ky} {D : List (DP V)}
theorem erase_map9 {i : Nat} : (D.eraseIdx i).map Prod.snd = (D.map Prod.snd).eraseIdx i := map_erase9.symm
theorem drop_found (hc : (kys D).contains k = true) : dropT 0 k ((D.map Prod.snd : List (Ky × V)) : Tr V 0) = (true, (((D.eraseIdx (pos (kys D) k)).map Prod.snd : List (Ky × V)) : Tr V 0)) := by
  rw [drop0]
  have hh : hasK (D.map Prod.snd) k = true := hc
  rw [if_pos hh, erase_map9]
  rfl
theorem drop_miss (hc : (kys D).contains k = false) : dropT 0 k ((D.map Prod.snd : List (Ky × V)) : Tr V 0) = (false, ((D.map Prod.snd : List (Ky × V)) : Tr V 0)) := by
  rw [drop0]
  have hh : ¬ hasK (D.map Prod.snd) k = true := by show ¬ (kys D).contains k = true; rw [hc]; decide
  rw [if_neg hh]
variable {h i : Nat} {K : List DK} {ts : List (Tr V h)} {c : Tr V h}
theorem drop_few (hc : ts[way (K.map Prod.snd) k]? = some c) (hs : szT h (dropT h k c).2 < 3) : dropT (h + 1) k ((K.map Prod.snd, ts) : Tr V (h + 1)) = ((dropT h k c).1, mendsT h ((K.map Prod.snd, ts.set (way (K.map Prod.snd) k) (dropT h k c).2) : Tr V (h + 1)) (way (K.map Prod.snd) k)) := by
  rw [drops, getD_of hc]
  exact congrArg (Prod.mk _) (if_pos hs)
theorem drop_enough (hc : ts[way (K.map Prod.snd) k]? = some c) (hs : ¬ szT h (dropT h k c).2 < 3) : dropT (h + 1) k ((K.map Prod.snd, ts) : Tr V (h + 1)) = ((dropT h k c).1, ((K.map Prod.snd, ts.set (way (K.map Prod.snd) k) (dropT h k c).2) : Tr V (h + 1))) := by
  rw [drops, getD_of hc]
  exact congrArg (Prod.mk _) (if_neg hs)
variable {κ : Kd V} {R R' W F H : Nat → Prop} {w w' : World} {p q : Nat} {o : TO V} {t : Tr V h}
theorem root_view : ∀ {h q : Nat} {t : Tr V h} {W : Nat → Prop}, TreeR κ R w h q t W → Ok h t → ∃ L, NodeV κ w.heap.size w q (szT h t) L ∧ (L.length = 1 → ∃ W', TreeO κ R w (shrunk h t) (L.getD 0 default) W' ∧ ∀ k, W' k → W k) ∧ (L.length ≠ 1 → szT h t = 0 → shrunk h t = none) ∧ (L.length ≠ 1 → szT h t ≠ 0 → shrunk h t = some ⟨h, t⟩)
  | 0, q, t, W, T, O => by
    refine ⟨[], leaf_view T, fun e => absurd e (by decide), fun _ e => ?_, fun _ e => ?_⟩
    · exact if_pos e
    · exact if_neg e
  | h + 1, q, t, W, T, O => by
    have hk : t.2.length = t.1.length + 1 := (ok_node.1 (show Ok (h + 1) ((t.1, t.2) : Tr V (h + 1)) from O)).1.1
    obtain ⟨L, G, hV, hKs, hG⟩ := node_view T hk
    have hl : L.length = t.2.length := Kids.len hKs
    refine ⟨L, hV, fun e => ?_, fun e e2 => ?_, fun e e2 => ?_⟩
    · have hc : t.2[0]? = some (t.2[0]'(by omega)) := List.getElem?_eq_getElem (by omega)
      obtain ⟨f, hf, hfG⟩ := Kids.get hKs hc
      have es : shrunk (h + 1) t = some ⟨h, t.2.getD 0 default⟩ := if_pos (by omega)
      rw [es, getD_of hc]
      exact ⟨f, hf, fun k hk => hG k (hfG k hk)⟩
    · have : t.1.length = 0 := e2
      omega
    · exact if_neg (by omega)
theorem Kids.snoc {α : Type} {A : Nat → α → (Nat → Prop) → Prop} {P : List Nat} {zs : List α} {G f : Nat → Prop} {q : Nat} {a : α} (K : Kids A P zs G) (hA : A q a f) (hd : Dj f G) : Kids A (P ++ [q]) (zs ++ [a]) (fun k => f k ∨ G k) := by
  have hl := Kids.len K
  have := K.ins (i := zs.length) (Nat.le_refl _) hA hd
  rw [insIdx _ (Nat.le_refl _), insIdx _ (by omega), List.take_of_length_le (Nat.le_refl _), List.drop_eq_nil_of_le (Nat.le_refl _), List.take_of_length_le (by omega), List.drop_eq_nil_of_le (by omega)] at this
  exact this
theorem take_snoc {α : Type} {l : List α} {i : Nat} {a : α} (h : l[i]? = some a) : l.take (i + 1) = l.take i ++ [a] := by
  obtain ⟨hi, rfl⟩ := List.getElem?_eq_some_iff.1 h
  rw [List.take_add_one, List.getElem?_eq_getElem hi]; rfl
theorem nodeW_ge {n p : Nat} {kv cv : Value} {G : Nat → Prop} (hp : n ≤ p) (hk : ∀ j, Bl kv j → n ≤ j) (hc : ∀ j, Bl cv j → n ≤ j) (hg : ∀ j, G j → n ≤ j) : ∀ j, nodeW p kv cv G j → n ≤ j := fun j h => by
  rcases h with rfl | h | h | h
  · exact hp
  · exact hk j h
  · exact hc j h
  · exact hg j h
end
end Go.Gx

namespace Go.Proofs.Ytcpfdfejojghbaa
open Go.Gx Go.RowKit
attribute [local irreducible] wpList wpStill Code.wp Calls
open Go.Bt
def Drop (h : Nat) : Prop := ∀ ⦃k : List UInt8⦄ ⦃xv : Value⦄ ⦃R W : Nat → Prop⦄ ⦃p : Nat⦄ ⦃t : Tr Int h⦄ ⦃w : World⦄, TreeR kI R w h p t W → Ok h t → szT h t ≤ 6 → (h = 0 ∨ 1 ≤ szT h t) → RdC w 0 w.heap.size 1 xv k.length (k.map u8v) →
  Ret Try.prog 51 #[ptr p 0, xv] w (fun v' w' => Gr w w' W ∧ v' = .bool (dropT h k t).1 ∧ ∃ W', TreeR kI R w' h p (dropT h k t).2 W' ∧ NewF w.heap.size W W')
theorem dropLf {k : List UInt8} {xv : Value} {R W : Nat → Prop} {p : Nat} {pv : Value} {D : List (DP Int)} {w : World} (hL : LeafR kI R w p pv D W) (hs : Sorted (kys D)) (hn : D.length ≤ 7) (hxr : RdC w 0 w.heap.size 1 xv k.length (k.map u8v)) : Ret Try.prog 51 #[(ptr p 0), xv] w (fun v' w' => Gr w w' W ∧ v' = .bool (dropT 0 k ((D.map Prod.snd : List (Ky × Int)) : Tr Int 0)).1 ∧ ∃ W', TreeR kI R w' 0 p (dropT 0 k ((D.map Prod.snd : List (Ky × Int)) : Tr Int 0)).2 W' ∧ NewF w.heap.size W W') := by
 have hx : Bx w p 115 [pv, .slice none 0 0, .slice none 0 0] := hL.bx
 have op : Own w 0 51 2 pv D.length (D.flatMap cI) := hL.op
 have ks := hL.ks
 have hi_p := hx.lt
 have hb := Gr.refl w W
 refine enter (N := 55) Try.func51 rfl rfl (by simp) fun a0 hN hd hA => ?_
 have s0 : a0.tmps.getD 0 undef = (ptr p 0) := hA 0 (by simp)
 have s1 : a0.tmps.getD 1 undef = xv := hA 1 (by simp)
 clear hA
 refine seq_any fun K2 hK2 => one_reg (op_assign rfl ?_)
 refine reg_nil (hK2 _ _ (seq_any fun K3 hK3 => seq_any fun K4 hK4 => one_reg (op_move (ev_base hN rfl s0) (op_fn (vs := [(ptr p 0)]) ok81 ⟨(ev_hit hN rfl), trivial⟩ (Ret.flip (leafLI hx op)) ?_))))
 rintro _ _ ⟨rfl, rfl⟩
 refine reg_nil ?_
 refine hK4 _ _ (wp_cond_true (ev_hit hN rfl) (seq_any fun K5 hK5 => one_reg (op_move (ev_base hN rfl s0) (op_move (ev_base hN rfl s1) (op_fn (vs := [(ptr p 0), xv]) ok82 ⟨(ev_hit hN rfl), ⟨(ev_hit hN rfl), trivial⟩⟩ (findI hx op ks hs (by omega) (hxr.mono (Nat.zero_le _) (by omega))) ?_)))))
 rintro _ w7 ⟨E10, rfl⟩
 have E10 := grown_of_below E10
 have z_w7 := E10.size
 have hx := hx.keep0 E10
 have op := op.keep0 E10
 have ks := all9 ks fun _ h => h.keep0 E10
 have hb := hb.step0 E10
 refine op_move (ev_hit hN rfl) (op_extract (ev_hit hN rfl) rfl ?_)
 refine op_extract (ev_hit hN rfl) rfl ?_
 refine op_assign (ev_hit hN rfl) ?_
 rcases Bool.eq_false_or_eq_true (((kys D).contains k)) with c6 | c6
 ·
  rw [c6]
  refine op_assign (ev_hit hN rfl) (reg_nil (hK5 _ _ (seq_any fun K11 hK11 => ?_)))
  refine seq_any fun K12 hK12 => one_reg (op_move (ev_hit hN rfl) (reg_nil (hK12 _ _ (wp_cond_true (ev_hit hN rfl) (one_reg ?_)))))
  have hpl := pos_ltP hs c6
  skip
  refine op_move (ev_base hN rfl s0) ?_
  refine op_move (ev_base hN rfl s0) (op_nil (ev_hit hN rfl) (op_field fld115_0 (ev_hit hN rfl) (op_load1 (v := pv) one48 (ev_hit hN rfl) (hx.cell rfl) (op_move (ev_hit hN rfl) (op_move (ev_hit hN rfl) (op_add (ev_hit hN rfl) rfl (add64 (by omega)) ?_))))))
  refine op_fn (vs := [pv, (Value.int .i64 (((pos (kys D) k) : Nat) : Int)), (Value.int .i64 ((((pos (kys D) k) : Nat) : Int) + 1))]) ok87 ⟨(ev_hit hN rfl), ⟨(ev_hit hN rfl), ⟨(ev_hit hN rfl), trivial⟩⟩⟩ (DelI (i := (pos (kys D) k)) op (one_pI ks (fun _ h => h)) (by omega) (by omega)) ?_
  rintro v13 w14 ⟨E15, hO13, hm13⟩
  have hm13 : v13.ownBlock = pv.ownBlock ∨ ∀ k, v13.ownBlock = some k → w7.heap.size ≤ k := .inl hm13
  have hin16 := inF_step (n := w.heap.size) hm13 (by omega) (fun k _ h => hL.wv k h)
  have z_w14 := E15.size
  have hx := hx.keepO op E15 (by decide)
  have ks := all9 ks fun _ h => h.keepT op E15 (by decide)
  have hb := hb.stepL E15 (fun k _ h => hL.wv k h)
  have hO13 : Own w14 0 51 2 v13 (D.eraseIdx (pos (kys D) k)).length ((D.eraseIdx (pos (kys D) k)).flatMap cI) := hO13.cast (by rw [List.length_eraseIdx, if_pos (by omega)]) (flat_del cI_len _ _)
  refine op_nil (ev_hit hN rfl) (op_field fld115_0 (ev_hit hN rfl) ?_)
  have hx_old := hx
  refine op_store (vs := [v13]) (cs' := [v13, (Value.slice none 0 0), (Value.slice none 0 0)]) size48 (ev_hit hN rfl) (ev_hit hN rfl) hO13.cl rfl (by simp only [List.all_cons, List.all_nil, Bool.true_and, Bool.and_true, hO13.one]; try rfl) hx (Nat.le_of_ble_eq_true rfl) rfl ?_
  intro w17 hx E18
  have z_w17 := E18.size
  have ks := all9 ks fun _ h => h.keepX hx_old E18 (by decide)
  have hO13 := hO13.keepX hx_old E18 (by decide)
  have hb := hb.stepB E18 hL.wp
  refine reg_nil (hK11 _ _ ?_)
  refine seq_any fun K19 hK19 => one_reg (op_move (ev_hit hN rfl) (op_assign (ev_hit hN rfl) (reg_nil (hK19 _ _ (wp_ret (then_ret ( ?_)))))))
  refine ret1 rfl hd (ev_hit hN rfl) ⟨_, rfl, ?_⟩
  rw [drop_found c6]
  exact ⟨hb, rfl, _, mkLeaf (D := D.eraseIdx (pos (kys D) k)) (κ := kI) hx hO13 (ks_sub ks (fun _ h => List.mem_of_mem_eraseIdx h)) (ks_sub hL.kr (fun _ h => List.mem_of_mem_eraseIdx h)) rfl, (newF_in (leafW_in (fun _ => hL.wp) hin16))⟩
 ·
  rw [c6]
  refine op_assign (ev_hit hN rfl) (reg_nil (hK5 _ _ (seq_any fun K20 hK20 => seq_any fun K21 hK21 => ?_)))
  refine one_reg (op_move (ev_hit hN rfl) (reg_nil (hK21 _ _ (wp_cond_false (ev_hit hN rfl) (wp_skip (hK20 _ _ ?_))))))
  refine seq_any fun K22 hK22 => one_reg (op_move (ev_hit hN rfl) (op_assign (ev_hit hN rfl) (reg_nil (hK22 _ _ (wp_ret (then_ret ( ?_)))))))
  refine ret1 rfl hd (ev_hit hN rfl) ⟨_, rfl, ?_⟩
  rw [drop_miss c6]
  exact ⟨hb, rfl, _, mkLeaf (D := D) (κ := kI) hx op ks hL.kr rfl, (newF_in (leafW_in (fun _ => hL.wp) (fun k _ h => hL.wv k h)))⟩
theorem dropN {h : Nat} {k : List UInt8} {xv : Value} {R W G : Nat → Prop} {p : Nat} {kv cv : Value} {K : List DK} {P : List Nat} {cs : List (Tr Int h)} {w : World} (IH : Drop h) (hNd : NodeR kI R w p kv cv K P G W) (hKs : KidsR kI R w h P cs G) (hO : Nd h (K.map Prod.snd) cs) (hz : ∀ c ∈ cs, okSz h c) (hn : K.length ≤ 6) (h1K : 1 ≤ K.length) (hxr : RdC w 0 w.heap.size 1 xv k.length (k.map u8v)) : Ret Try.prog 51 #[(ptr p 0), xv] w (fun v' w' => Gr w w' W ∧ v' = .bool (dropT (h + 1) k ((K.map Prod.snd, cs) : Tr Int (h + 1))).1 ∧ ∃ W', TreeR kI R w' (h + 1) p (dropT (h + 1) k ((K.map Prod.snd, cs) : Tr Int (h + 1))).2 W' ∧ NewF w.heap.size W W') := by
 have hx : Bx w p 115 [.slice none 0 0, kv, cv] := hNd.bx
 have ok := hNd.ok
 have oc : Own w 0 69 1 cv P.length (P.flatMap cN) := hNd.oc
 have ks := hNd.ks
 have hs := hO.2.1
 have hi_p := hx.lt
 have hPc : P.length = cs.length := Kids.len hKs
 have hcl : cs.length = K.length + 1 := hO.1.trans (by simp)
 have hPl : P.length = K.length + 1 := hPc.trans hcl
 have hwl : (way (K.map Prod.snd) k) ≤ K.length := by have := way_le (K.map Prod.snd) k; simpa using this
 obtain ⟨c, hc, hcO, hcw⟩ := hO.at (i := (way (K.map Prod.snd) k)) (by simpa using hwl)
 have hic : (way (K.map Prod.snd) k) < cs.length := by omega
 obtain ⟨f, G0, hkid, hrest, hfG, hfs, hGs⟩ := Kids.cutc hKs hc
 have hkid : TreeR kI R w h (P.getD (way (K.map Prod.snd) k) default) c f := hkid
 have hrest : KidsR kI R w h (P.eraseIdx (way (K.map Prod.snd) k)) (cs.eraseIdx (way (K.map Prod.snd) k)) G0 := hrest
 have djpf : ¬ f p := fun q => hNd.np (hfs p q)
 have djpG : ¬ G0 p := fun q => hNd.np (hGs p q)
 have djkf := hNd.nk.mono hfs
 have djkG := hNd.nk.mono hGs
 have djcf := hNd.nc.mono hfs
 have djcG := hNd.nc.mono hGs
 have hdk := drop_ok (k := k) hcO (.inr (by have := (hz c (List.mem_of_getElem? hc)).1; omega))
 have hsh9 : ∀ c9 ∈ (cs.set (way (K.map Prod.snd) k) (dropT h k c).2), Ok h c9 ∧ szT h c9 ≤ 7 := fun c9 hc9 => (List.mem_or_eq_of_mem_set hc9).elim (fun q => by
     obtain ⟨m, hm, rfl⟩ := List.getElem_of_mem q
     exact ⟨(hO.2.2 m _ (List.getElem?_eq_getElem hm)).1, by have := (hz _ q).2; omega⟩) (fun q => by
     subst q
     exact ⟨hdk.2.1, by have := hdk.2.2.1; have := (hz c (List.mem_of_getElem? hc)).2; omega⟩)
 have hb := Gr.refl w W
 refine enter (N := 55) Try.func51 rfl rfl (by simp) fun a0 hN hd hA => ?_
 have s0 : a0.tmps.getD 0 undef = (ptr p 0) := hA 0 (by simp)
 have s1 : a0.tmps.getD 1 undef = xv := hA 1 (by simp)
 clear hA
 refine seq_any fun K4 hK4 => one_reg (op_assign rfl ?_)
 refine reg_nil (hK4 _ _ (seq_any fun K5 hK5 => seq_any fun K6 hK6 => one_reg (op_move (ev_base hN rfl s0) (op_fn (vs := [(ptr p 0)]) ok81 ⟨(ev_hit hN rfl), trivial⟩ (Ret.flip (leafNI hx ok oc (by omega) (by omega))) ?_))))
 rintro _ _ ⟨rfl, rfl⟩
 refine reg_nil (hK6 _ _ (wp_cond_false (ev_hit hN rfl) ?_))
 refine wp_skip (hK5 _ _ (seq_any fun K7 hK7 => one_reg (op_move (ev_base hN rfl s0) (op_move (ev_base hN rfl s1) (op_fn (vs := [(ptr p 0), xv]) ok84 ⟨(ev_hit hN rfl), ⟨(ev_hit hN rfl), trivial⟩⟩ (wayI hx ok oc ks hs (by omega) (hxr.mono (Nat.zero_le _) (by omega))) ?_)))))
 rintro _ w10 ⟨E11, rfl⟩
 have E11 := grown_of_below E11
 have z_w10 := E11.size
 have hx := hx.keep0 E11
 have ok := ok.keep0 E11
 have oc := oc.keep0 E11
 have ks := all9 ks fun _ h => h.keep0 E11
 have hxr := hxr.keep0 E11
 have hkid := hkid.kz E11
 have hrest := hrest.kz E11
 have hb := hb.step0 E11
 refine op_assign (ev_hit hN rfl) (reg_nil (hK7 _ _ (seq_any fun K12 hK12 => ?_)))
 refine one_reg (op_move (ev_base hN rfl s0) (op_nil (ev_hit hN rfl) (op_field fld115_2 (ev_hit hN rfl) (op_load1 (v := cv) one113 (ev_hit hN rfl) (hx.cell rfl) (op_move (ev_hit hN rfl) (op_index_rd slt113 (ev_hit hN rfl) oc.rdw (ev_hit hN rfl) (by omega) (by omega) ?_))))))
 intro b13 o14 h0b13 h1b13 hc15
 refine op_load1 (v := (ptr (P.getD ((way (K.map Prod.snd) k)) default) 0)) one69 (ev_hit hN rfl) (by have := hc15 0 (ptr (P.getD ((way (K.map Prod.snd) k)) default) 0) (by decide) (el_pn (i := ((way (K.map Prod.snd) k))) (by omega) (by first | omega | (simp only [List.length_drop, List.length_take]; omega))); simpa using this) (op_move (ev_base hN rfl s1) (op_fn (vs := [(ptr (P.getD ((way (K.map Prod.snd) k)) default) 0), xv]) ok51 ⟨(ev_hit hN rfl), ⟨(ev_hit hN rfl), trivial⟩⟩ (IH hkid hcO (by have := (hz c (List.mem_of_getElem? hc)).2; omega) (.inr (by have := (hz c (List.mem_of_getElem? hc)).1; omega)) (hxr.mono (Nat.le_refl _) (by omega))) ?_))
 rintro _ w17 ⟨E18, rfl, W1_16, hT16, hN1_16⟩
 have bd19 := hx.lt
 have bd21 := ok.lt
 have bd22 := oc.lt
 have bd23 := hrest.lt
 have hkid_old := hkid
 have z_w17 := E18.size
 have hx := hx.keepG E18 djpf
 have ok := ok.keepG E18 djkf
 have oc := oc.keepG E18 djcf
 have ks : ∀ x9 ∈ K, Own w17 0 5 1 x9.1 x9.2.length (x9.2.map u8v) := fun x9 hx9 => (ks x9 hx9).keepG E18 (hkid_old.notOwn (ks x9 hx9) (by decide) (by decide) (by decide) (by decide))
 have hrest := hrest.keepG E18 hfG.symm (hkid_old.noK kI_fine)
 have hb := hb.stepF E18 (fun k _ h => hNd.wg k (hfs k h))
 have dj24 : ¬ W1_16 p := ne_stepF hN1_16 bd19 djpf
 have dj25 : Dj (Bl kv) W1_16 := Dj.stepF hN1_16 (fun k hk => (bd21 k hk).2) djkf
 have dj26 : Dj (Bl cv) W1_16 := Dj.stepF hN1_16 (fun k hk => (bd22 k hk).2) djcf
 have dj27 : Dj G0 W1_16 := Dj.stepF hN1_16 (fun k hk => (bd23 k hk).2) hfG.symm
 have hin28 := in_newF (hN1_16.mono (t := w.heap.size) (by omega)) (fun k hk => hNd.wg k (hfs k hk))
 refine op_assign (ev_hit hN rfl) (reg_nil (hK12 _ _ (seq_any fun K29 hK29 => seq_any fun K30 hK30 => ?_)))
 refine one_reg (op_move (ev_base hN rfl s0) (op_nil (ev_hit hN rfl) (op_field fld115_2 (ev_hit hN rfl) (op_load1 (v := cv) one113 (ev_hit hN rfl) (hx.cell rfl) (op_move (ev_hit hN rfl) (op_index_rd slt113 (ev_hit hN rfl) oc.rdw (ev_hit hN rfl) (by omega) (by omega) ?_))))))
 intro b31 o32 h0b31 h1b31 hc33
 refine op_load1 (v := (ptr (P.getD ((way (K.map Prod.snd) k)) default) 0)) one69 (ev_hit hN rfl) (by have := hc33 0 (ptr (P.getD ((way (K.map Prod.snd) k)) default) 0) (by decide) (el_pn (i := ((way (K.map Prod.snd) k))) (by omega) (by first | omega | (simp only [List.length_drop, List.length_take]; omega))); simpa using this) (op_fn (vs := [(ptr (P.getD ((way (K.map Prod.snd) k)) default) 0)]) ok52 ⟨(ev_hit hN rfl), trivial⟩ (Ret.flip (sizeTree hT16 hdk.2.1)) ?_)
 rintro _ _ ⟨rfl, rfl⟩
 refine op_lss (ev_hit hN rfl) rfl (fun c50 => ?_) (fun c50 => ?_)
 ·
  refine reg_nil (hK30 _ _ (wp_cond_true (ev_hit hN rfl) (one_reg (op_move (ev_base hN rfl s0) (op_move (ev_hit hN rfl) ?_)))))
  have hT8 := (mkNode (κ := kI) (K := K) (P := P) hx ok oc ks hNd.kr (Kids.back1 (i := (way (K.map Prod.snd) k)) (A := TreeR kI R w17 h) hrest hPc hic hT16 dj27.symm) (fun h1 => (h1).elim (fun y0 => dj24 y0) (fun z0 => djpG z0)) (fun j h1 h2 => (h2).elim (fun y20 => dj25 _ h1 y20) (fun z20 => djkG _ h1 z20)) (fun j h1 h2 => (h2).elim (fun y20 => dj26 _ h1 y20) (fun z20 => djcG _ h1 z20)))
  have hN8 := (fun (j : Nat) (hj : j < w.heap.size) (h1 : nodeW p kv cv (fun k => W1_16 k ∨ G0 k) j) => (show W j from (h1).elim (fun y0 => (y0 ▸ hNd.wp)) (fun z0 => (z0).elim (fun y1 => (fun k _ h => hNd.wk k h) j hj y1) (fun z1 => (z1).elim (fun y2 => (fun k _ h => hNd.wc k h) j hj y2) (fun z2 => (z2).elim (fun y3 => (fun _ q => hin28 _ hj q) j y3) (fun z3 => (fun j q => hNd.wg j (hGs j q)) j z3))))))
  refine op_fn (vs := [(ptr p 0), (Value.int .i64 (((way (K.map Prod.snd) k) : Nat) : Int))]) ok88 ⟨(ev_hit hN rfl), ⟨(ev_hit hN rfl), trivial⟩⟩ (mendsTree (t := ((K.map Prod.snd, (cs.set (way (K.map Prod.snd) k) (dropT h k c).2)) : Tr Int (h + 1))) hT8 (by simp; omega) hsh9 (by simp; omega) (by simp; omega) (by simp; omega)) ?_
  rintro _ w34 ⟨E35, rfl, W9, hT9, hN9⟩
  have z_w34 := E35.size
  have hs8 : w.heap.size ≤ w17.heap.size := by omega
  have hb := hb.stepF E35 hN8
  refine reg_nil (hK29 _ _ ?_)
  refine seq_any fun K36 hK36 => one_reg (op_move (ev_hit hN rfl) (op_assign (ev_hit hN rfl) (reg_nil (hK36 _ _ (wp_ret ?_)))))
  refine ret1 rfl hd (ev_hit hN rfl) ⟨_, rfl, ?_⟩
  rw [drop_few hc (by omega)]
  exact ⟨hb, rfl, W9, hT9, NewF.trans (newF_in hN8) hN9 hs8⟩
 ·
  refine reg_nil (hK30 _ _ (wp_cond_false (ev_hit hN rfl) (wp_skip (hK29 _ _ ?_))))
  refine seq_any fun K37 hK37 => one_reg (op_move (ev_hit hN rfl) (op_assign (ev_hit hN rfl) (reg_nil (hK37 _ _ (wp_ret ?_)))))
  refine ret1 rfl hd (ev_hit hN rfl) ⟨_, rfl, ?_⟩
  rw [drop_enough hc (by omega)]
  have hT9 := (mkNode (κ := kI) (K := K) (P := P) hx ok oc ks hNd.kr (Kids.back1 (i := (way (K.map Prod.snd) k)) (A := TreeR kI R w17 h) hrest hPc hic hT16 dj27.symm) (fun h1 => (h1).elim (fun y0 => dj24 y0) (fun z0 => djpG z0)) (fun j h1 h2 => (h2).elim (fun y20 => dj25 _ h1 y20) (fun z20 => djkG _ h1 z20)) (fun j h1 h2 => (h2).elim (fun y20 => dj26 _ h1 y20) (fun z20 => djcG _ h1 z20)))
  exact ⟨hb, rfl, _, hT9, (newF_in (fun j hj h1 => (h1).elim (fun y0 => (y0 ▸ hNd.wp)) (fun z0 => (z0).elim (fun y1 => (fun k _ h => hNd.wk k h) j hj y1) (fun z1 => (z1).elim (fun y2 => (fun k _ h => hNd.wc k h) j hj y2) (fun z2 => (z2).elim (fun y3 => (fun _ q => hin28 _ hj q) j y3) (fun z3 => (fun j q => hNd.wg j (hGs j q)) j z3))))))⟩
theorem dropAll : ∀ h, Drop h
  | 0 => by
    intro k xv R W p t w T hO h6 _ hxr
    obtain ⟨pv, D, hL, e⟩ := T
    have e' : (D.map Prod.snd : List (Ky × Int)) = t := e
    subst e'
    exact dropLf hL (show Sorted ((D.map Prod.snd).map Prod.fst) from hO) (by have h9 : (D.map Prod.snd).length ≤ 6 := h6; rw [List.length_map] at h9; omega) hxr
  | h + 1 => by
    intro k xv R W p t w T hO h6 h1 hxr
    obtain ⟨kv, cv, K, P, G, hN, hKs, e⟩ := T
    obtain ⟨kl, cs⟩ := t
    have e' : K.map Prod.snd = kl := e
    subst e'
    obtain ⟨g1, g2⟩ := ok_node.1 hO
    exact dropN (dropAll h) hN hKs g1 g2 (by have h9 : (K.map Prod.snd).length ≤ 6 := h6; simpa using h9) (by have h9 : 1 ≤ (K.map Prod.snd).length := h1.resolve_left (by omega); simpa using h9) hxr
theorem dropT0 {p : Nat} {xv : Value} {w : World} (hx : Bx w p 71 [.pointer none]) : Ret Try.prog 28 #[(ptr p 0), xv] w (fun v' w' => Below w.heap.size w w' ∧ v' = .bool false) := by
 have hb := Below.refl w.heap.size w
 refine enter (N := 54) Try.func28 rfl rfl (by simp) fun a0 hN hd hA => ?_
 have s0 : a0.tmps.getD 0 undef = (ptr p 0) := hA 0 (by simp)
 clear hA
 refine seq_any fun K2 hK2 => one_reg (op_assign rfl ?_)
 refine reg_nil (hK2 _ _ (seq_any fun K3 hK3 => seq_any fun K4 hK4 => one_reg (op_move (ev_base hN rfl s0) (op_peq_some ptrt45 (ev_hit hN rfl) rfl ?_))))
 refine op_move (ev_hit hN rfl) (g_true (j := 2) (dj := 8) (b := false) rfl rfl rfl (ev_hit hN rfl) (op_move (ev_base hN rfl s0) (g_true (j := 2) (dj := 8) (b := false) rfl rfl rfl (ev_hit hN rfl) ?_)))
 refine op_nil (ev_hit hN rfl) (g_true (j := 2) (dj := 8) (b := false) rfl rfl rfl (ev_hit hN rfl) (op_field fld71_0 (ev_hit hN rfl) (g_true (j := 2) (dj := 8) (b := false) rfl rfl rfl (ev_hit hN rfl) (op_load1 (v := (Value.pointer none)) one69 (ev_hit hN rfl) (hx.cell rfl) (g_true (j := 2) (dj := 8) (b := false) rfl rfl rfl (ev_hit hN rfl) (op_peq_none ptrt69 (ev_hit hN rfl) rfl ?_))))))
 refine op_pick_f (ev_hit hN rfl) (ev_hit hN rfl) ?_
 refine reg_nil (hK4 _ _ ?_)
 refine wp_cond_true (ev_hit hN rfl) (seq_any fun K5 hK5 => one_reg (op_assign rfl (reg_nil (hK5 _ _ (wp_ret (then_ret ( ?_)))))))
 refine ret1 rfl hd (ev_hit hN rfl) ⟨_, rfl, ?_⟩
 exact ⟨hb, rfl⟩

theorem dropT1 {k : List UInt8} {xv : Value} {F : Nat → Prop} {p h q : Nat} {t : Tr Int h} {R W : Nat → Prop} {w : World} (hx : Bx w p 71 [ptr q 0]) (hFp : F p) (hT : TreeR kI R w h q t W) (hFW : ∀ j, W j → F j) (hO : Ok h t) (h1 : 1 ≤ szT h t) (h6 : szT h t ≤ 6) (hxr : RdC w 0 w.heap.size 1 xv k.length (k.map u8v)) : Ret Try.prog 28 #[(ptr p 0), xv] w (fun v' w' => Gr w w' F ∧ v' = .bool (dropT h k t).1 ∧ ((∃ q2 W2, Bx w' p 71 [ptr q2 0] ∧ TreeO kI R w' (shrunk h (dropT h k t).2) q2 W2 ∧ ∀ j, W2 j → F j ∨ w.heap.size ≤ j) ∨ (Bx w' p 71 [.pointer none] ∧ shrunk h (dropT h k t).2 = none))) := by
 have hi_p := hx.lt
 have hT1 := hT
 have djp : ¬ W p := hT.notBx hx (by decide) (by decide) (by decide) (by decide)
 have hb := Gr.refl w F
 refine enter (N := 54) Try.func28 rfl rfl (by simp) fun a0 hN hd hA => ?_
 have s0 : a0.tmps.getD 0 undef = (ptr p 0) := hA 0 (by simp)
 have s1 : a0.tmps.getD 1 undef = xv := hA 1 (by simp)
 clear hA
 refine seq_any fun K7 hK7 => one_reg (op_assign rfl ?_)
 refine reg_nil (hK7 _ _ (seq_any fun K10 hK10 => seq_any fun K11 hK11 => one_reg (op_move (ev_base hN rfl s0) (op_peq_some ptrt45 (ev_hit hN rfl) rfl ?_))))
 refine op_move (ev_hit hN rfl) (g_true (j := 2) (dj := 8) (b := false) rfl rfl rfl (ev_hit hN rfl) (op_move (ev_base hN rfl s0) (g_true (j := 2) (dj := 8) (b := false) rfl rfl rfl (ev_hit hN rfl) ?_)))
 refine op_nil (ev_hit hN rfl) (g_true (j := 2) (dj := 8) (b := false) rfl rfl rfl (ev_hit hN rfl) (op_field fld71_0 (ev_hit hN rfl) (g_true (j := 2) (dj := 8) (b := false) rfl rfl rfl (ev_hit hN rfl) (op_load1 (v := (ptr q 0)) one69 (ev_hit hN rfl) (hx.cell rfl) (g_true (j := 2) (dj := 8) (b := false) rfl rfl rfl (ev_hit hN rfl) (op_peq_some ptrt69 (ev_hit hN rfl) rfl ?_))))))
 refine op_pick_f (ev_hit hN rfl) (ev_hit hN rfl) ?_
 refine reg_nil (hK11 _ _ (wp_cond_false (ev_hit hN rfl) (wp_skip (hK10 _ _ (seq_any fun K12 hK12 => ?_)))))
 refine one_reg (op_move (ev_base hN rfl s0) (op_nil (ev_hit hN rfl) (op_field fld71_0 (ev_hit hN rfl) (op_load1 (v := (ptr q 0)) one69 (ev_hit hN rfl) (hx.cell rfl) (op_move (ev_base hN rfl s1) (op_fn (vs := [(ptr q 0), xv]) ok51 ⟨(ev_hit hN rfl), ⟨(ev_hit hN rfl), trivial⟩⟩ (dropAll h hT1 hO h6 (.inr h1) hxr) ?_))))))
 rintro _ w14 ⟨E15, rfl, W1_13, hT13, hN1_13⟩
 have bd16 := hx.lt
 have z_w14 := E15.size
 have hx := hx.keepG E15 djp
 have hb := hb.stepF E15 (fun k _ h => hFW k h)
 have hin17 : ∀ j, W1_13 j → F j ∨ w.heap.size ≤ j := fun j hj => (hN1_13 j hj).imp (hFW j) (fun h => by omega)
 obtain ⟨L9, ⟨hpB, pv13, kv13, cv13, a_13, b_13, ca13, cb13, hxq13, h2_13, h3_13, h4_13, h5_13⟩, hr1, hr2, hr3⟩ := root_view hT13 (drop_ok hO (.inr h1)).2.1
 have hxq13 : Bx w14 q 115 [pv13, kv13, cv13] := hxq13
 refine op_assign (ev_hit hN rfl) (reg_nil (hK12 _ _ (seq_any fun K18 hK18 => wp_block ?_)))
 refine seq_any fun K19 hK19 => one_reg (op_move (ev_base hN rfl s0) ?_)
 refine op_nil (ev_hit hN rfl) (op_field fld71_0 (ev_hit hN rfl) (op_load1 (v := (ptr q 0)) one69 (ev_hit hN rfl) (hx.cell rfl) (op_nil (ev_hit hN rfl) (op_field fld115_2 (ev_hit hN rfl) (op_load1 (v := cv13) one113 (ev_hit hN rfl) (hxq13.cell rfl) (op_len_rd Try.underlying113 (ev_hit hN rfl) h4_13 ?_))))))
 refine op_eql (ev_hit hN rfl) rfl (fun c30 => ?_) (fun c30 => ?_)
 ·
  refine op_assign (ev_hit hN rfl) (reg_nil (hK19 _ _ (wp_cond_true (ev_hit hN rfl) (one_reg ?_))))
  obtain ⟨W8, hT8, hs8⟩ := hr1 (by omega)
  have dj8 : ¬ W8 p := fun z => hT13.notBx hx (by decide) (by decide) (by decide) (by decide) (hs8 _ z)
  refine op_move (ev_base hN rfl s0) (op_move (ev_base hN rfl s0) ?_)
  refine op_nil (ev_hit hN rfl) (op_field fld71_0 (ev_hit hN rfl) (op_load1 (v := (ptr q 0)) one69 (ev_hit hN rfl) (hx.cell rfl) (op_nil (ev_hit hN rfl) (op_field fld115_2 (ev_hit hN rfl) (op_load1 (v := cv13) one113 (ev_hit hN rfl) (hxq13.cell rfl) (op_index_rd slt113 (ev_hit hN rfl) h4_13 rfl (by omega) (by omega) ?_))))))
  intro b20 o21 h0b20 h1b20 hc22
  refine op_load1 (v := (ptr (L9.getD 0 default) 0)) one69 (ev_hit hN rfl) (by have := hc22 0 (ptr (L9.getD 0 default) 0) (by decide) (el_pn (i := 0) (by omega) (by first | omega | (simp only [List.length_drop, List.length_take]; omega))); simpa using this) ?_
  skip
  refine op_nil (ev_hit hN rfl) (op_field fld71_0 (ev_hit hN rfl) ?_)
  have hx_old := hx
  refine op_store (vs := [(ptr (L9.getD 0 default) 0)]) (cs' := [(ptr (L9.getD 0 default) 0)]) size69 (ev_hit hN rfl) (ev_hit hN rfl) rfl rfl rfl hx (Nat.le_of_ble_eq_true rfl) rfl ?_
  intro w23 hx E24
  have z_w23 := E24.size
  have hT8 := hT8.keepG (Gr.of E24) (Dj.one dj8) (NoK.ofBx hx_old (by decide))
  have hb := hb.stepB E24 hFp
  refine reg_nil (hK18 _ _ ?_)
  refine seq_any fun K25 hK25 => one_reg (op_move (ev_hit hN rfl) (op_assign (ev_hit hN rfl) (reg_nil (hK25 _ _ (wp_ret ?_)))))
  refine ret1 rfl hd (ev_hit hN rfl) ⟨_, rfl, ?_⟩
  exact ⟨hb, rfl, .inl ⟨_, W8, hx, hT8, fun j hj => hin17 j (hs8 j hj)⟩⟩
 ·
  refine op_assign (ev_hit hN rfl) (reg_nil (hK19 _ _ (wp_cond_false (ev_hit hN rfl) ?_)))
  refine seq_any fun K26 hK26 => one_reg (op_move (ev_base hN rfl s0) (op_nil (ev_hit hN rfl) (op_field fld71_0 (ev_hit hN rfl) (op_load1 (v := (ptr q 0)) one69 (ev_hit hN rfl) (hx.cell rfl) (op_fn (vs := [(ptr q 0)]) ok52 ⟨(ev_hit hN rfl), trivial⟩ (Ret.flip (sizeUI hxq13 h2_13 h3_13 h4_13 h5_13)) ?_)))))
  rintro _ _ ⟨rfl, rfl⟩
  refine op_eql (ev_hit hN rfl) rfl (fun c49 => ?_) (fun c49 => ?_)
  ·
   refine op_assign (ev_hit hN rfl) (reg_nil (hK26 _ _ (wp_cond_true (ev_hit hN rfl) (one_reg ?_))))
   skip
   refine op_move (ev_base hN rfl s0) (op_nil (ev_hit hN rfl) (op_field fld71_0 (ev_hit hN rfl) (op_store (vs := [(Value.pointer none)]) (cs' := [(Value.pointer none)]) size69 (ev_hit hN rfl) rfl rfl rfl rfl hx (Nat.le_of_ble_eq_true rfl) rfl ?_)))
   intro w27 hx E28
   have z_w27 := E28.size
   have hb := hb.stepB E28 hFp
   refine reg_nil (hK18 _ _ ?_)
   refine seq_any fun K29 hK29 => one_reg (op_move (ev_hit hN rfl) (op_assign (ev_hit hN rfl) (reg_nil (hK29 _ _ (wp_ret ?_)))))
   refine ret1 rfl hd (ev_hit hN rfl) ⟨_, rfl, ?_⟩
   exact ⟨hb, rfl, .inr ⟨hx, hr2 (by omega) (by omega)⟩⟩
  ·
   refine op_assign (ev_hit hN rfl) (reg_nil (hK26 _ _ (wp_cond_false (ev_hit hN rfl) (wp_skip (hK18 _ _ ?_)))))
   refine seq_any fun K31 hK31 => one_reg (op_move (ev_hit hN rfl) (op_assign (ev_hit hN rfl) (reg_nil (hK31 _ _ (wp_ret ?_)))))
   refine ret1 rfl hd (ev_hit hN rfl) ⟨_, rfl, ?_⟩
   exact ⟨hb, rfl, .inl ⟨q, _, hx, by rw [hr3 (by omega) (by omega)]; exact hT13, hin17⟩⟩
end Go.Proofs.Ytcpfdfejojghbaa

namespace Go.Bt
section
variable {V : Type} {h : Nat} {k x y : Ky} {v : V} {o : TO V} {l : List (Ky × V)}
abbrev ks1 (l : List (Ky × V)) : List Ky := l.map Prod.fst
abbrev SortedL (l : List (Ky × V)) : Prop := Sorted (ks1 l)
def ltL (x : Ky) (l : List (Ky × V)) : List (Ky × V) := l.filter fun p => decide (p.1 < x)
def gtL (x : Ky) (l : List (Ky × V)) : List (Ky × V) := l.filter fun p => decide (x < p.1)
def putL (k : Ky) (v : V) (l : List (Ky × V)) : List (Ky × V) := ltL k l ++ (k, v) :: gtL k l
def dropL (k : Ky) (l : List (Ky × V)) : List (Ky × V) := ltL k l ++ gtL k l
def getL (k : Ky) (l : List (Ky × V)) : Option V := (l.find? fun p => decide (p.1 = k)).map Prod.snd
theorem mem_ltL {p : Ky × V} : p ∈ ltL k l ↔ p ∈ l ∧ p.1 < k := by simp [ltL]
theorem mem_gtL {p : Ky × V} : p ∈ gtL k l ↔ p ∈ l ∧ k < p.1 := by simp [gtL]
theorem sub_sorted (P : Ky × V → Bool) (H : SortedL l) : SortedL (l.filter P) := List.Pairwise.sublist (List.Sublist.map _ List.filter_sublist) H
theorem sorted_app {a b : List (Ky × V)} : SortedL (a ++ b) ↔ SortedL a ∧ SortedL b ∧ ∀ p ∈ a, ∀ q ∈ b, p.1 < q.1 := by
  show List.Pairwise _ ((a ++ b).map Prod.fst) ↔ _
  rw [List.map_append, List.pairwise_append]
  refine and_congr Iff.rfl (and_congr Iff.rfl ⟨fun H p hp q hq => H _ (List.mem_map.2 ⟨p, hp, rfl⟩) _ (List.mem_map.2 ⟨q, hq, rfl⟩), fun H a ha b hb => ?_⟩)
  obtain ⟨p, hp, rfl⟩ := List.mem_map.1 ha
  obtain ⟨q, hq, rfl⟩ := List.mem_map.1 hb
  exact H p hp q hq
theorem sorted_cons {p : Ky × V} {b : List (Ky × V)} : SortedL (p :: b) ↔ (∀ q ∈ b, p.1 < q.1) ∧ SortedL b := by
  show List.Pairwise _ (p.1 :: b.map Prod.fst) ↔ _
  rw [List.pairwise_cons]
  refine and_congr ⟨fun H q hq => H _ (List.mem_map.2 ⟨q, hq, rfl⟩), fun H a ha => ?_⟩ Iff.rfl
  obtain ⟨q, hq, rfl⟩ := List.mem_map.1 ha
  exact H q hq
theorem putL_sorted (H : SortedL l) : SortedL (putL k v l) := by
  refine sorted_app.2 ⟨sub_sorted _ H, sorted_cons.2 ⟨fun q hq => (mem_gtL.1 hq).2, sub_sorted _ H⟩, fun p hp q hq => ?_⟩
  have h1 := (mem_ltL.1 hp).2
  rcases List.mem_cons.1 hq with rfl | hq
  · exact h1
  · have := (mem_gtL.1 hq).2; grind
theorem dropL_sorted (H : SortedL l) : SortedL (dropL k l) :=
  sorted_app.2 ⟨sub_sorted _ H, sub_sorted _ H, fun p hp q hq => by have := (mem_ltL.1 hp).2; have := (mem_gtL.1 hq).2; grind⟩
theorem mem_putL {p : Ky × V} : p ∈ putL k v l ↔ p = (k, v) ∨ (p.1 ≠ k ∧ p ∈ l) := by
  unfold putL
  rw [List.mem_append, List.mem_cons, mem_ltL, mem_gtL]
  grind
theorem mem_dropL {p : Ky × V} : p ∈ dropL k l ↔ p.1 ≠ k ∧ p ∈ l := by
  unfold dropL
  rw [List.mem_append, mem_ltL, mem_gtL]
  grind
theorem put_toL (H : OkO o) : toLO (putO k v o).2 = putL k v (toLO o) := by
  obtain ⟨a, _, b⟩ := putO_ok (k := k) (x := v) H
  exact sorted_ext (toLO_sorted a) (putL_sorted (toLO_sorted H)) fun p => (b p).trans mem_putL.symm
theorem drop_toL (H : OkO o) : toLO (dropO k o).2 = dropL k (toLO o) := by
  obtain ⟨a, _, b⟩ := dropO_ok (k := k) H
  exact sorted_ext (toLO_sorted a) (dropL_sorted (toLO_sorted H)) fun p => (b p).trans mem_dropL.symm
theorem has_iff : (ks1 l).contains k = true ↔ ∃ p ∈ l, p.1 = k := by rw [List.contains_iff_mem, List.mem_map]
theorem put_was (H : OkO o) : (putO k v o).1 = (ks1 (toLO o)).contains k := Bool.eq_iff_iff.2 ((putO_ok H).2.1.trans has_iff.symm)
theorem drop_was (H : OkO o) : (dropO k o).1 = (ks1 (toLO o)).contains k := Bool.eq_iff_iff.2 ((dropO_ok H).2.1.trans has_iff.symm)
/-! as positions -/
theorem pos_cons {ks : List Ky} {y : Ky} : pos (y :: ks) x = pos ks x + if y < x then 1 else 0 := by
  unfold pos; rw [List.countP_cons]; simp
theorem pos_zero {ks : List Ky} (h : ∀ y ∈ ks, ¬ y < x) : pos ks x = 0 := by
  unfold pos; rw [List.countP_eq_zero]; intro a ha; simpa using h a ha
theorem ltL_take : ∀ {l : List (Ky × V)}, SortedL l → ltL x l = l.take (pos (ks1 l) x)
  | [], _ => rfl
  | p :: l, H => by
    obtain ⟨h1, h2⟩ := sorted_cons.1 H
    have ih := ltL_take h2
    have e : pos (ks1 (p :: l)) x = pos (ks1 l) x + if p.1 < x then 1 else 0 := pos_cons
    rw [e]
    by_cases hp : p.1 < x
    · rw [if_pos hp, List.take_succ_cons, ← ih]; simp [ltL, hp]
    · rw [if_neg hp]
      have z : pos (ks1 l) x = 0 := pos_zero fun y hy => by
        obtain ⟨q, hq, rfl⟩ := List.mem_map.1 hy
        have := h1 q hq; grind
      rw [z] at ih ⊢
      show ltL x (p :: l) = []
      have : ltL x (p :: l) = ltL x l := by simp [ltL, hp]
      rw [this, ih]; rfl
theorem gtL_drop : ∀ {l : List (Ky × V)}, SortedL l → gtL x l = l.drop (pos (ks1 l) x + if (ks1 l).contains x then 1 else 0)
  | [], _ => rfl
  | p :: l, H => by
    obtain ⟨h1, h2⟩ := sorted_cons.1 H
    have ih := gtL_drop h2
    have e : pos (ks1 (p :: l)) x = pos (ks1 l) x + if p.1 < x then 1 else 0 := pos_cons
    have ec : (ks1 (p :: l)).contains x = (x == p.1 || (ks1 l).contains x) := rfl
    rw [e, ec]
    by_cases hp : p.1 < x
    · rw [if_pos hp]
      have e1 : (x == p.1) = false := by simp only [beq_eq_false_iff_ne]; intro e; grind
      rw [e1, Bool.false_or, show ∀ a b : Nat, a + 1 + b = a + b + 1 by intro a b; omega, List.drop_succ_cons, ← ih]
      have : ¬ x < p.1 := by grind
      simp [gtL, this]
    · rw [if_neg hp]
      have z : pos (ks1 l) x = 0 := pos_zero fun y hy => by
        obtain ⟨q, hq, rfl⟩ := List.mem_map.1 hy
        have := h1 q hq; grind
      have c : (ks1 l).contains x = false := by
        rw [Bool.eq_false_iff]; intro h
        obtain ⟨q, hq, rfl⟩ := has_iff.1 h
        exact hp (h1 q hq)
      have a : gtL x l = l := by rw [ih, z, c]; rfl
      rw [z, c, Bool.or_false]
      by_cases hx : x = p.1
      · subst hx
        have : ¬ p.1 < p.1 := by grind
        simp only [beq_self_eq_true, if_true, Nat.zero_add, List.drop_succ_cons, List.drop_zero]
        rw [← a]; simp [gtL, this]
      · have e1 : (x == p.1) = false := by simpa using hx
        rw [e1]
        have : x < p.1 := by grind
        show gtL x (p :: l) = p :: l
        have e2 : gtL x (p :: l) = p :: gtL x l := by simp [gtL, this]
        rw [e2, a]
theorem putL_pos (H : SortedL l) : putL k v l = l.take (pos (ks1 l) k) ++ (k, v) :: l.drop (pos (ks1 l) k + if (ks1 l).contains k then 1 else 0) := by
  unfold putL; rw [ltL_take H, gtL_drop H]
theorem dropL_pos (H : SortedL l) : dropL k l = l.take (pos (ks1 l) k) ++ l.drop (pos (ks1 l) k + if (ks1 l).contains k then 1 else 0) := by
  unfold dropL; rw [ltL_take H, gtL_drop H]
theorem putL_len (H : SortedL l) : (putL k v l).length = l.length + if (ks1 l).contains k then 0 else 1 := by
  rw [putL_pos H, List.length_append, List.length_cons, List.length_take, List.length_drop]
  have h1 := pos_le (ks1 l) k
  have h2 : (ks1 l).length = l.length := List.length_map ..
  by_cases hc : (ks1 l).contains k = true
  · obtain ⟨h, _⟩ := pos_hit (show Sorted (ks1 l) from H) (List.contains_iff_mem.1 hc)
    rw [if_pos hc, if_pos hc]; omega
  · rw [if_neg hc, if_neg hc]; omega
theorem dropL_len (H : SortedL l) : (dropL k l).length + (if (ks1 l).contains k then 1 else 0) = l.length := by
  rw [dropL_pos H, List.length_append, List.length_take, List.length_drop]
  have h1 := pos_le (ks1 l) k
  have h2 : (ks1 l).length = l.length := List.length_map ..
  by_cases hc : (ks1 l).contains k = true
  · obtain ⟨h, _⟩ := pos_hit (show Sorted (ks1 l) from H) (List.contains_iff_mem.1 hc)
    rw [if_pos hc]; omega
  · rw [if_neg hc]; omega
theorem geL_pos (H : SortedL l) : geL x l = l.drop (pos (ks1 l) x) := geL_leaf H
theorem getL_hit (H : SortedL l) {q : Ky × V} {r : List (Ky × V)} (h : (geL x l).take 1 = q :: r) (e : q.1 = x) : getL x l = some q.2 := by
  have hq : q ∈ geL x l := List.mem_of_mem_take (h ▸ List.mem_cons_self ..)
  have hq : q ∈ l := (List.mem_filter.1 hq).1
  have hf : (l.find? fun p => decide (p.1 = x)).isSome = true := by rw [List.find?_isSome]; exact ⟨q, hq, by simpa using e⟩
  obtain ⟨p, hp⟩ := Option.isSome_iff_exists.1 hf
  have h1 := List.mem_of_find?_eq_some hp
  have h2 : p.1 = x := by simpa using List.find?_some hp
  have : p = q := mem_key (show Sorted (l.map Prod.fst) from H) h1 hq (h2.trans e.symm)
  unfold getL; rw [hp, this]; rfl
theorem getL_none (h : ∀ p ∈ l, p.1 ≠ x) : getL x l = none := by
  unfold getL
  rw [List.find?_eq_none.2 fun p hp => by simpa using h p hp]; rfl
theorem getL_miss0 (h : (geL x l).take 1 = []) : getL x l = none := getL_none fun p hp e => by
  have h0 : geL x l = [] := by cases hg : geL x l with | nil => rfl | cons a t => rw [hg] at h; cases h
  have : p ∈ geL x l := by unfold geL; rw [List.mem_filter]; exact ⟨hp, by subst e; simp⟩
  rw [h0] at this; cases this
theorem getL_miss1 (H : SortedL l) {q : Ky × V} {r : List (Ky × V)} (h : (geL x l).take 1 = q :: r) (e : q.1 ≠ x) : getL x l = none := getL_none fun p hp e2 => by
  have hs := sub_sorted (fun p : Ky × V => decide (x ≤ p.1)) H
  have hg : ∃ t, geL x l = q :: t := by cases hg : geL x l with | nil => rw [hg] at h; cases h | cons a t => rw [hg, List.take_succ_cons] at h; injection h with h1 h2; exact ⟨t, by rw [h1]⟩
  obtain ⟨t, ht⟩ := hg
  have hp' : p ∈ geL x l := by unfold geL; rw [List.mem_filter]; exact ⟨hp, by subst e2; simp⟩
  have hq : x ≤ q.1 := by
    have : q ∈ geL x l := ht ▸ List.mem_cons_self ..
    simpa using (List.mem_filter.1 this).2
  have hs' : SortedL (q :: t) := ht ▸ hs
  rw [ht] at hp'
  rcases List.mem_cons.1 hp' with rfl | hp'
  · exact e e2
  · have := (sorted_cons.1 hs').1 p hp'; grind
end
end Go.Bt
namespace Go.Gx
open Go.Bt Go.RowKit
section
variable {V : Type} {κ : Kd V} {w w' : World} {F H : Nat → Prop} {base tT p n : Nat} {M : List (Ky × V)} {o : TO V}
def TopL (κ : Kd V) (tT base : Nat) (w : World) (p : Nat) (M : List (Ky × V)) (F : Nat → Prop) : Prop := ∃ o, TopR κ tT base w p o F ∧ toLO o = M
theorem TopL.lt (T : TopL κ tT base w p M F) : ∀ k, F k → base ≤ k ∧ k < w.heap.size := by obtain ⟨o, h, _⟩ := T; exact h.lt
theorem TopL.keepG (T : TopL κ tT base w p M F) (E : Gr w w' H) (hd : Dj F H) : TopL κ tT base w' p M F := by obtain ⟨o, h, e⟩ := T; exact ⟨o, h.keepG E hd, e⟩
theorem TopL.kz (T : TopL κ tT base w p M F) (E : w.grownBy w' none) : TopL κ tT base w' p M F := T.keepG (Gr.of0 E NoB) (fun _ _ h => h)
theorem TopL.sorted (T : TopL κ tT base w p M F) : SortedL M := by obtain ⟨o, h, rfl⟩ := T; exact toLO_sorted h.2.2.1
end
end Go.Gx

namespace Go.Bt
section
variable {V : Type} {h : Nat} {o : TO V}
def wantL (L : List (List Nat)) : Nat → Nat
  | 0 => 1
  | i + 1 => ((L.getD i []).map (· + 1)).sum
def Shp : Nat → Nat → List (List Nat) → Prop
  | _, _, [] => True
  | low, want, r :: rest => r.length = want ∧ (∀ n ∈ r, low ≤ n ∧ n ≤ 6) ∧ Shp 3 ((r.map (· + 1)).sum) rest
theorem Shp.at : ∀ {L : List (List Nat)} {low want i : Nat}, Shp low want L → i < L.length → (L.getD i []).length = (if i = 0 then want else wantL L i) ∧ ∀ n ∈ L.getD i [], (if i = 0 then low else 3) ≤ n ∧ n ≤ 6
  | [], _, _, _, _, hi => absurd hi (Nat.not_lt_zero _)
  | r :: rest, low, want, 0, H, _ => by obtain ⟨h1, h2, _⟩ := H; exact ⟨h1, h2⟩
  | r :: rest, low, want, i + 1, H, hi => by
    obtain ⟨h1, h2, h3⟩ := H
    have := Shp.at h3 (i := i) (by simpa using hi)
    rw [List.getD_cons_succ]
    refine ⟨?_, fun n hn => ?_⟩
    · rw [this.1, if_neg (Nat.succ_ne_zero i)]
      cases i with
      | zero => rfl
      | succ i => rw [if_neg (Nat.succ_ne_zero i)]; rfl
    · have q := this.2 n hn
      rw [if_neg (Nat.succ_ne_zero i)]
      refine ⟨?_, q.2⟩
      have := q.1
      split at this <;> exact this
theorem kids_sum {now : List (Tr V (h + 1))} (H : ∀ t ∈ now, t.2.length = t.1.length + 1) : (now.flatMap fun t => t.2).length = ((now.map (szT (h + 1))).map (· + 1)).sum := by
  induction now with
  | nil => rfl
  | cons t r ih =>
    rw [List.flatMap_cons, List.length_append, ih (fun t ht => H t (List.mem_cons_of_mem _ ht)), H t (List.mem_cons_self ..)]
    simp [szT]
theorem lvl_shp : ∀ {h : Nat} {now : List (Tr V h)} {low : Nat}, (∀ t ∈ now, Ok h t ∧ low ≤ szT h t ∧ szT h t ≤ 6) → Shp low now.length (lvl h now)
  | 0, now, low, H => by
    refine ⟨List.length_map .., fun n hn => ?_, trivial⟩
    obtain ⟨t, ht, rfl⟩ := List.mem_map.1 hn
    exact (H t ht).2
  | h + 1, now, low, H => by
    refine ⟨List.length_map .., fun n hn => ?_, ?_⟩
    · obtain ⟨t, ht, rfl⟩ := List.mem_map.1 hn
      exact (H t ht).2
    · have e := kids_sum (h := h) (now := now) fun t ht => (ok_node.1 (H t ht).1).1.1
      rw [← e]
      refine lvl_shp fun c hc => ?_
      obtain ⟨t, ht, hc⟩ := List.mem_flatMap.1 hc
      obtain ⟨N, hs⟩ := ok_node.1 (H t ht).1
      obtain ⟨i, hi, rfl⟩ := List.getElem_of_mem hc
      exact ⟨(N.2.2 i _ (List.getElem?_eq_getElem hi)).1, hs _ hc⟩
theorem levels_shp (H : OkO o) : Shp 1 1 (levels o) := by
  match o, H with
  | none, _ => trivial
  | some ⟨h, t⟩, H => exact lvl_shp (now := [t]) fun c hc => by rw [List.mem_singleton.1 hc]; exact ⟨H.1, H.2.1, H.2.2⟩
theorem levels_at (H : OkO o) {i : Nat} (hi : i < (levels o).length) : ((levels o).getD i []).length = wantL (levels o) i ∧ ∀ n ∈ (levels o).getD i [], 1 ≤ n ∧ n ≤ 6 ∧ (0 < i → 3 ≤ n) := by
  have a := (levels_shp H).at hi
  refine ⟨?_, fun n hn => ?_⟩
  · rw [a.1]; split
    · rename_i e; subst e; rfl
    · rfl
  · have q := a.2 n hn
    split at q
    · exact ⟨q.1, q.2, fun h => by omega⟩
    · exact ⟨by omega, q.2, fun _ => q.1⟩
theorem levels_none (H : OkO o) : (levels o).length = 0 ↔ (toLO o).length = 0 := by
  match o, H with
  | none, _ => exact ⟨fun _ => rfl, fun _ => rfl⟩
  | some ⟨h, t⟩, H =>
    have h1 : (levels (some ⟨h, t⟩ : TO V)).length = h + 1 := lvl_len
    have h2 := Go.Gx.toL_pos H.1 H.2.1
    exact ⟨fun q => by omega, fun q => by have : (toL h t).length = 0 := q; omega⟩
/-! how deep a tree is -/
theorem sum_low {r : List Nat} {m : Nat} (H : ∀ n ∈ r, m ≤ n) : m * r.length ≤ r.sum := by
  induction r with
  | nil => simp
  | cons a t ih => have := ih (fun n hn => H n (List.mem_cons_of_mem _ hn)); have := H a (List.mem_cons_self ..); rw [List.length_cons, List.sum_cons, Nat.mul_add]; omega
theorem sum_suc {r : List Nat} : (r.map (· + 1)).sum = r.sum + r.length := by
  induction r with
  | nil => rfl
  | cons a t ih => simp only [List.map_cons, List.sum_cons, List.length_cons, ih]; omega
theorem want_grows (H : OkO o) {i : Nat} (hi : i + 1 < (levels o).length) : ((levels o).getD i []).length * (if i = 0 then 2 else 4) ≤ ((levels o).getD (i + 1) []).length := by
  obtain ⟨_, a⟩ := levels_at H (i := i) (by omega)
  obtain ⟨b, _⟩ := levels_at H hi
  rw [b]
  show _ ≤ (((levels o).getD i []).map (· + 1)).sum
  rw [sum_suc]
  split
  · have := sum_low (m := 1) fun n hn => (a n hn).1; omega
  · have := sum_low (m := 3) fun n hn => (a n hn).2.2 (by omega); omega
theorem cons9 {α : Type} [Inhabited α] {l : List α} (h : 0 < l.length) : l = l.getD 0 default :: l.tail := by
  match l, h with
  | a :: t, _ => rfl
structure LevOk (L : List (List Nat)) (n : Nat) : Prop where
  zero : L.length = 0 ↔ n = 0
  at_ : ∀ i, i < L.length → (L.getD i []).length = wantL L i ∧ ∀ m ∈ L.getD i [], 1 ≤ m ∧ m ≤ 6 ∧ (0 < i → 3 ≤ m)
  grows : ∀ i, i + 1 < L.length → (L.getD i []).length * (if i = 0 then 2 else 4) ≤ (L.getD (i + 1) []).length
  sum : (L.getD (L.length - 1) []).sum = n
  le : L.length ≤ n
theorem lev_ok (H : OkO o) : LevOk (levels o) (toLO o).length := ⟨levels_none H, fun _ hi => levels_at H hi, fun _ hi => want_grows H hi, Go.Gx.levels_sum, Go.Gx.levels_le H⟩
def sumk (r : List Nat) (k : Nat) : Nat := ((r.take k).map (· + 1)).sum
theorem sumk_all {r : List Nat} : sumk r r.length = (r.map (· + 1)).sum := by unfold sumk; rw [List.take_length]
theorem sumk_suc {r : List Nat} {k : Nat} (h : k < r.length) : sumk r (k + 1) = sumk r k + (r.getD k 0 + 1) := by
  unfold sumk
  rw [Go.Gx.take9 (d := 0) h, List.map_append, List.sum_append]
  simp
theorem sumk_le {r : List Nat} {k : Nat} (H : ∀ m ∈ r, m ≤ 6) : sumk r k ≤ 7 * r.length := by
  have h1 : ∀ l : List Nat, (∀ m ∈ l, m ≤ 6) → (l.map (· + 1)).sum ≤ 7 * l.length := fun l => by
    induction l with
    | nil => intro _; simp
    | cons a t ih => intro h; have := ih fun m hm => h m (List.mem_cons_of_mem _ hm); have := h a (List.mem_cons_self ..); simp only [List.map_cons, List.sum_cons, List.length_cons]; omega
  have := h1 (r.take k) fun m hm => H m (List.mem_of_mem_take hm)
  have h2 : (r.take k).length ≤ r.length := by rw [List.length_take]; omega
  unfold sumk; omega
theorem row_le {L : List (List Nat)} {n : Nat} (H : LevOk L n) : ∀ {d i : Nat}, i + d + 1 = L.length → (L.getD i []).length ≤ n
  | 0, i, h => by
    have e : i = L.length - 1 := by omega
    rw [e]
    have a := (H.at_ (L.length - 1) (by omega)).2
    have b := sum_low (m := 1) fun m hm => (a m hm).1
    rw [H.sum] at b; omega
  | d + 1, i, h => by
    have a := row_le H (d := d) (i := i + 1) (by omega)
    have b := H.grows i (by omega)
    split at b <;> omega
theorem row_len {L : List (List Nat)} {n i : Nat} (H : LevOk L n) (hi : i < L.length) (hn : n ≤ 700000) : (L.getD i []).length ≤ 700000 := by
  have := row_le H (d := L.length - i - 1) (i := i) (by omega); omega
end
end Go.Bt

namespace Go.Proofs.Ytcpfdfejojghbaa
open Go.Gx Go.RowKit
attribute [local irreducible] wpList wpStill Code.wp Calls
open Go.Bt
theorem newLI {w : World} : Ret Try.prog 22 #[] w (fun v' w' => Below w.heap.size w w' ∧ ∃ p F, v' = ptr p 0 ∧ TopL kI 71 w.heap.size w' p [] F) := (newI).mono fun v' w' h => by
  obtain ⟨E, p, e, T⟩ := h
  exact ⟨E, p, _, e, none, T, rfl⟩
theorem putLsI {M : List (Ky × (Int))} {k : List UInt8} {xv : Value} {x : Int} {F : Nat → Prop} {p base L B : Nat} {w : World} (hT : TopL kI 71 base w p M F) (hb : base ≤ w.heap.size) (hk : RdC w L B 1 xv k.length (k.map u8v)) (hB : B ≤ w.heap.size) (hap : ∀ j, F j → j < L ∨ B ≤ j) (hkn : k.length ≤ 1000000000) :
    Ret Try.prog 23 #[ptr p 0, xv, (Value.int .i64 x)] w (fun v' w' => Gr w w' F ∧ v' = .bool ((ks1 M).contains k) ∧ ∃ F', TopL kI 71 base w' p (putL k x M) F' ∧ NewF w.heap.size F F') := by
  obtain ⟨o, T, rfl⟩ := hT
  refine (putTopI T hb hk hB hap hkn).mono fun v' w' h => ?_
  obtain ⟨E, e, F', T', N⟩ := h
  exact ⟨E, e.trans (congrArg Value.bool (put_was T.2.2.1)), F', ⟨_, T', put_toL T.2.2.1⟩, N⟩
theorem scanLsI {M : List (Ky × (Int))} {F : Nat → Prop} {x : List UInt8} {xv : Value} {p base : Nat} {m : Int} {w : World} (hT : TopL kI 71 base w p M F) (hkl : ∀ q ∈ M, q.1.length ≤ 1000000000) (hxr : RdC w 0 w.heap.size 1 xv x.length (x.map u8v)) (hm : m ≤ 9223372036854775807) (hDM : M.length ≤ 100000) : Ret Try.prog 24 #[ptr p 0, xv, .int .i64 m] w (fun v' w' => Below w.heap.size w w' ∧ ∃ D2 : List (DP (Int)), Own w' w.heap.size 51 2 v' D2.length (D2.flatMap cI) ∧ (∀ x9 ∈ D2.map pk, Own w' w.heap.size 5 1 x9.1 x9.2.length (x9.2.map u8v)) ∧ D2.map Prod.snd = (geL x M).take m.toNat ∧ (D2.map pk).Pairwise (fun a b => Dj (Bl a.1) (Bl b.1))) := by
  obtain ⟨o, T, rfl⟩ := hT
  exact scanTopI T hkl hxr hm hDM
theorem lenLsI {M : List (Ky × (Int))} {F : Nat → Prop} {p base : Nat} {w : World} (hT : TopL kI 71 base w p M F) (hDM : M.length ≤ 100000) : Ret Try.prog 25 #[ptr p 0] w (fun v' w' => Below w.heap.size w w' ∧ v' = .int .i64 (M.length : Int)) := by
  obtain ⟨o, T, rfl⟩ := hT
  exact lenTopI T hDM
theorem levLsI {M : List (Ky × (Int))} {F : Nat → Prop} {p base : Nat} {w : World} (hT : TopL kI 71 base w p M F) (hDM : M.length ≤ 100000) : Ret Try.prog 33 #[ptr p 0] w (fun v' w' => Below w.heap.size w w' ∧ ∃ (LL : List (Value × List Int)) (LV : List (List Nat)), Own w' w.heap.size 30 1 v' LL.length (LL.flatMap (fun x9 => [x9.1])) ∧ (∀ x9 ∈ LL, Own w' w.heap.size 3 1 x9.1 x9.2.length (x9.2.map (Value.int .i64))) ∧ LL.map Prod.snd = LV.map (fun l => l.map Int.ofNat) ∧ LevOk LV M.length) := by
  obtain ⟨o, T, rfl⟩ := hT
  refine (levelsTopI T hDM).mono fun v' w' h => ?_
  obtain ⟨E, LL, h1, h2, h3⟩ := h
  exact ⟨E, LL, _, h1, h2, h3, lev_ok T.2.2.1⟩
theorem getLsI {M : List (Ky × (Int))} {F : Nat → Prop} {x : List UInt8} {xv : Value} {p base : Nat} {w : World} (hT : TopL kI 71 base w p M F) (hkl : ∀ q ∈ M, q.1.length ≤ 1000000000) (hxr : RdC w 0 w.heap.size 1 xv x.length (x.map u8v)) (hDM : M.length ≤ 100000) : Ret Try.prog 30 #[(ptr p 0), xv] w (fun v' w' => Below w.heap.size w w' ∧ v' = .tuple #[.int .i64 ((getL x M).getD 0), .bool (getL x M).isSome]) := by
 have hb := Below.refl w.heap.size w
 refine enter (N := 28) Try.func30 rfl rfl (by simp) fun a0 hN hd hA => ?_
 have s0 : a0.tmps.getD 0 undef = (ptr p 0) := hA 0 (by simp)
 have s1 : a0.tmps.getD 1 undef = xv := hA 1 (by simp)
 clear hA
 refine seq_any fun K4 hK4 => one_reg ?_
 refine op_assign rfl (op_assign rfl (reg_nil (hK4 _ _ (seq_any fun K5 hK5 => one_reg (op_assign rfl ?_)))))
 refine reg_nil (hK5 _ _ (seq_any fun K6 hK6 => one_reg (op_move (ev_base hN rfl s0) (op_move (ev_base hN rfl s1) (op_fn (vs := [(ptr p 0), xv, (Value.int .i64 1)]) ok24 ⟨(ev_hit hN rfl), ⟨(ev_hit hN rfl), ⟨rfl, trivial⟩⟩⟩ (scanLsI (m := 1) (x := x) hT hkl (hxr.mono (Nat.zero_le _) (by omega)) (by omega) hDM) ?_)))))
 rintro v7 w10 ⟨E11, D7, hO7, hks7, hE7, hpw7⟩
 have E11 := grown_of_below E11
 have z_w10 := E11.size
 have hT := hT.kz E11
 have hxr := hxr.keep0 E11
 have hb := below_step0 hb E11 hb.size
 have hO7 := hO7.mono (base' := w.heap.size) (by omega)
 have hks7 : ∀ x9 ∈ (D7.map pk), Own w10 w.heap.size 5 1 x9.1 x9.2.length (x9.2.map u8v) := fun x9 h9 => (hks7 x9 h9).mono (by omega)
 refine op_assign (ev_hit hN rfl) ?_
 refine reg_nil (hK6 _ _ (seq_any fun K12 hK12 => seq_any fun K14 hK14 => one_reg (op_move (ev_hit hN rfl) (op_len_rd Try.underlying48 (ev_hit hN rfl) hO7.rdw ?_))))
 refine op_eql (ev_hit hN rfl) rfl (fun c13 => ?_) (fun c13 => ?_)
 ·
  refine op_move (ev_hit hN rfl) (g_false (j := 3) (dj := 14) (b := false) rfl rfl rfl (ev_hit hN rfl) rfl rfl ?_)
  refine g_false (j := 3) (dj := 14) (b := false) rfl rfl rfl (ev_hit hN rfl) rfl rfl (g_false (j := 3) (dj := 14) (b := false) rfl rfl rfl (ev_hit hN rfl) rfl rfl (g_false (j := 3) (dj := 14) (b := false) rfl rfl rfl (ev_hit hN rfl) rfl rfl (g_false (j := 3) (dj := 14) (b := false) rfl rfl rfl (ev_hit hN rfl) rfl rfl (g_false (j := 3) (dj := 14) (b := false) rfl rfl rfl (ev_hit hN rfl) rfl rfl (g_false (j := 3) (dj := 14) (b := false) rfl rfl rfl (ev_hit hN rfl) rfl rfl (op_pick_t (ev_hit hN rfl) rfl ?_))))))
  refine reg_nil (hK14 _ _ (wp_cond_true (ev_hit hN rfl) (seq_any fun K15 hK15 => ?_)))
  refine one_reg (op_move (ev_hit hN rfl) (op_assign (ev_hit hN rfl) (op_assign rfl (reg_nil (hK15 _ _ (wp_ret (then_ret ( ?_))))))))
  refine ret2 rfl hd (ev_hit hN rfl) (ev_hit hN rfl) ⟨_, rfl, ?_⟩
  have hE1 : (geL x M).take 1 = D7.map Prod.snd := hE7.symm
  have hD0 : D7 = [] := List.eq_nil_of_length_eq_zero (by omega)
  rw [hD0] at hE1
  rw [getL_miss0 hE1]
  exact ⟨hb, rfl⟩
 ·
  refine op_move (ev_hit hN rfl) (g_true (j := 3) (dj := 14) (b := false) rfl rfl rfl (ev_hit hN rfl) (op_move (ev_hit hN rfl) (g_true (j := 3) (dj := 14) (b := false) rfl rfl rfl (ev_hit hN rfl) (op_index_rd slt48 (ev_hit hN rfl) hO7.rdw rfl (by omega) (by omega) ?_))))
  intro b16 o17 h0b16 h1b16 hc18
  refine g_true (j := 3) (dj := 14) (b := false) rfl rfl rfl (ev_hit hN rfl) ?_
  refine op_field fld51_0 (ev_hit hN rfl) (g_true (j := 3) (dj := 14) (b := false) rfl rfl rfl (ev_hit hN rfl) (op_load1 (v := (D7.getD 0 default).1) one27 (ev_hit hN rfl) (hc18 0 ((D7.getD 0 default).1) (by decide) ((el_pI (i := 0) (by omega) (by first | omega | (simp only [List.length_drop, List.length_take]; omega))) 0 ((D7.getD 0 default).1) rfl)) (g_true (j := 3) (dj := 14) (b := false) rfl rfl rfl (ev_hit hN rfl) (op_move (ev_base hN rfl s1) (g_true (j := 3) (dj := 14) (b := false) rfl rfl rfl (ev_hit hN rfl) (op_fn (vs := [(D7.getD 0 default).1, xv]) ok45 ⟨(ev_hit hN rfl), ⟨(ev_hit hN rfl), trivial⟩⟩ (eqK ((show Own _ _ _ _ (D7.getD 0 default).1 (D7.getD 0 default).2.1.length ((D7.getD 0 default).2.1.map u8v) from hks7 (pk (D7.getD 0 default)) (List.mem_map.2 ⟨(D7.getD 0 default), (getD_mem (by first | omega | (simp only [List.length_drop, List.length_take]; omega))), rfl⟩)).rdw.mono (Nat.zero_le _) (by omega)) (hxr.mono (Nat.zero_le _) (by omega))) ?_))))))
  rintro _ w19 ⟨E21, rfl⟩
  have E21 := grown_of_below E21
  have z_w19 := E21.size
  have hT := hT.kz E21
  have hO7 := hO7.keep0 E21
  have hb := below_step0 hb E21 hb.size
  rcases Bool.eq_false_or_eq_true ((decide ((D7.getD 0 default).2.1 = x))) with c20 | c20
  ·
   rw [c20]
   refine g_true (j := 3) (dj := 14) (b := false) rfl rfl rfl (ev_hit hN rfl) (op_not (ev_hit hN rfl) ?_)
   refine op_pick_f (ev_hit hN rfl) (ev_hit hN rfl) ?_
   refine reg_nil (hK14 _ _ ?_)
   refine wp_cond_false (ev_hit hN rfl) (wp_skip (hK12 _ _ (seq_any fun K22 hK22 => one_reg (op_move (ev_hit hN rfl) (op_index_rd slt48 (ev_hit hN rfl) hO7.rdw rfl (by omega) (by omega) ?_)))))
   intro b23 o25 h0b23 h1b23 hc26
   refine op_field fld51_1 (ev_hit hN rfl) (op_load1 (v := (Value.int .i64 (D7.getD 0 default).2.2)) one3 (ev_hit hN rfl) (hc26 1 ((Value.int .i64 (D7.getD 0 default).2.2)) (by decide) ((el_pI (i := 0) (by omega) (by first | omega | (simp only [List.length_drop, List.length_take]; omega))) 1 ((Value.int .i64 (D7.getD 0 default).2.2)) rfl)) (op_assign (ev_hit hN rfl) (op_assign rfl (reg_nil (hK22 _ _ (wp_ret ?_))))))
   refine ret2 rfl hd (ev_hit hN rfl) (ev_hit hN rfl) ⟨_, rfl, ?_⟩
   have hE1 : (geL x M).take 1 = D7.map Prod.snd := hE7.symm
   rw [show D7 = D7.getD 0 default :: D7.tail from cons9 (by omega), List.map_cons] at hE1
   rw [getL_hit hT.sorted hE1 (of_decide_eq_true c20)]
   exact ⟨hb, rfl⟩
  ·
   rw [c20]
   refine g_true (j := 3) (dj := 14) (b := false) rfl rfl rfl (ev_hit hN rfl) (op_not (ev_hit hN rfl) ?_)
   refine op_pick_f (ev_hit hN rfl) (ev_hit hN rfl) ?_
   refine reg_nil (hK14 _ _ (wp_cond_true (ev_hit hN rfl) (seq_any fun K28 hK28 => ?_)))
   refine one_reg (op_move (ev_hit hN rfl) (op_assign (ev_hit hN rfl) (op_assign rfl (reg_nil (hK28 _ _ (wp_ret (then_ret ( ?_))))))))
   refine ret2 rfl hd (ev_hit hN rfl) (ev_hit hN rfl) ⟨_, rfl, ?_⟩
   have hE1 : (geL x M).take 1 = D7.map Prod.snd := hE7.symm
   rw [show D7 = D7.getD 0 default :: D7.tail from cons9 (by omega), List.map_cons] at hE1
   rw [getL_miss1 hT.sorted hE1 (of_decide_eq_false c20)]
   exact ⟨hb, rfl⟩
def CopyP (h : Nat) : Prop := ∀ ⦃R W : Nat → Prop⦄ ⦃p : Nat⦄ ⦃t : Tr Int h⦄ ⦃w : World⦄, TreeR kI R w h p t W → Ok h t → szT h t ≤ 6 → (∀ k, R k → k < w.heap.size) → Ret Try.prog 54 #[ptr p 0] w (fun v' w' => Below w.heap.size w w' ∧ ∃ q W', v' = ptr q 0 ∧ TreeR kI R w' h q t W' ∧ ∀ k, W' k → w.heap.size ≤ k)
theorem clK0 {w : World} : Ret Try.prog 90 #[(Value.slice none 0 0)] w (fun v' w' => v' = .slice none 0 0 ∧ w' = w) := by
 refine enter (N := 8) Try.func90 rfl rfl (by simp) fun a0 hN hd hA => ?_
 have s0 : a0.tmps.getD 0 undef = (Value.slice none 0 0) := hA 0 (by simp)
 clear hA
 refine seq_any fun K1 hK1 => one_reg (op_assign rfl ?_)
 refine reg_nil (hK1 _ _ (seq_any fun K2 hK2 => seq_any fun K3 hK3 => one_reg (op_move (ev_base hN rfl s0) (op_nil_nil slt90 (ev_hit hN rfl) rfl ?_))))
 refine reg_nil (hK3 _ _ ?_)
 refine wp_cond_true (ev_hit hN rfl) (seq_any fun K4 hK4 => one_reg (op_assign rfl (reg_nil (hK4 _ _ (wp_ret (then_ret ( ?_)))))))
 refine ret1 rfl hd (ev_hit hN rfl) ⟨_, rfl, ?_⟩
 exact ⟨rfl, rfl⟩

theorem clPI0 {w : World} : Ret Try.prog 89 #[(Value.slice none 0 0)] w (fun v' w' => v' = .slice none 0 0 ∧ w' = w) := by
 refine enter (N := 8) Try.func89 rfl rfl (by simp) fun a0 hN hd hA => ?_
 have s0 : a0.tmps.getD 0 undef = (Value.slice none 0 0) := hA 0 (by simp)
 clear hA
 refine seq_any fun K5 hK5 => one_reg (op_assign rfl ?_)
 refine reg_nil (hK5 _ _ (seq_any fun K6 hK6 => seq_any fun K7 hK7 => one_reg (op_move (ev_base hN rfl s0) (op_nil_nil slt48 (ev_hit hN rfl) rfl ?_))))
 refine reg_nil (hK7 _ _ ?_)
 refine wp_cond_true (ev_hit hN rfl) (seq_any fun K8 hK8 => one_reg (op_assign rfl (reg_nil (hK8 _ _ (wp_ret (then_ret ( ?_)))))))
 refine ret1 rfl hd (ev_hit hN rfl) ⟨_, rfl, ?_⟩
 exact ⟨rfl, rfl⟩

theorem copyL {R W : Nat → Prop} {p : Nat} {pv : Value} {D : List (DP Int)} {w : World} (hL : LeafR kI R w p pv D W) (hn : D.length ≤ 10) : Ret Try.prog 54 #[(ptr p 0)] w (fun v' w' => Below w.heap.size w w' ∧ ∃ q W', v' = ptr q 0 ∧ TreeR kI R w' 0 q ((D.map Prod.snd : List (Ky × Int)) : Tr Int 0) W' ∧ ∀ k, W' k → w.heap.size ≤ k) := by
 have hx : Bx w p 115 [pv, .slice none 0 0, .slice none 0 0] := hL.bx
 have hop := hL.op.rdw
 have ks := hL.ks
 have hi_p := hx.lt
 have hb := Below.refl w.heap.size w
 refine enter (N := 40) Try.func54 rfl rfl (by simp) fun a0 hN hd hA => ?_
 have s0 : a0.tmps.getD 0 undef = (ptr p 0) := hA 0 (by simp)
 clear hA
 refine seq_any fun K9 hK9 => one_reg (op_assign rfl (reg_nil (hK9 _ _ (seq_any fun K10 hK10 => ?_))))
 refine reg_env (φ := phiV [(fun uz => uz = (ptr p 0)), (fun uz => uz = (ptr p 0)), (fun uz => uz = (ptr p 0)), (fun uz => uz = pv), (fun _ => True), (fun uz => uz = (ptr p 0)), (fun uz => uz = (ptr p 0)), (fun uz => uz = (ptr p 1)), (fun uz => uz = (Value.slice none 0 0)), (fun _ => True), (fun _ => True), (fun _ => True), (fun _ => True)]) (G := fun w' => Bx w' p 115 [pv, (Value.slice none 0 0), (Value.slice none 0 0)]) [4, 9, 10, 11, 12] mixed (by kernel_rfl) (by kernel_rfl) (by kernel_rfl) (by kernel_rfl) hN (fun w1 w2 E h => h.keep0 E) hx (ObEs.cons ?_ (ObEs.cons ?_ (ObEs.cons ?_ (ObEs.cons ?_ (ObEs.pass rfl (ObEs.cons ?_ (ObEs.cons ?_ (ObEs.cons ?_ (ObEs.cons ?_ (ObEs.pass rfl (ObEs.pass rfl (ObEs.pass rfl (ObEs.pass rfl (ObEs.nil)))))))))))))) (by simp only [putsL_defers]) ?_
 ·
  intro eA aA wA hNA hGA hbsA hdpA
  have qA_0 := (hbsA 0 rfl).trans (sl_base hN rfl s0)
  refine op_move (ev_base hNA rfl qA_0) ?_
  exact obE_end rfl rfl rfl
 ·
  intro eA aA wA hNA hGA hbsA hdpA
  have qA_6 : Sl aA 6 (ptr p 0) := (hdpA 0 _ 6 (by kernel_rfl) rfl rfl).2 rfl
  refine op_nil (ev_base hNA rfl qA_6) ?_
  exact obE_end rfl rfl rfl
 ·
  intro eA aA wA hNA hGA hbsA hdpA
  have qA_7 : Sl aA 7 (ptr p 0) := (hdpA 1 _ 7 (by kernel_rfl) rfl rfl).2 rfl
  refine op_field fld115_0 (ev_base hNA rfl qA_7) ?_
  exact obE_end rfl rfl rfl
 ·
  intro eA aA wA hNA hGA hbsA hdpA
  have qA_8 : Sl aA 8 (ptr p 0) := (hdpA 2 _ 8 (by kernel_rfl) rfl rfl).2 rfl
  refine op_load1 (v := pv) one48 (ev_base hNA rfl qA_8) (hGA.cell rfl) ?_
  exact obE_end rfl rfl rfl
 ·
  intro eA aA wA hNA hGA hbsA hdpA
  have qA_0 := (hbsA 0 rfl).trans (sl_base hN rfl s0)
  refine op_move (ev_base hNA rfl qA_0) ?_
  exact obE_end rfl rfl rfl
 ·
  intro eA aA wA hNA hGA hbsA hdpA
  have qA_11 : Sl aA 11 (ptr p 0) := (hdpA 5 _ 11 (by kernel_rfl) rfl rfl).2 rfl
  refine op_nil (ev_base hNA rfl qA_11) ?_
  exact obE_end rfl rfl rfl
 ·
  intro eA aA wA hNA hGA hbsA hdpA
  have qA_12 : Sl aA 12 (ptr p 0) := (hdpA 6 _ 12 (by kernel_rfl) rfl rfl).2 rfl
  refine op_field fld115_1 (ev_base hNA rfl qA_12) ?_
  exact obE_end rfl rfl rfl
 ·
  intro eA aA wA hNA hGA hbsA hdpA
  have qA_13 : Sl aA 13 (ptr p 1) := (hdpA 7 _ 13 (by kernel_rfl) rfl rfl).2 rfl
  refine op_load1 (v := (Value.slice none 0 0)) one90 (ev_base hNA rfl qA_13) (hGA.cell rfl) ?_
  exact obE_end rfl rfl rfl
 ·
  intro w11 E11 _ a11 hN11 hbs11 hdp11 o_ ho_; obtain rfl := Option.some.inj ho_
  have z_w11 := E11.size
  have hx := hx.keep0 E11
  have hop := hop.keep0 E11
  have ks := all9 ks fun _ h => h.keep0 E11
  have hb := below_step0 hb E11 hb.size
  have q11_9 : Sl a11 9 pv := (hdp11 3 _ 9 (by kernel_rfl) rfl rfl).2 rfl
  refine op_fn (vs := [pv]) ok89 ⟨(ev_base hN11 rfl q11_9), trivial⟩ (clPI (hop.mono (Nat.zero_le _) (by omega)) (by omega) (one_pI ks (fun _ h => h))) ?_
  rintro v12 w13 ⟨E14, hO12⟩
  have E14 := grown_of_below E14
  have z_w13 := E14.size
  have hx := hx.keep0 E14
  have hop := hop.keep0 E14
  have ks := all9 ks fun _ h => h.keep0 E14
  have hb := below_step0 hb E14 hb.size
  have hO12 := hO12.mono (base' := w.heap.size) (by omega)
  skip
  refine ke_end rfl (by decide) rfl hx ?_
  intro w15 E15 _ a15 hN15 hbs15 hdp15 o_ ho_; obtain rfl := Option.some.inj ho_
  have z_w15 := E15.size
  have hx := hx.keep0 E15
  have hop := hop.keep0 E15
  have ks := all9 ks fun _ h => h.keep0 E15
  have hO12 := hO12.keep0 E15
  have hb := below_step0 hb E15 hb.size
  have q15_14 : Sl a15 14 (Value.slice none 0 0) := (hdp15 8 _ 14 (by kernel_rfl) rfl rfl).2 rfl
  refine op_fn (vs := [(Value.slice none 0 0)]) ok90 ⟨(ev_base hN15 rfl q15_14), trivial⟩ (Ret.flip (clK0)) ?_
  rintro _ _ ⟨rfl, rfl⟩
  refine ke_end rfl (by decide) rfl hx ?_
  intro w16 E16 _ a16 hN16 hbs16 hdp16 o_ ho_; obtain rfl := Option.some.inj ho_
  have z_w16 := E16.size
  have hx := hx.keep0 E16
  have hop := hop.keep0 E16
  have ks := all9 ks fun _ h => h.keep0 E16
  have hO12 := hO12.keep0 E16
  have hb := below_step0 hb E16 hb.size
  have q16_10 : Sl a16 10 v12 := (Option.some.inj ((hdp16 4 _ 10 (by kernel_rfl) rfl rfl).1 0 rfl)).symm
  have q16_15 : Sl a16 15 (Value.slice none 0 0) := (Option.some.inj ((hdp16 9 _ 15 (by kernel_rfl) rfl rfl).1 1 rfl)).symm
  refine op_build (pv := [(0, v12), (1, (Value.slice none 0 0))]) (v := (Value.agg #[v12, (Value.slice none 0 0), (Value.slice none 0 0)])) ⟨rfl, (ev_base hN16 rfl q16_10), ⟨rfl, (ev_base hN16 rfl q16_15), trivial⟩⟩ (by obtain ⟨_, _, _, rfl⟩ := hO12.sl; kernel_rfl) ?_
  refine ke_end rfl (by decide) rfl hx ?_
  intro w17 E17 _ a17 hN17 hbs17 hdp17 o_ ho_; obtain rfl := Option.some.inj ho_
  have z_w17 := E17.size
  have hx := hx.keep0 E17
  have hop := hop.keep0 E17
  have ks := all9 ks fun _ h => h.keep0 E17
  have hO12 := hO12.keep0 E17
  have hb := below_step0 hb E17 hb.size
  have q17_16 : Sl a17 16 (Value.agg #[v12, (Value.slice none 0 0), (Value.slice none 0 0)]) := (Option.some.inj ((hdp17 10 _ 16 (by kernel_rfl) rfl rfl).1 2 rfl)).symm
  refine op_box (cs := [v12, (Value.slice none 0 0), (Value.slice none 0 0)]) (ev_base hN17 rfl q17_16) rfl ?_
  intro w18 b19 lo_b19 hi_b19 hB21 E20
  have z_w18 := E20.size
  have hx := hx.keep0 E20
  have hop := hop.keep0 E20
  have ks := all9 ks fun _ h => h.keep0 E20
  have hO12 := hO12.keep0 E20
  have hb := below_step0 hb E20 hb.size
  refine ke_end rfl (by decide) rfl hx ?_
  intro w22 E22 _ a22 hN22 hbs22 hdp22 o_ ho_; obtain rfl := Option.some.inj ho_
  have z_w22 := E22.size
  have hx := hx.keep0 E22
  have hop := hop.keep0 E22
  have ks := all9 ks fun _ h => h.keep0 E22
  have hO12 := hO12.keep0 E22
  have hB21 := hB21.keep0 E22
  have hb := below_step0 hb E22 hb.size
  have q22_17 : Sl a22 17 (ptr b19 0) := (Option.some.inj ((hdp22 11 _ 17 (by kernel_rfl) rfl rfl).1 3 rfl)).symm
  refine op_assign (ev_base hN22 rfl q22_17) (ke_end rfl (by decide) rfl hx ?_)
  intro w23 E23 a23 hN23 hd23 hbs23 hph23
  have hd23 := hd23.trans ((by simp only [putsL_defers] : _ = _).trans hd)
  have z_w23 := E23.size
  have hx := hx.keep0 E23
  have hop := hop.keep0 E23
  have ks := all9 ks fun _ h => h.keep0 E23
  have hO12 := hO12.keep0 E23
  have hB21 := hB21.keep0 E23
  have hb := below_step0 hb E23 hb.size
  have s23_0 := (hbs23 0 rfl).trans (sl_base hN rfl s0)
  have s23_2 := (hbs23 2 rfl).trans (sl_hit hN rfl)
  have s23_3 : Sl a23 3 (ptr b19 0) := (Option.some.inj ((hph23 12 _ 3 rfl rfl).1 4 rfl)).symm
  refine hK10 _ _ (seq_any fun K24 hK24 => ?_)
  refine seq_any fun K25 hK25 => one_reg (op_move (ev_base hN23 rfl s23_0) (op_nil (ev_hit hN23 rfl) (op_field fld115_2 (ev_hit hN23 rfl) (op_load1 (v := (Value.slice none 0 0)) one113 (ev_hit hN23 rfl) (hx.cell rfl) (op_len_rd Try.underlying113 (ev_hit hN23 rfl) (RdC.nil _ 0 0 1) ?_)))))
  refine op_move rfl (reg_nil (hK25 _ _ (wp_block ?_)))
  refine loop_m (fun mz_ az_ w' => ∃ (i : Nat), mz_ = 0 - i ∧ (az_.tmps.getD 2 undef = (Value.pointer none)) ∧ (az_.tmps.getD 3 undef = (ptr b19 0)) ∧ (az_.tmps.getD 21 undef = (Value.slice none 0 0)) ∧ (az_.tmps.getD 22 undef = (Value.int .i64 0)) ∧ (az_.tmps.getD 23 undef = (Value.int .i64 ((i : Nat) : Int))) ∧ (i = 0) ∧ (Below w.heap.size w w') ∧ (w23.heap.size ≤ w'.heap.size) ∧ (Bx w' p 115 [pv, (Value.slice none 0 0), (Value.slice none 0 0)]) ∧ (RdC w' 0 w.heap.size 2 pv D.length (D.flatMap cI)) ∧ (∀ x9 ∈ (D.map pk), Own w' 0 5 1 x9.1 x9.2.length (x9.2.map u8v)) ∧ (Own w' w.heap.size 51 2 v12 D.length (D.flatMap cI)) ∧ (Bx w' b19 115 [v12, (Value.slice none 0 0), (Value.slice none 0 0)])) _ hN23 hd23 ⟨0, rfl, (sl_base hN23 rfl s23_2), (sl_base hN23 rfl s23_3), (sl_hit hN23 rfl), (sl_hit hN23 rfl), (sl_hit hN23 rfl), rfl, hb, (Nat.le_refl _), hx, hop, ks, hO12, hB21⟩ ?_
  rintro _ a26 w26 hN26 hd26 ⟨i, rfl, s26_2, s26_3, s26_21, s26_22, s26_23, hi, hb, zl_w26, hx, hop, ks, hO12, hB21⟩
  have z_w26 := hb.size
  refine seq_any fun K27 hK27 => ?_
  refine one_reg (op_lss (ev_base hN26 rfl s26_23) (ev_base hN26 rfl s26_22) (fun c24 => ?_) (fun c24 => ?_))
  ·
   exfalso; omega
  ·
   refine reg_nil (hK27 _ _ (seq_any fun K28 hK28 => wp_cond_false (ev_hit hN26 rfl) (wp_exit (then_exit (then_exit (blk_hit ?_))))))
   refine hK24 _ _ ?_
   refine seq_any fun K29 hK29 => one_reg (op_move (ev_base hN26 rfl s26_3) (op_assign (ev_hit hN26 rfl) (reg_nil (hK29 _ _ (wp_ret ?_)))))
   refine ret1 rfl hd26 (ev_hit hN26 rfl) ⟨_, rfl, ?_⟩
   exact ⟨hb, b19, _, rfl, mkLeaf (κ := kI) (D := D) hB21 hO12 ks hL.kr rfl, leafW_fresh (by omega) hO12⟩

theorem copyN {h : Nat} {R W G : Nat → Prop} {p : Nat} {kv cv : Value} {K : List DK} {P : List Nat} {cs : List (Tr Int h)} {w : World} (IH : CopyP h) (hNd : NodeR kI R w p kv cv K P G W) (hKs : KidsR kI R w h P cs G) (hO : Nd h (K.map Prod.snd) cs) (hz : ∀ c ∈ cs, okSz h c) (hn : K.length ≤ 6) (hR : ∀ k, R k → k < w.heap.size) : Ret Try.prog 54 #[(ptr p 0)] w (fun v' w' => Below w.heap.size w w' ∧ ∃ q W', v' = ptr q 0 ∧ TreeR kI R w' (h + 1) q ((K.map Prod.snd, cs) : Tr Int (h + 1)) W' ∧ ∀ k, W' k → w.heap.size ≤ k) := by
 have hx : Bx w p 115 [.slice none 0 0, kv, cv] := hNd.bx
 have hok : RdC w 0 w.heap.size 1 kv K.length (K.flatMap cK) := hNd.ok.rdw
 have hoc : RdC w 0 w.heap.size 1 cv P.length (P.flatMap cN) := hNd.oc.rdw
 have ks := hNd.ks
 have hi_p := hx.lt
 have hPc : P.length = cs.length := Kids.len hKs
 have hcl : cs.length = K.length + 1 := hO.1.trans (by simp)
 have hb := Below.refl w.heap.size w
 refine enter (N := 40) Try.func54 rfl rfl (by simp) fun a0 hN hd hA => ?_
 have s0 : a0.tmps.getD 0 undef = (ptr p 0) := hA 0 (by simp)
 clear hA
 refine seq_any fun K30 hK30 => one_reg (op_assign rfl (reg_nil (hK30 _ _ (seq_any fun K31 hK31 => ?_))))
 refine reg_env (φ := phiV [(fun uz => uz = (ptr p 0)), (fun uz => uz = (ptr p 0)), (fun uz => uz = (ptr p 0)), (fun uz => uz = (Value.slice none 0 0)), (fun _ => True), (fun uz => uz = (ptr p 0)), (fun uz => uz = (ptr p 0)), (fun uz => uz = (ptr p 1)), (fun uz => uz = kv), (fun _ => True), (fun _ => True), (fun _ => True), (fun _ => True)]) (G := fun w' => Bx w' p 115 [(Value.slice none 0 0), kv, cv]) [4, 9, 10, 11, 12] mixed (by kernel_rfl) (by kernel_rfl) (by kernel_rfl) (by kernel_rfl) hN (fun w1 w2 E h => h.keep0 E) hx (ObEs.cons ?_ (ObEs.cons ?_ (ObEs.cons ?_ (ObEs.cons ?_ (ObEs.pass rfl (ObEs.cons ?_ (ObEs.cons ?_ (ObEs.cons ?_ (ObEs.cons ?_ (ObEs.pass rfl (ObEs.pass rfl (ObEs.pass rfl (ObEs.pass rfl (ObEs.nil)))))))))))))) (by simp only [putsL_defers]) ?_
 ·
  intro eA aA wA hNA hGA hbsA hdpA
  have qA_0 := (hbsA 0 rfl).trans (sl_base hN rfl s0)
  refine op_move (ev_base hNA rfl qA_0) ?_
  exact obE_end rfl rfl rfl
 ·
  intro eA aA wA hNA hGA hbsA hdpA
  have qA_6 : Sl aA 6 (ptr p 0) := (hdpA 0 _ 6 (by kernel_rfl) rfl rfl).2 rfl
  refine op_nil (ev_base hNA rfl qA_6) ?_
  exact obE_end rfl rfl rfl
 ·
  intro eA aA wA hNA hGA hbsA hdpA
  have qA_7 : Sl aA 7 (ptr p 0) := (hdpA 1 _ 7 (by kernel_rfl) rfl rfl).2 rfl
  refine op_field fld115_0 (ev_base hNA rfl qA_7) ?_
  exact obE_end rfl rfl rfl
 ·
  intro eA aA wA hNA hGA hbsA hdpA
  have qA_8 : Sl aA 8 (ptr p 0) := (hdpA 2 _ 8 (by kernel_rfl) rfl rfl).2 rfl
  refine op_load1 (v := (Value.slice none 0 0)) one48 (ev_base hNA rfl qA_8) (hGA.cell rfl) ?_
  exact obE_end rfl rfl rfl
 ·
  intro eA aA wA hNA hGA hbsA hdpA
  have qA_0 := (hbsA 0 rfl).trans (sl_base hN rfl s0)
  refine op_move (ev_base hNA rfl qA_0) ?_
  exact obE_end rfl rfl rfl
 ·
  intro eA aA wA hNA hGA hbsA hdpA
  have qA_11 : Sl aA 11 (ptr p 0) := (hdpA 5 _ 11 (by kernel_rfl) rfl rfl).2 rfl
  refine op_nil (ev_base hNA rfl qA_11) ?_
  exact obE_end rfl rfl rfl
 ·
  intro eA aA wA hNA hGA hbsA hdpA
  have qA_12 : Sl aA 12 (ptr p 0) := (hdpA 6 _ 12 (by kernel_rfl) rfl rfl).2 rfl
  refine op_field fld115_1 (ev_base hNA rfl qA_12) ?_
  exact obE_end rfl rfl rfl
 ·
  intro eA aA wA hNA hGA hbsA hdpA
  have qA_13 : Sl aA 13 (ptr p 1) := (hdpA 7 _ 13 (by kernel_rfl) rfl rfl).2 rfl
  refine op_load1 (v := kv) one90 (ev_base hNA rfl qA_13) (hGA.cell rfl) ?_
  exact obE_end rfl rfl rfl
 ·
  intro w32 E32 _ a32 hN32 hbs32 hdp32 o_ ho_; obtain rfl := Option.some.inj ho_
  have z_w32 := E32.size
  have hx := hx.keep0 E32
  have hok := hok.keep0 E32
  have hoc := hoc.keep0 E32
  have ks := all9 ks fun _ h => h.keep0 E32
  have hb := below_step0 hb E32 hb.size
  have q32_9 : Sl a32 9 (Value.slice none 0 0) := (hdp32 3 _ 9 (by kernel_rfl) rfl rfl).2 rfl
  refine op_fn (vs := [(Value.slice none 0 0)]) ok89 ⟨(ev_base hN32 rfl q32_9), trivial⟩ (Ret.flip (clPI0)) ?_
  rintro _ _ ⟨rfl, rfl⟩
  refine ke_end rfl (by decide) rfl hx ?_
  intro w33 E33 _ a33 hN33 hbs33 hdp33 o_ ho_; obtain rfl := Option.some.inj ho_
  have z_w33 := E33.size
  have hx := hx.keep0 E33
  have hok := hok.keep0 E33
  have hoc := hoc.keep0 E33
  have ks := all9 ks fun _ h => h.keep0 E33
  have hb := below_step0 hb E33 hb.size
  have q33_14 : Sl a33 14 kv := (hdp33 8 _ 14 (by kernel_rfl) rfl rfl).2 rfl
  refine op_fn (vs := [kv]) ok90 ⟨(ev_base hN33 rfl q33_14), trivial⟩ (clK (hok.mono (Nat.zero_le _) (by omega)) (by omega) (one_kd ks (fun _ h => h))) ?_
  rintro v34 w35 ⟨E36, hO34⟩
  have E36 := grown_of_below E36
  have z_w35 := E36.size
  have hx := hx.keep0 E36
  have hok := hok.keep0 E36
  have hoc := hoc.keep0 E36
  have ks := all9 ks fun _ h => h.keep0 E36
  have hb := below_step0 hb E36 hb.size
  have hO34 := hO34.mono (base' := w.heap.size) (by omega)
  skip
  refine ke_end rfl (by decide) rfl hx ?_
  intro w37 E37 _ a37 hN37 hbs37 hdp37 o_ ho_; obtain rfl := Option.some.inj ho_
  have z_w37 := E37.size
  have hx := hx.keep0 E37
  have hok := hok.keep0 E37
  have hoc := hoc.keep0 E37
  have ks := all9 ks fun _ h => h.keep0 E37
  have hO34 := hO34.keep0 E37
  have hb := below_step0 hb E37 hb.size
  have q37_10 : Sl a37 10 (Value.slice none 0 0) := (Option.some.inj ((hdp37 4 _ 10 (by kernel_rfl) rfl rfl).1 0 rfl)).symm
  have q37_15 : Sl a37 15 v34 := (Option.some.inj ((hdp37 9 _ 15 (by kernel_rfl) rfl rfl).1 1 rfl)).symm
  refine op_build (pv := [(0, (Value.slice none 0 0)), (1, v34)]) (v := (Value.agg #[(Value.slice none 0 0), v34, (Value.slice none 0 0)])) ⟨rfl, (ev_base hN37 rfl q37_10), ⟨rfl, (ev_base hN37 rfl q37_15), trivial⟩⟩ (by obtain ⟨_, _, _, rfl⟩ := hO34.sl; kernel_rfl) ?_
  refine ke_end rfl (by decide) rfl hx ?_
  intro w38 E38 _ a38 hN38 hbs38 hdp38 o_ ho_; obtain rfl := Option.some.inj ho_
  have z_w38 := E38.size
  have hx := hx.keep0 E38
  have hok := hok.keep0 E38
  have hoc := hoc.keep0 E38
  have ks := all9 ks fun _ h => h.keep0 E38
  have hO34 := hO34.keep0 E38
  have hb := below_step0 hb E38 hb.size
  have q38_16 : Sl a38 16 (Value.agg #[(Value.slice none 0 0), v34, (Value.slice none 0 0)]) := (Option.some.inj ((hdp38 10 _ 16 (by kernel_rfl) rfl rfl).1 2 rfl)).symm
  refine op_box (cs := [(Value.slice none 0 0), v34, (Value.slice none 0 0)]) (ev_base hN38 rfl q38_16) rfl ?_
  intro w39 b40 lo_b40 hi_b40 hB42 E41
  have z_w39 := E41.size
  have hx := hx.keep0 E41
  have hok := hok.keep0 E41
  have hoc := hoc.keep0 E41
  have ks := all9 ks fun _ h => h.keep0 E41
  have hO34 := hO34.keep0 E41
  have hb := below_step0 hb E41 hb.size
  refine ke_end rfl (by decide) rfl hx ?_
  intro w43 E43 _ a43 hN43 hbs43 hdp43 o_ ho_; obtain rfl := Option.some.inj ho_
  have z_w43 := E43.size
  have hx := hx.keep0 E43
  have hok := hok.keep0 E43
  have hoc := hoc.keep0 E43
  have ks := all9 ks fun _ h => h.keep0 E43
  have hO34 := hO34.keep0 E43
  have hB42 := hB42.keep0 E43
  have hb := below_step0 hb E43 hb.size
  have q43_17 : Sl a43 17 (ptr b40 0) := (Option.some.inj ((hdp43 11 _ 17 (by kernel_rfl) rfl rfl).1 3 rfl)).symm
  refine op_assign (ev_base hN43 rfl q43_17) (ke_end rfl (by decide) rfl hx ?_)
  intro w44 E44 a44 hN44 hd44 hbs44 hph44
  have hd44 := hd44.trans ((by simp only [putsL_defers] : _ = _).trans hd)
  have z_w44 := E44.size
  have hx := hx.keep0 E44
  have hok := hok.keep0 E44
  have hoc := hoc.keep0 E44
  have ks := all9 ks fun _ h => h.keep0 E44
  have hO34 := hO34.keep0 E44
  have hB42 := hB42.keep0 E44
  have hb := below_step0 hb E44 hb.size
  have s44_0 := (hbs44 0 rfl).trans (sl_base hN rfl s0)
  have s44_2 := (hbs44 2 rfl).trans (sl_hit hN rfl)
  have s44_3 : Sl a44 3 (ptr b40 0) := (Option.some.inj ((hph44 12 _ 3 rfl rfl).1 4 rfl)).symm
  refine hK31 _ _ (seq_any fun K45 hK45 => ?_)
  refine seq_any fun K46 hK46 => one_reg (op_move (ev_base hN44 rfl s44_0) (op_nil (ev_hit hN44 rfl) (op_field fld115_2 (ev_hit hN44 rfl) (op_load1 (v := cv) one113 (ev_hit hN44 rfl) (hx.cell rfl) (op_len_rd Try.underlying113 (ev_hit hN44 rfl) hoc ?_)))))
  refine op_move rfl (reg_nil (hK46 _ _ (wp_block ?_)))
  refine loop_m (fun mz_ az_ w' => ∃ (i : Nat) (cvn : Value) (Q : List Nat) (GQ : Nat → Prop), mz_ = P.length - i ∧ (az_.tmps.getD 2 undef = (Value.pointer none)) ∧ (az_.tmps.getD 3 undef = (ptr b40 0)) ∧ (az_.tmps.getD 21 undef = cv) ∧ (az_.tmps.getD 22 undef = (Value.int .i64 ((P.length : Nat) : Int))) ∧ (az_.tmps.getD 23 undef = (Value.int .i64 ((i : Nat) : Int))) ∧ (i ≤ P.length) ∧ (Q.length = i) ∧ (∀ k, GQ k → w.heap.size ≤ k) ∧ (¬ GQ b40) ∧ (Dj (Bl v34) GQ) ∧ (Dj (Bl cvn) GQ) ∧ (Below w.heap.size w w') ∧ (w44.heap.size ≤ w'.heap.size) ∧ (Bx w' p 115 [(Value.slice none 0 0), kv, cv]) ∧ (RdC w' 0 w.heap.size 1 kv K.length (K.flatMap cK)) ∧ (RdC w' 0 w.heap.size 1 cv P.length (P.flatMap cN)) ∧ (∀ x9 ∈ K, Own w' 0 5 1 x9.1 x9.2.length (x9.2.map u8v)) ∧ (Own w' w.heap.size 27 1 v34 K.length (K.flatMap cK)) ∧ (Bx w' b40 115 [(Value.slice none 0 0), v34, cvn]) ∧ (KidsR kI R w' h Q (cs.take i) GQ) ∧ (Own w' w.heap.size 69 1 cvn Q.length (Q.flatMap cN))) _ hN44 hd44 ⟨0, _, [], NoB, rfl, (sl_base hN44 rfl s44_2), (sl_base hN44 rfl s44_3), (sl_hit hN44 rfl), (sl_hit hN44 rfl), (sl_hit hN44 rfl), (Nat.zero_le _), rfl, (fun _ h => h.elim), (fun h => h), (fun _ _ h => h), (fun _ _ h => h), hb, (Nat.le_refl _), hx, hok, hoc, ks, hO34, hB42, (Kids.nil _), (Own.nil _ _ _ _)⟩ ?_
  rintro _ a47 w47 hN47 hd47 ⟨i, cvn, Q, GQ, rfl, s47_2, s47_3, s47_21, s47_22, s47_23, hi, hQ, hlo, hdb, hdk, hdc, hb, zl_w47, hx, hok, hoc, ks, hO34, hm, hKQ, hO48⟩
  have z_w47 := hb.size
  refine seq_any fun K49 hK49 => ?_
  refine one_reg (op_lss (ev_base hN47 rfl s47_23) (ev_base hN47 rfl s47_22) (fun c24 => ?_) (fun c24 => ?_))
  ·
   refine reg_nil ?_
   refine hK49 _ _ (seq_any fun K50 hK50 => wp_cond_true (ev_hit hN47 rfl) (wp_skip (hK50 _ _ (seq_any fun K51 hK51 => wp_block ?_))))
   refine seq_any fun K52 hK52 => one_reg ?_
   obtain ⟨c, hc⟩ : ∃ c, cs[i]? = some c := ⟨_, List.getElem?_eq_getElem (by omega)⟩
   obtain ⟨f9, hf9, _⟩ := Kids.get hKs hc
   have hoc9 : Ok h c := (hO.2.2 i c hc).1
   have hz9 := (hz c (List.mem_of_getElem? hc)).2
   refine op_index_rd slt113 (ev_base hN47 rfl s47_21) hoc (ev_base hN47 rfl s47_23) (by omega) (by omega) ?_
   intro b53 o54 h0b53 h1b53 hc55
   refine op_load1 (v := (ptr (P.getD i default) 0)) one69 (ev_hit hN47 rfl) (by have := hc55 0 (ptr (P.getD i default) 0) (by decide) (el_pn (i := i) (by omega) (by first | omega | (simp only [List.length_drop, List.length_take]; omega))); simpa using this) (op_assign (ev_hit hN47 rfl) (reg_nil (hK52 _ _ (reg_split (hd := [_, _, _, _, _, _, _, _, _]) (tl := _) 9 mixed (by kernel_rfl) rfl rfl ?_))))
   refine any_env (φ := phiV [(fun uz => uz = (ptr b40 0)), (fun uz => uz = (ptr b40 0)), (fun uz => uz = (ptr b40 0)), (fun uz => uz = (ptr b40 2)), (fun uz => uz = cvn), (fun uz => uz = (ptr (P.getD i default) 0)), (fun _ => True), (fun _ => True), (fun _ => True)]) (G := fun w' => Bx w' b40 115 [(Value.slice none 0 0), v34, cvn]) [6, 7, 8] (by kernel_rfl) (by kernel_rfl) (by kernel_rfl) (by kernel_rfl) hN47 (fun w1 w2 E h => h.keep0 E) hm (ObEs.cons ?_ (ObEs.cons ?_ (ObEs.cons ?_ (ObEs.cons ?_ (ObEs.cons ?_ (ObEs.cons ?_ (ObEs.pass rfl (ObEs.pass rfl (ObEs.pass rfl (ObEs.nil)))))))))) (by simp only [putsL_defers]) ?_
   ·
    intro eA aA wA hNA hGA hbsA hdpA
    have qA_3 := (hbsA 3 rfl).trans (sl_base hN47 rfl s47_3)
    refine op_move (ev_base hNA rfl qA_3) ?_
    exact obE_end rfl rfl rfl
   ·
    intro eA aA wA hNA hGA hbsA hdpA
    have qA_3 := (hbsA 3 rfl).trans (sl_base hN47 rfl s47_3)
    refine op_move (ev_base hNA rfl qA_3) ?_
    exact obE_end rfl rfl rfl
   ·
    intro eA aA wA hNA hGA hbsA hdpA
    have qA_28 : Sl aA 28 (ptr b40 0) := (hdpA 1 _ 28 (by kernel_rfl) rfl rfl).2 rfl
    refine op_nil (ev_base hNA rfl qA_28) ?_
    exact obE_end rfl rfl rfl
   ·
    intro eA aA wA hNA hGA hbsA hdpA
    have qA_29 : Sl aA 29 (ptr b40 0) := (hdpA 2 _ 29 (by kernel_rfl) rfl rfl).2 rfl
    refine op_field fld115_2 (ev_base hNA rfl qA_29) ?_
    exact obE_end rfl rfl rfl
   ·
    intro eA aA wA hNA hGA hbsA hdpA
    have qA_30 : Sl aA 30 (ptr b40 2) := (hdpA 3 _ 30 (by kernel_rfl) rfl rfl).2 rfl
    refine op_load1 (v := cvn) one113 (ev_base hNA rfl qA_30) (hGA.cell rfl) ?_
    exact obE_end rfl rfl rfl
   ·
    intro eA aA wA hNA hGA hbsA hdpA
    have qA_5 := (hbsA 5 rfl).trans (sl_hit hN47 rfl)
    refine op_move (ev_base hNA rfl qA_5) ?_
    exact obE_end rfl rfl rfl
   ·
    intro w56 E56 _ a56 hN56 hbs56 hdp56 o_ ho_; obtain rfl := Option.some.inj ho_
    have z_w56 := E56.size
    have hx := hx.keep0 E56
    have hok := hok.keep0 E56
    have hoc := hoc.keep0 E56
    have ks := all9 ks fun _ h => h.keep0 E56
    have hO34 := hO34.keep0 E56
    have hm := hm.keep0 E56
    have hKQ := hKQ.kz E56
    have hO48 := hO48.keep0 E56
    have hb := below_step0 hb E56 hb.size
    have q56_32 : Sl a56 32 (ptr (P.getD i default) 0) := (hdp56 5 _ 32 (by kernel_rfl) rfl rfl).2 rfl
    refine op_fn (vs := [(ptr (P.getD i default) 0)]) ok54 ⟨(ev_base hN56 rfl q56_32), trivial⟩ (IH (TreeR.later (B := w.heap.size) hf9 (Gr.ofBelow hb _) hf9.ty.lt hR) hoc9 hz9 (fun k hk => Nat.lt_of_lt_of_le (hR k hk) hb.size)) ?_
    rintro _ w58 ⟨E59, q57, Wq57, rfl, hTq57, hlo57⟩
    have E59 := grown_of_below E59
    have dj61 : Dj (Bl v34) Wq57 := Dj.fresh (fun k hk => (hO34.lt k hk).2) hlo57
    have dj62 : ¬ Wq57 b40 := fun hf => by have := hlo57 _ hf; have := hm.lt; omega
    have dj63 : Dj GQ Wq57 := Dj.fresh (fun k hk => (hKQ.lt k hk).2) hlo57
    have dj64 : Dj (Bl cvn) Wq57 := Dj.fresh (fun k hk => (hO48.lt k hk).2) hlo57
    have z_w58 := E59.size
    have hx := hx.keep0 E59
    have hok := hok.keep0 E59
    have hoc := hoc.keep0 E59
    have ks := all9 ks fun _ h => h.keep0 E59
    have hO34 := hO34.keep0 E59
    have hm := hm.keep0 E59
    have hKQ := hKQ.kz E59
    have hO48 := hO48.keep0 E59
    have hb := below_step0 hb E59 hb.size
    refine ke_end rfl (by decide) rfl hm ?_
    intro w65 E65 _ a65 hN65 hbs65 hdp65 o_ ho_; obtain rfl := Option.some.inj ho_
    have z_w65 := E65.size
    have hx := hx.keep0 E65
    have hok := hok.keep0 E65
    have hoc := hoc.keep0 E65
    have ks := all9 ks fun _ h => h.keep0 E65
    have hO34 := hO34.keep0 E65
    have hm := hm.keep0 E65
    have hKQ := hKQ.kz E65
    have hO48 := hO48.keep0 E65
    have hTq57 := hTq57.kz E65
    have hb := below_step0 hb E65 hb.size
    have q65_33 : Sl a65 33 (ptr q57 0) := (Option.some.inj ((hdp65 6 _ 33 (by kernel_rfl) rfl rfl).1 0 rfl)).symm
    refine op_bslice (e := 69) (pv := [(0, (ptr q57 0))]) (cs := [(ptr q57 0)]) ⟨rfl, (ev_base hN65 rfl q65_33), trivial⟩ (by kernel_rfl) ?_
    intro w66 b67 lo_b67 hi_b67 hB69 E68
    have z_w66 := E68.size
    have hx := hx.keep0 E68
    have hok := hok.keep0 E68
    have hoc := hoc.keep0 E68
    have ks := all9 ks fun _ h => h.keep0 E68
    have hO34 := hO34.keep0 E68
    have hm := hm.keep0 E68
    have hKQ := hKQ.kz E68
    have hO48 := hO48.keep0 E68
    have hTq57 := hTq57.kz E68
    have hb := below_step0 hb E68 hb.size
    refine ke_end rfl (by decide) rfl hm ?_
    intro w72 E72 _ a72 hN72 hbs72 hdp72 o_ ho_; obtain rfl := Option.some.inj ho_
    have z_w72 := E72.size
    have hx := hx.keep0 E72
    have hok := hok.keep0 E72
    have hoc := hoc.keep0 E72
    have ks := all9 ks fun _ h => h.keep0 E72
    have hO34 := hO34.keep0 E72
    have hm := hm.keep0 E72
    have hKQ := hKQ.kz E72
    have hO48 := hO48.keep0 E72
    have hTq57 := hTq57.kz E72
    have hB69 := hB69.keep0 E72
    have hb := below_step0 hb E72 hb.size
    have q72_31 : Sl a72 31 cvn := (hdp72 4 _ 31 (by kernel_rfl) rfl rfl).2 rfl
    have q72_34 : Sl a72 34 (Value.slice (some ⟨b67, 0, none⟩) 1 1) := (Option.some.inj ((hdp72 7 _ 34 (by kernel_rfl) rfl rfl).1 1 rfl)).symm
    have hP78 := hO48
    refine op_append slt113 (ev_base hN72 rfl q72_31) hP78 (ev_base hN72 rfl q72_34) (Src.ofRd Try.underlying113 (by decide) (RdC.ofBx (sz := 1) (n := 1) hB69 rfl (by decide)) (one_pn [_])) (by unfold maxLen; omega) (by omega) hb.size ?_
    intro v73 w74 hO76 E75 hm77
    have dj79 : Dj GQ (Bl v73) := Dj.step hm77 (fun k hk => (hKQ.lt k hk).2) hdc.symm
    have dj80 : Dj Wq57 (Bl v73) := Dj.step hm77 (fun k hk => (hTq57.lt k hk).2) dj64.symm
    have z_w74 := E75.size
    have hx := hx.keepO hP78 E75 (by decide)
    have hok := hok.keepO hP78 E75 (by omega)
    have hoc := hoc.keepO hP78 E75 (by omega)
    have ks := all9 ks fun _ h => h.keepT hP78 E75 (by decide)
    have hO34 := hO34.keepT hP78 E75 (by decide)
    have hm := hm.keepO hP78 E75 (by decide)
    have hKQ := hKQ.keepG (Gr.of E75) hdc.symm (NoK.ofOwn hP78 (by decide))
    have hTq57 := hTq57.keepG (Gr.of E75) dj64.symm (NoK.ofOwn hP78 (by decide))
    have hb := below_stepO hb hP78 E75 hb.size (by omega)
    have hO76 : Own w74 w.heap.size 69 1 v73 (Q.length + 1) ((Q.flatMap cN ++ [(ptr q57 0)])) := by simpa [u8v, sv] using hO76
    refine ke_end rfl (by decide) rfl hm ?_
    intro w81 E81 a81 hN81 hd81 hbs81 hph81
    have hd81 := hd81.trans ((by simp only [putsL_defers] : _ = _).trans hd47)
    have z_w81 := E81.size
    have hx := hx.keep0 E81
    have hok := hok.keep0 E81
    have hoc := hoc.keep0 E81
    have ks := all9 ks fun _ h => h.keep0 E81
    have hO34 := hO34.keep0 E81
    have hm := hm.keep0 E81
    have hKQ := hKQ.kz E81
    have hTq57 := hTq57.kz E81
    have hO76 := hO76.keep0 E81
    have hb := below_step0 hb E81 hb.size
    have s81_2 := (hbs81 2 rfl).trans (sl_base hN47 rfl s47_2)
    have s81_3 := (hbs81 3 rfl).trans (sl_base hN47 rfl s47_3)
    have s81_21 := (hbs81 21 rfl).trans (sl_base hN47 rfl s47_21)
    have s81_22 := (hbs81 22 rfl).trans (sl_base hN47 rfl s47_22)
    have s81_23 := (hbs81 23 rfl).trans (sl_base hN47 rfl s47_23)
    have s81_27 : Sl a81 27 (ptr b40 0) := (hph81 0 _ 27 rfl rfl).2 rfl
    have s81_35 : Sl a81 35 v73 := (Option.some.inj ((hph81 8 _ 35 rfl rfl).1 2 rfl)).symm
    refine split_end ?_
    refine from_seq (tl := [_, _, _]) (by decide) (by kernel_rfl) rfl ?_
    refine op_nil (ev_base hN81 rfl s81_27) (op_field fld115_2 (ev_hit hN81 rfl) ?_)
    have hm_old := hm
    refine op_store (vs := [v73]) (cs' := [(Value.slice none 0 0), v34, v73]) size113 (ev_hit hN81 rfl) (ev_base hN81 rfl s81_35) hO76.cl rfl (by simp only [List.all_cons, List.all_nil, Bool.true_and, Bool.and_true, hO76.one]; try rfl) hm (Nat.le_of_ble_eq_true rfl) rfl ?_
    intro w84 hm E85
    have z_w84 := E85.size
    have hx := hx.keep E85 (by simp; omega)
    have hok := hok.keep E85 (fun k hk => .inr (by simp at hk; omega))
    have hoc := hoc.keep E85 (fun k hk => .inr (by simp at hk; omega))
    have ks := all9 ks fun _ h => h.keepX hm_old E85 (by decide)
    have hO34 := hO34.keepX hm_old E85 (by decide)
    have hKQ := hKQ.keepG (Gr.of E85) (Dj.one hdb) (NoK.ofBx hm_old (by decide))
    have hTq57 := hTq57.keepG (Gr.of E85) (Dj.one dj62) (NoK.ofBx hm_old (by decide))
    have hO76 := hO76.keepX hm_old E85 (by decide)
    have hb := below_step1 hb E85 hb.size (by omega)
    refine reg_nil (hK51 _ _ (one_reg (op_add (ev_base hN81 rfl s81_23) rfl (add64 (by omega)) ?_)))
    refine op_move (ev_hit hN81 rfl) (reg_nil ?_)
    -- round 24T
    exact loop_next _ hN81 hd81 ⟨(i + 1), v73, (Q ++ [q57]), (fun k => Wq57 k ∨ GQ k), rfl, (sl_base hN81 rfl s81_2), (sl_base hN81 rfl s81_3), (sl_base hN81 rfl s81_21), (sl_base hN81 rfl s81_22), (sl_hit hN81 rfl).trans (congrArg (Value.int .i64) (by omega)), (by omega), (by rw [List.length_append]; simp; omega), (fun k h => h.elim (fun q => Nat.le_trans (by omega) (hlo57 k q)) (hlo k)), (fun h => h.elim dj62 hdb), (fun k h1 h2 => h2.elim (dj61 k h1) (hdk k h1)), (fun k h1 h2 => h2.elim (dj80.symm k h1) (dj79.symm k h1)), hb, (by omega), hx, hok, hoc, ks, hO34, hm, (by rw [take_snoc hc]; exact Kids.snoc (A := TreeR kI R w84 h) hKQ hTq57 dj63.symm), (hO76.cast (by simp) (by simp [cN]))⟩ (by omega)
  ·
   refine reg_nil (hK49 _ _ (seq_any fun K86 hK86 => wp_cond_false (ev_hit hN47 rfl) (wp_exit (then_exit (then_exit (blk_hit ?_))))))
   refine hK45 _ _ ?_
   refine seq_any fun K87 hK87 => one_reg (op_move (ev_base hN47 rfl s47_3) (op_assign (ev_hit hN47 rfl) (reg_nil (hK87 _ _ (wp_ret ?_)))))
   refine ret1 rfl hd47 (ev_hit hN47 rfl) ⟨_, rfl, ?_⟩
   have hcs : cs.take i = cs := List.take_of_length_le (by omega)
   have hKQ2 : KidsR kI R w47 h Q cs GQ := by have := hKQ; rwa [hcs] at this
   exact ⟨hb, b40, _, rfl, mkNode (κ := kI) (K := K) (P := Q) hm hO34 hO48 ks hNd.kr hKQ2 hdb hdk hdc, nodeW_ge (by omega) (fun j h => (hO34.lt j h).1) (fun j h => (hO48.lt j h).1) hlo⟩
theorem copyAll : ∀ h, CopyP h
  | 0 => by
    intro R W p t w T hO h6 hR
    obtain ⟨pv, D, hL, e⟩ := T
    have e' : (D.map Prod.snd : List (Ky × Int)) = t := e
    subst e'
    exact copyL hL (by have h9 : (D.map Prod.snd).length ≤ 6 := h6; rw [List.length_map] at h9; omega)
  | h + 1 => by
    intro R W p t w T hO h6 hR
    obtain ⟨kv, cv, K, P, G, hN, hKs, e⟩ := T
    obtain ⟨kl, cs⟩ := t
    have e' : K.map Prod.snd = kl := e
    subst e'
    obtain ⟨g1, g2⟩ := ok_node.1 hO
    exact copyN (copyAll h) hN hKs g1 g2 (by have h9 : (K.map Prod.snd).length ≤ 6 := h6; simpa using h9) hR
theorem newBx {w : World} : Ret Try.prog 22 #[] w (fun v' w' => Below w.heap.size w w' ∧ ∃ p, v' = ptr p 0 ∧ w.heap.size ≤ p ∧ Bx w' p 71 [.pointer none]) := newI.mono fun v' w' h => by
  obtain ⟨E, p, e, h1, h2, h3, root, hB, hr⟩ := h
  rcases hr with ⟨_, rfl⟩ | ⟨q, R, W, _, hT, _⟩
  · exact ⟨E, p, e, (h2 p h1).1, hB⟩
  · exact hT.elim
theorem copyT0 {p : Nat} {w : World} (hx : Bx w p 71 [.pointer none]) : Ret Try.prog 34 #[(ptr p 0)] w (fun v' w' => Below w.heap.size w w' ∧ ∃ c, v' = ptr c 0 ∧ w.heap.size ≤ c ∧ Bx w' c 71 [.pointer none]) := by
 have hi_p := hx.lt
 have hb := Below.refl w.heap.size w
 refine enter (N := 21) Try.func34 rfl rfl (by simp) fun a0 hN hd hA => ?_
 have s0 : a0.tmps.getD 0 undef = (ptr p 0) := hA 0 (by simp)
 clear hA
 refine seq_any fun K1 hK1 => one_reg (op_assign rfl ?_)
 refine reg_nil (hK1 _ _ (seq_any fun K2 hK2 => seq_any fun K3 hK3 => one_reg (op_move (ev_base hN rfl s0) (op_peq_some ptrt45 (ev_hit hN rfl) rfl ?_))))
 refine reg_nil ?_
 refine hK3 _ _ (wp_cond_false (ev_hit hN rfl) (wp_skip (hK2 _ _ (seq_any fun K4 hK4 => one_reg (op_fn (vs := []) ok22 trivial (newBx) ?_)))))
 rintro _ w6 ⟨E7, pc5, rfl, lo_pc5, hpc5⟩
 have E7 := grown_of_below E7
 have z_w6 := E7.size
 have hx := hx.keep0 E7
 have hb := below_step0 hb E7 hb.size
 have hi_pc5 := hpc5.lt
 refine op_assign (ev_hit hN rfl) (reg_nil (hK4 _ _ (seq_any fun K8 hK8 => ?_)))
 refine seq_any fun K9 hK9 => one_reg (op_move (ev_base hN rfl s0) (op_nil (ev_hit hN rfl) (op_field fld71_0 (ev_hit hN rfl) (op_load1 (v := (Value.pointer none)) one69 (ev_hit hN rfl) (hx.cell rfl) (op_pne_none ptrt69 (ev_hit hN rfl) rfl ?_)))))
 refine reg_nil (hK9 _ _ (wp_cond_false (ev_hit hN rfl) (wp_skip (hK8 _ _ ?_))))
 refine seq_any fun K10 hK10 => one_reg (op_move (ev_hit hN rfl) (op_assign (ev_hit hN rfl) (reg_nil (hK10 _ _ (wp_ret ?_)))))
 refine ret1 rfl hd (ev_hit hN rfl) ⟨_, rfl, ?_⟩
 exact ⟨hb, pc5, rfl, by omega, hpc5⟩

theorem copyT1 {p h q : Nat} {t : Tr Int h} {R W : Nat → Prop} {w : World} (hx : Bx w p 71 [ptr q 0]) (hT : TreeR kI R w h q t W) (hO : Ok h t) (h6 : szT h t ≤ 6) (hR : ∀ k, R k → k < w.heap.size) : Ret Try.prog 34 #[(ptr p 0)] w (fun v' w' => Below w.heap.size w w' ∧ ∃ c, v' = ptr c 0 ∧ w.heap.size ≤ c ∧ ∃ q2 W2, Bx w' c 71 [ptr q2 0] ∧ TreeR kI R w' h q2 t W2 ∧ ∀ k, W2 k → w.heap.size ≤ k) := by
 have hi_p := hx.lt
 have hb := Below.refl w.heap.size w
 refine enter (N := 21) Try.func34 rfl rfl (by simp) fun a0 hN hd hA => ?_
 have s0 : a0.tmps.getD 0 undef = (ptr p 0) := hA 0 (by simp)
 clear hA
 refine seq_any fun K11 hK11 => one_reg (op_assign rfl ?_)
 refine reg_nil (hK11 _ _ (seq_any fun K12 hK12 => seq_any fun K13 hK13 => one_reg (op_move (ev_base hN rfl s0) (op_peq_some ptrt45 (ev_hit hN rfl) rfl ?_))))
 refine reg_nil ?_
 refine hK13 _ _ (wp_cond_false (ev_hit hN rfl) (wp_skip (hK12 _ _ (seq_any fun K14 hK14 => one_reg (op_fn (vs := []) ok22 trivial (newBx) ?_)))))
 rintro _ w16 ⟨E17, pc15, rfl, lo_pc15, hpc15⟩
 have E17 := grown_of_below E17
 have z_w16 := E17.size
 have hx := hx.keep0 E17
 have hb := below_step0 hb E17 hb.size
 have hi_pc15 := hpc15.lt
 refine op_assign (ev_hit hN rfl) (reg_nil (hK14 _ _ (seq_any fun K18 hK18 => ?_)))
 refine seq_any fun K19 hK19 => one_reg (op_move (ev_base hN rfl s0) (op_nil (ev_hit hN rfl) (op_field fld71_0 (ev_hit hN rfl) (op_load1 (v := (ptr q 0)) one69 (ev_hit hN rfl) (hx.cell rfl) (op_pne_some ptrt69 (ev_hit hN rfl) rfl ?_)))))
 refine reg_nil (hK19 _ _ (wp_cond_true (ev_hit hN rfl) ?_))
 refine one_reg (op_move (ev_hit hN rfl) (op_move (ev_base hN rfl s0) (op_nil (ev_hit hN rfl) (op_field fld71_0 (ev_hit hN rfl) (op_load1 (v := (ptr q 0)) one69 (ev_hit hN rfl) (hx.cell rfl) (op_fn (vs := [(ptr q 0)]) ok54 ⟨(ev_hit hN rfl), trivial⟩ (copyAll h (TreeR.later (B := w.heap.size) hT (Gr.ofBelow hb _) hT.ty.lt hR) hO h6 (fun k hk => Nat.lt_of_lt_of_le (hR k hk) hb.size)) ?_))))))
 rintro _ w21 ⟨E22, q20, Wq20, rfl, hTq20, hlo20⟩
 have E22 := grown_of_below E22
 have dj24 : ¬ Wq20 pc15 := fun hf => by have := hlo20 _ hf; have := hpc15.lt; omega
 have z_w21 := E22.size
 have hpc15 := hpc15.keep0 E22
 have hb := below_step0 hb E22 hb.size
 refine op_nil (ev_hit hN rfl) (op_field fld71_0 (ev_hit hN rfl) ?_)
 have hpc15_old := hpc15
 refine op_store (vs := [(ptr q20 0)]) (cs' := [(ptr q20 0)]) size69 (ev_hit hN rfl) (ev_hit hN rfl) rfl rfl rfl hpc15 (Nat.le_of_ble_eq_true rfl) rfl ?_
 intro w27 hpc15 E28
 have z_w27 := E28.size
 have hTq20 := hTq20.keepG (Gr.of E28) (Dj.one dj24) (NoK.ofBx hpc15_old (by decide))
 have hb := below_step1 hb E28 hb.size (by omega)
 refine reg_nil (hK18 _ _ ?_)
 refine seq_any fun K29 hK29 => one_reg (op_move (ev_hit hN rfl) (op_assign (ev_hit hN rfl) (reg_nil (hK29 _ _ (wp_ret ?_)))))
 refine ret1 rfl hd (ev_hit hN rfl) ⟨_, rfl, ?_⟩
 exact ⟨hb, pc15, rfl, by omega, q20, _, hpc15, hTq20, fun k hk => Nat.le_trans (by omega) (hlo20 k hk)⟩

theorem scanNil {w : World} {m : Int} : Ret Try.prog 24 #[(Value.pointer none), (Value.slice none 0 0), (Value.int .i64 m)] w (fun v' w' => Below w.heap.size w w' ∧ v' = .slice none 0 0) := by
 have hb := Below.refl w.heap.size w
 refine enter (N := 29) Try.func24 rfl rfl (by simp) fun a0 hN hd hA => ?_
 have s0 : a0.tmps.getD 0 undef = (Value.pointer none) := hA 0 (by simp)
 have s2 : a0.tmps.getD 2 undef = (Value.int .i64 m) := hA 2 (by simp)
 clear hA
 refine seq_any fun K30 hK30 => one_reg (op_box (cs := [(Value.int .i64 m)]) (ev_base hN rfl s2) rfl ?_)
 intro w31 b32 lo_b32 hi_b32 hB34 E33
 have z_w31 := E33.size
 have hb := below_step0 hb E33 hb.size
 refine op_assign rfl ?_
 refine reg_nil (hK30 _ _ (seq_any fun K35 hK35 => seq_any fun K36 hK36 => one_reg (op_move (ev_base hN rfl s0) (op_peq_none ptrt45 (ev_hit hN rfl) rfl ?_))))
 refine op_move (ev_hit hN rfl) (g_false (j := 2) (dj := 10) (b := false) rfl rfl rfl (ev_hit hN rfl) rfl rfl (g_false (j := 2) (dj := 10) (b := false) rfl rfl rfl (ev_hit hN rfl) rfl rfl (g_false (j := 2) (dj := 10) (b := false) rfl rfl rfl (ev_hit hN rfl) rfl rfl (g_false (j := 2) (dj := 10) (b := false) rfl rfl rfl (ev_hit hN rfl) rfl rfl (g_false (j := 2) (dj := 10) (b := false) rfl rfl rfl (ev_hit hN rfl) rfl rfl (op_pick_t (ev_hit hN rfl) rfl ?_))))))
 refine op_move (ev_hit hN rfl) (g_false (j := 9) (dj := 17) (b := false) rfl rfl rfl (ev_hit hN rfl) rfl rfl (g_false (j := 9) (dj := 17) (b := false) rfl rfl rfl (ev_hit hN rfl) rfl rfl (op_pick_t (ev_hit hN rfl) rfl ?_)))
 refine reg_nil (hK36 _ _ ?_)
 refine wp_cond_true (ev_hit hN rfl) (seq_any fun K37 hK37 => one_reg (op_assign rfl (reg_nil (hK37 _ _ (wp_ret (then_ret ( ?_)))))))
 refine ret1 rfl hd (ev_hit hN rfl) ⟨_, rfl, ?_⟩
 exact ⟨hb, rfl⟩

theorem levelsNil {w : World} : Ret Try.prog 33 #[(Value.pointer none)] w (fun v' w' => Below w.heap.size w w' ∧ v' = .slice none 0 0) := by
 have hb := Below.refl w.heap.size w
 refine enter (N := 50) Try.func33 rfl rfl (by simp) fun a0 hN hd hA => ?_
 have s0 : a0.tmps.getD 0 undef = (Value.pointer none) := hA 0 (by simp)
 clear hA
 refine seq_any fun K38 hK38 => one_reg (op_assign rfl ?_)
 refine reg_nil (hK38 _ _ (seq_any fun K39 hK39 => seq_any fun K40 hK40 => one_reg (op_move (ev_base hN rfl s0) (op_peq_none ptrt45 (ev_hit hN rfl) rfl ?_))))
 refine op_move (ev_hit hN rfl) (g_false (j := 2) (dj := 11) (b := false) rfl rfl rfl (ev_hit hN rfl) rfl rfl (g_false (j := 2) (dj := 11) (b := false) rfl rfl rfl (ev_hit hN rfl) rfl rfl (g_false (j := 2) (dj := 11) (b := false) rfl rfl rfl (ev_hit hN rfl) rfl rfl (g_false (j := 2) (dj := 11) (b := false) rfl rfl rfl (ev_hit hN rfl) rfl rfl (g_false (j := 2) (dj := 11) (b := false) rfl rfl rfl (ev_hit hN rfl) rfl rfl (op_pick_t (ev_hit hN rfl) rfl ?_))))))
 refine reg_nil (hK40 _ _ ?_)
 refine wp_cond_true (ev_hit hN rfl) (seq_any fun K41 hK41 => one_reg (op_assign rfl (reg_nil (hK41 _ _ (wp_ret (then_ret ( ?_)))))))
 refine ret1 rfl hd (ev_hit hN rfl) ⟨_, rfl, ?_⟩
 exact ⟨hb, rfl⟩

theorem lenNil {w : World} : Ret Try.prog 25 #[(Value.pointer none)] w (fun v' w' => Below w.heap.size w w' ∧ v' = .int .i64 0) := by
 have hb := Below.refl w.heap.size w
 refine enter (N := 28) Try.func25 rfl rfl (by simp) fun a0 hN hd hA => ?_
 have s0 : a0.tmps.getD 0 undef = (Value.pointer none) := hA 0 (by simp)
 clear hA
 refine seq_any fun K42 hK42 => one_reg ?_
 refine op_assign rfl (reg_nil (hK42 _ _ (seq_any fun K43 hK43 => one_reg (op_move (ev_base hN rfl s0) (op_fn (vs := [(Value.pointer none)]) ok33 ⟨(ev_hit hN rfl), trivial⟩ (levelsNil) ?_)))))
 rintro _ w44 ⟨E45, rfl⟩
 have E45 := grown_of_below E45
 have z_w44 := E45.size
 have hb := below_step0 hb E45 hb.size
 refine op_assign (ev_hit hN rfl) (reg_nil (hK43 _ _ (seq_any fun K46 hK46 => one_reg (op_assign rfl ?_))))
 refine reg_nil (hK46 _ _ (seq_any fun K47 hK47 => seq_any fun K48 hK48 => one_reg (op_move (ev_hit hN rfl) (op_len_rd Try.underlying28 (ev_hit hN rfl) (RdC.nil _ 0 0 1) ?_))))
 refine op_bin (v := .bool false) (ev_hit hN rfl) rfl (by rw [binOp_gtr]; rfl) (reg_nil (hK48 _ _ (wp_cond_false (ev_hit hN rfl) (wp_skip (hK47 _ _ ?_)))))
 refine seq_any fun K49 hK49 => one_reg (op_move (ev_hit hN rfl) (op_assign (ev_hit hN rfl) (reg_nil (hK49 _ _ (wp_ret ?_)))))
 refine ret1 rfl hd (ev_hit hN rfl) ⟨_, rfl, ?_⟩
 exact ⟨hb, rfl⟩

theorem getNil {w : World} : Ret Try.prog 30 #[(Value.pointer none), (Value.slice none 0 0)] w (fun v' w' => Below w.heap.size w w' ∧ v' = .tuple #[.int .i64 0, .bool false]) := by
 have hb := Below.refl w.heap.size w
 refine enter (N := 28) Try.func30 rfl rfl (by simp) fun a0 hN hd hA => ?_
 have s0 : a0.tmps.getD 0 undef = (Value.pointer none) := hA 0 (by simp)
 have s1 : a0.tmps.getD 1 undef = (Value.slice none 0 0) := hA 1 (by simp)
 clear hA
 refine seq_any fun K50 hK50 => one_reg ?_
 refine op_assign rfl (op_assign rfl (reg_nil (hK50 _ _ (seq_any fun K51 hK51 => one_reg (op_assign rfl ?_)))))
 refine reg_nil (hK51 _ _ (seq_any fun K52 hK52 => one_reg (op_move (ev_base hN rfl s0) (op_move (ev_base hN rfl s1) (op_fn (vs := [(Value.pointer none), (Value.slice none 0 0), (Value.int .i64 1)]) ok24 ⟨(ev_hit hN rfl), ⟨(ev_hit hN rfl), ⟨rfl, trivial⟩⟩⟩ (scanNil) ?_)))))
 rintro _ w53 ⟨E54, rfl⟩
 have E54 := grown_of_below E54
 have z_w53 := E54.size
 have hb := below_step0 hb E54 hb.size
 refine op_assign (ev_hit hN rfl) ?_
 refine reg_nil (hK52 _ _ (seq_any fun K55 hK55 => seq_any fun K56 hK56 => one_reg (op_move (ev_hit hN rfl) (op_len_rd Try.underlying48 (ev_hit hN rfl) (RdC.nil _ 0 0 1) ?_))))
 refine op_bin (v := .bool true) (ev_hit hN rfl) rfl (by rw [binOp_eql]; rfl) (op_move (ev_hit hN rfl) (g_false (j := 3) (dj := 14) (b := false) rfl rfl rfl (ev_hit hN rfl) rfl rfl ?_))
 refine g_false (j := 3) (dj := 14) (b := false) rfl rfl rfl (ev_hit hN rfl) rfl rfl (g_false (j := 3) (dj := 14) (b := false) rfl rfl rfl (ev_hit hN rfl) rfl rfl (g_false (j := 3) (dj := 14) (b := false) rfl rfl rfl (ev_hit hN rfl) rfl rfl (g_false (j := 3) (dj := 14) (b := false) rfl rfl rfl (ev_hit hN rfl) rfl rfl (g_false (j := 3) (dj := 14) (b := false) rfl rfl rfl (ev_hit hN rfl) rfl rfl (g_false (j := 3) (dj := 14) (b := false) rfl rfl rfl (ev_hit hN rfl) rfl rfl (op_pick_t (ev_hit hN rfl) rfl ?_))))))
 refine reg_nil (hK56 _ _ (wp_cond_true (ev_hit hN rfl) (seq_any fun K57 hK57 => ?_)))
 refine one_reg (op_move (ev_hit hN rfl) (op_assign (ev_hit hN rfl) (op_assign rfl (reg_nil (hK57 _ _ (wp_ret (then_ret ( ?_))))))))
 refine ret2 rfl hd (ev_hit hN rfl) (ev_hit hN rfl) ⟨_, rfl, ?_⟩
 exact ⟨hb, rfl⟩

theorem putNil {w : World} : Ret Try.prog 23 #[(Value.pointer none), (Value.slice none 0 0), (Value.int .i64 1)] w (fun v' w' => Below w.heap.size w w' ∧ v' = .bool false) := by
 have hb := Below.refl w.heap.size w
 refine enter (N := 51) Try.func23 rfl rfl (by simp) fun a0 hN hd hA => ?_
 have s0 : a0.tmps.getD 0 undef = (Value.pointer none) := hA 0 (by simp)
 clear hA
 refine seq_any fun K58 hK58 => one_reg (op_assign rfl ?_)
 refine reg_nil (hK58 _ _ (seq_any fun K59 hK59 => seq_any fun K60 hK60 => one_reg (op_move (ev_base hN rfl s0) (op_peq_none ptrt45 (ev_hit hN rfl) rfl ?_))))
 refine reg_nil (hK60 _ _ ?_)
 refine wp_cond_true (ev_hit hN rfl) (seq_any fun K61 hK61 => one_reg (op_assign rfl (reg_nil (hK61 _ _ (wp_ret (then_ret ( ?_)))))))
 refine ret1 rfl hd (ev_hit hN rfl) ⟨_, rfl, ?_⟩
 exact ⟨hb, rfl⟩

theorem dropNil {w : World} : Ret Try.prog 28 #[(Value.pointer none), (Value.slice none 0 0)] w (fun v' w' => Below w.heap.size w w' ∧ v' = .bool false) := by
 have hb := Below.refl w.heap.size w
 refine enter (N := 54) Try.func28 rfl rfl (by simp) fun a0 hN hd hA => ?_
 have s0 : a0.tmps.getD 0 undef = (Value.pointer none) := hA 0 (by simp)
 clear hA
 refine seq_any fun K62 hK62 => one_reg (op_assign rfl ?_)
 refine reg_nil (hK62 _ _ (seq_any fun K63 hK63 => seq_any fun K64 hK64 => one_reg (op_move (ev_base hN rfl s0) (op_peq_none ptrt45 (ev_hit hN rfl) rfl ?_))))
 refine op_move (ev_hit hN rfl) (g_false (j := 2) (dj := 8) (b := false) rfl rfl rfl (ev_hit hN rfl) rfl rfl (g_false (j := 2) (dj := 8) (b := false) rfl rfl rfl (ev_hit hN rfl) rfl rfl (g_false (j := 2) (dj := 8) (b := false) rfl rfl rfl (ev_hit hN rfl) rfl rfl (g_false (j := 2) (dj := 8) (b := false) rfl rfl rfl (ev_hit hN rfl) rfl rfl (g_false (j := 2) (dj := 8) (b := false) rfl rfl rfl (ev_hit hN rfl) rfl rfl (op_pick_t (ev_hit hN rfl) rfl ?_))))))
 refine reg_nil (hK64 _ _ ?_)
 refine wp_cond_true (ev_hit hN rfl) (seq_any fun K65 hK65 => one_reg (op_assign rfl (reg_nil (hK65 _ _ (wp_ret (then_ret ( ?_)))))))
 refine ret1 rfl hd (ev_hit hN rfl) ⟨_, rfl, ?_⟩
 exact ⟨hb, rfl⟩

theorem copyNil {w : World} : Ret Try.prog 34 #[(Value.pointer none)] w (fun v' w' => Below w.heap.size w w' ∧ v' = .pointer none) := by
 have hb := Below.refl w.heap.size w
 refine enter (N := 21) Try.func34 rfl rfl (by simp) fun a0 hN hd hA => ?_
 have s0 : a0.tmps.getD 0 undef = (Value.pointer none) := hA 0 (by simp)
 clear hA
 refine seq_any fun K66 hK66 => one_reg (op_assign rfl ?_)
 refine reg_nil (hK66 _ _ (seq_any fun K67 hK67 => seq_any fun K68 hK68 => one_reg (op_move (ev_base hN rfl s0) (op_peq_none ptrt45 (ev_hit hN rfl) rfl ?_))))
 refine reg_nil (hK68 _ _ ?_)
 refine wp_cond_true (ev_hit hN rfl) (seq_any fun K69 hK69 => one_reg (op_assign rfl (reg_nil (hK69 _ _ (wp_ret (then_ret ( ?_)))))))
 refine ret1 rfl hd (ev_hit hN rfl) ⟨_, rfl, ?_⟩
 exact ⟨hb, rfl⟩

end Go.Proofs.Ytcpfdfejojghbaa

namespace Go.Gx
open Go.Bt Go.RowKit
section
variable {w w' : World} {base p n : Nat} {M : List (Ky × Int)} {F H : Nat → Prop} {k : Ky} {v : Int}
def PairsR (base : Nat) (w : World) (p : Nat) (M : List (Ky × Int)) (F : Nat → Prop) : Prop :=
  ∃ kv vv, Bx w p 58 [kv, vv] ∧ Own w base 9 1 kv (M.map Prod.fst).length ((M.map Prod.fst).map sv) ∧ Own w base 3 1 vv (M.map Prod.snd).length ((M.map Prod.snd).map (Value.int .i64)) ∧ base ≤ p ∧ ∀ k, F k ↔ k = p ∨ Bl kv k ∨ Bl vv k
theorem PairsR.lt (T : PairsR base w p M F) : ∀ k, F k → base ≤ k ∧ k < w.heap.size := fun k hk => by
  obtain ⟨kv, vv, hB, h1, h2, hp, hF⟩ := T
  rcases (hF k).1 hk with rfl | hk | hk
  · exact ⟨hp, hB.lt⟩
  · exact h1.lt k hk
  · exact h2.lt k hk
theorem PairsR.keepG (T : PairsR base w p M F) (E : Gr w w' H) (hd : Dj F H) : PairsR base w' p M F := by
  obtain ⟨kv, vv, hB, h1, h2, hp, hF⟩ := T
  exact ⟨kv, vv, hB.keepG E (hd p ((hF p).2 (.inl rfl))), h1.keepG E (fun k h => hd k ((hF k).2 (.inr (.inl h)))), h2.keepG E (fun k h => hd k ((hF k).2 (.inr (.inr h)))), hp, hF⟩
theorem PairsR.kz (T : PairsR base w p M F) (E : w.grownBy w' none) : PairsR base w' p M F := T.keepG (Gr.of0 E NoB) (fun _ _ h => h)
theorem putL_new (H : SortedL M) (hc : (ks1 M).contains k = false) : (putL k v M).map Prod.fst = (M.map Prod.fst).take (pos (ks1 M) k) ++ [k] ++ (M.map Prod.fst).drop (pos (ks1 M) k) ∧ (putL k v M).map Prod.snd = (M.map Prod.snd).take (pos (ks1 M) k) ++ [v] ++ (M.map Prod.snd).drop (pos (ks1 M) k) := by
  rw [putL_pos H, hc]
  simp [List.map_take, List.map_drop]
theorem split_at {α : Type} {l : List α} {i : Nat} (h : i < l.length) : l.take i ++ l[i] :: l.drop (i + 1) = l := by
  rw [← List.drop_eq_getElem_cons h, List.take_append_drop]
theorem putL_old (H : SortedL M) (hc : (ks1 M).contains k = true) : (putL k v M).map Prod.fst = M.map Prod.fst ∧ (putL k v M).map Prod.snd = (M.map Prod.snd).set (pos (ks1 M) k) v := by
  obtain ⟨hl, hk⟩ := pos_hit (show Sorted (ks1 M) from H) (List.contains_iff_mem.1 hc)
  have hl' : pos (ks1 M) k < M.length := by simpa using hl
  rw [putL_pos H, hc]
  constructor
  · rw [List.map_append, List.map_cons, List.map_take, List.map_drop]
    have := split_at hl
    rw [hk] at this
    exact this
  · rw [List.map_append, List.map_cons, List.map_take, List.map_drop, List.set_eq_take_append_cons_drop, if_pos (c := pos (ks1 M) k < (M.map Prod.snd).length) (by simpa using hl')]
    rfl
theorem set_ints9 {α : Type} {f : α → Value} {l : List α} {i : Nat} {x : α} (h : i < l.length) : (l.map f).take i ++ [f x] ++ (l.map f).drop (i + 1) = (l.set i x).map f := by
  rw [List.map_set, List.set_eq_take_append_cons_drop, if_pos (by simpa using h)]
  simp
theorem pos_lt9 {ks : List Ky} (hs : Sorted ks) (hc : ks.contains k = true) : pos ks k < ks.length := (pos_hit hs (List.contains_iff_mem.1 hc)).1
theorem at_new {ks : List Ky} (hs : Sorted ks) {i : Nat} (h1 : i ≤ pos ks k) (h2 : i < ks.length → ¬ cmpT (ks.getD i []) k < 0) : i = pos ks k := by
  have hp := pos_le ks k
  rcases Nat.lt_or_ge i ks.length with h | h
  · have := (pos_step hs h).2 (h2 h); omega
  · omega
theorem at_is {ks : List Ky} (hs : Sorted ks) {i : Nat} (h1 : i = pos ks k) (h : i < ks.length) : decide (ks.getD i [] = k) = ks.contains k := by
  rw [← pos_found hs h1 h]
  exact decide_eq_decide.2 cmpT_zero.symm
end
end Go.Gx
namespace Go.Gx
theorem one_i64 (l : List Int) : (l.map (Value.int .i64)).all Value.oneCell' = true := by simp [Value.oneCell']
end Go.Gx
namespace Go.Gx
theorem getD_mem9 {α : Type} {l : List α} {i : Nat} {d : α} (h : i < l.length) : l.getD i d ∈ l := by
  rw [List.getD_eq_getElem?_getD, List.getElem?_eq_getElem h]; exact List.getElem_mem h
end Go.Gx
namespace Go.Gx
open Go.Bt Go.RowKit
theorem xorU (c d : UInt8) : bits .xor .u8 (c.toNat : Int) (d.toNat : Int) = ((c ^^^ d).toNat : Int) := by
  have e1 : ∀ c : UInt8, BitVec.ofInt 8 (c.toNat : Int) = c.toBitVec := fun c => by rw [BitVec.ofInt_natCast]; exact BitVec.ofNat_toNat 8 c.toBitVec
  show IntKind.u8.wrap ((BitVec.ofInt 8 (c.toNat : Int) ^^^ BitVec.ofInt 8 (d.toNat : Int)).toNat : Int) = _
  rw [e1, e1]
  have h : (c.toBitVec ^^^ d.toBitVec).toNat = (c ^^^ d).toNat := rfl
  rw [h]
  have := (c ^^^ d).toNat_lt
  exact wrap_u8 (by omega)
theorem xor1 (c : UInt8) : bits .xor .u8 (c.toNat : Int) 1 = ((c ^^^ 1).toNat : Int) := xorU c 1
section
variable {D : List (DP Int)} {M : List (Ky × Int)} {i k n : Nat}
theorem scan_at (hE : D.map Prod.snd = (M.drop i).take n) (h : k < D.length) : (D.getD k default).2 = M.getD (i + k) default ∧ i + k < M.length := by
  have e := congrArg (fun l : List (Ky × Int) => l[k]?) hE
  simp only [List.getElem?_map, List.getElem?_take, List.getElem?_drop] at e
  rw [List.getElem?_eq_getElem h] at e
  split at e
  · have hl : i + k < M.length := by
      rcases Nat.lt_or_ge (i + k) M.length with q | q
      · exact q
      · rw [List.getElem?_eq_none q] at e; cases e
    rw [List.getElem?_eq_getElem hl] at e
    simp only [Option.map_some, Option.some.injEq] at e
    rw [List.getD_eq_getElem?_getD, List.getD_eq_getElem?_getD, List.getElem?_eq_getElem h, List.getElem?_eq_getElem hl]
    exact ⟨e, hl⟩
  · cases e
theorem drop_mem (h : k < D.length) : pk (D.getD k default) ∈ (D.drop k).map pk := by
  refine List.mem_map.2 ⟨_, ?_, rfl⟩
  rw [List.drop_eq_getElem_cons h, List.getD_eq_getElem?_getD, List.getElem?_eq_getElem h]
  exact List.mem_cons_self ..
theorem drop_more {x9 : DK} (h : x9 ∈ (D.drop (k + 1)).map pk) : x9 ∈ (D.drop k).map pk := by
  obtain ⟨y, hy, rfl⟩ := List.mem_map.1 h
  refine List.mem_map.2 ⟨y, ?_, rfl⟩
  rw [← List.drop_drop] at hy
  exact List.mem_of_mem_drop hy
theorem pw_drop (hp : (D.map pk).Pairwise (fun a b => Dj (Bl a.1) (Bl b.1))) (h : k < D.length) : ∀ x9 ∈ (D.drop (k + 1)).map pk, DJ x9.1 (D.getD k default).1 := fun x9 h9 => by
  have hs := hp.sublist ((List.drop_sublist k D).map pk)
  rw [List.drop_eq_getElem_cons h, List.map_cons, List.pairwise_cons] at hs
  have e : D.getD k default = D[k] := by rw [List.getD_eq_getElem?_getD, List.getElem?_eq_getElem h]; rfl
  intro j h1 h2
  rw [e] at h2
  exact hs.1 x9 h9 j h2 h1
theorem scan_len {x : Ky} {m : Int} (hs : SortedL M) (hE : D.map Prod.snd = (geL x M).take m.toNat) : D.map Prod.snd = (M.drop (pos (ks1 M) x)).take m.toNat ∧ D.length = min m.toNat (M.length - pos (ks1 M) x) := by
  rw [geL_pos hs] at hE
  refine ⟨hE, ?_⟩
  have := congrArg List.length hE
  simpa using this
end
end Go.Gx
namespace Go.Gx
open Go.Bt Go.RowKit
section
variable {V : Type} {κ : Kd V} {w : World} {F : Nat → Prop} {b base base' p tT e sz n : Nat} {M : List (Ky × V)} {v : Value} {cs : List Value}
theorem hapB (h : ¬ F b) : ∀ j, F j → j < b ∨ b + 1 ≤ j := fun j hj => by
  rcases Nat.lt_trichotomy j b with q | q | q
  · exact .inl q
  · subst q; exact absurd hj h
  · exact .inr q
theorem own_at (O : Own w base e sz v n cs) (hd : Dj (Bl v) F) : ∃ L B, RdC w L B sz v n cs ∧ B ≤ w.heap.size ∧ ∀ j, F j → j < L ∨ B ≤ j := by
  rcases hv : v.ownBlock with _ | b
  · refine ⟨w.heap.size, 0, ?_, Nat.zero_le _, fun j _ => .inr (Nat.zero_le _)⟩
    rcases O.2 with ⟨rfl, _⟩ | ⟨g, off, cap, cur, fr, rfl, _⟩
    · have hn : n = 0 := by rcases O with ⟨_, ⟨_, h⟩ | ⟨g, off, cap, cur, fr, h, _⟩⟩; exact h; cases h
      have hc : cs = [] := List.eq_nil_of_length_eq_zero (by rw [O.1, hn, Nat.zero_mul])
      subst hn; subst hc; exact RdC.nil _ _ _ _
    · cases hv
  · have h1 := O.rebase (base' := b) (fun k hk => by rw [hv] at hk; injection hk with hk; omega)
    refine ⟨b, b + 1, h1.rd (fun k hk => by rw [hv] at hk; injection hk with hk; omega), (O.lt b hv).2, hapB fun hf => hd b hv hf⟩
theorem TopL.rebase (T : TopL κ tT base w p M F) (h : base' ≤ base) : TopL κ tT base' w p M F := by
  obtain ⟨o, ⟨h1, h2, h3, h4⟩, e⟩ := T
  exact ⟨o, ⟨h1, fun k hk => ⟨Nat.le_trans h (h2 k hk).1, (h2 k hk).2⟩, h3, h4⟩, e⟩
end
end Go.Gx
namespace Go.Bt
theorem one_sum {r : List Nat} {n : Nat} (h : r.length = 1) (hs : r.sum = n) : r.getD 0 0 = n := by
  match r, h with
  | [a], _ => simpa using hs
end Go.Bt

namespace Go.Bt
section
variable {V : Type} {L : List (List Nat)} {n d m i j : Nat} {M : List (Ky × V)} {v : V}
def k2 (k : Nat) : Ky := [UInt8.ofNat (k / 256), UInt8.ofNat k]
end
end Go.Bt
namespace Go.Bt
section
variable {M N : List (Ky × Int)} {i n kk : Nat} {f g : Nat → UInt16}
theorem put_len (H : SortedL M) {k : Ky} {v : Int} (h : M.length ≤ i) : (putL k v M).length ≤ i + 1 := by
  rw [putL_len H]; split <;> omega
end
end Go.Bt
namespace Go.Gx
open Go.Bt
end Go.Gx
namespace Go.Bt
section
variable {M : List (Ky × Int)} {D : List (Ky × Int)} {i n s : Nat} {k : Ky}
theorem put_short (H : ∀ q ∈ M, q.1.length = 2) {x : UInt16} {v : Int} : ∀ q ∈ putL (k2 x.toNat) v M, q.1.length = 2 := fun q hq => by
  rcases mem_putL.1 hq with rfl | ⟨_, h⟩
  · rfl
  · exact H q h
end
end Go.Bt
namespace Go.Gx
open Go.Bt
end Go.Gx
namespace Go.Bt
end Go.Bt
namespace Go.Bt
section
variable {V W : Type} {M : List (Ky × V)} {N : List (Ky × W)} {x k : Ky} {v : V} {u : W} {l : List UInt16} {b : UInt8} {i n j : Nat}
def b8 (x : UInt16) : UInt8 := UInt8.ofNat x.toNat
end
end Go.Bt
namespace Go.Bt
section
variable {M : List (Ky × Int)} {k : Ky} {v : Int}
theorem drop_le (H : SortedL M) : (dropL k M).length ≤ M.length := by have := dropL_len (k := k) H; omega
end
end Go.Bt

namespace Go.Gx
open Go.Bt Go.RowKit
section
variable {w w' : World} {p q base n : Nat} {M : List (Ky × Int)} {o : TO Int} {R R' F H W : Nat → Prop}
def TopC (w : World) (p : Nat) (M : List (Ky × Int)) (R F : Nat → Prop) : Prop :=
  ∃ o, toLO o = M ∧ OkO o ∧ (∀ k, R k → k < w.heap.size) ∧ ∃ root, Bx w p 71 [root] ∧ (o = none ∧ root = .pointer none ∧ (∀ k, F k ↔ k = p) ∨ ∃ q W, root = ptr q 0 ∧ TreeO kI R w o q W ∧ ∀ k, F k ↔ k = p ∨ W k)
theorem TopC.lt (T : TopC w p M R F) : ∀ k, F k → 0 ≤ k ∧ k < w.heap.size := fun k hk => by
  obtain ⟨o, e, hO, hR, root, hB, ⟨_, _, hF⟩ | ⟨q, W, _, hT, hF⟩⟩ := T
  · rw [(hF k).1 hk]; exact ⟨Nat.zero_le _, hB.lt⟩
  · rcases (hF k).1 hk with rfl | h
    · exact ⟨Nat.zero_le _, hB.lt⟩
    · exact hT.lt k h
theorem TopC.self (T : TopC w p M R F) : F p := by
  obtain ⟨o, e, hO, hR, root, hB, ⟨_, _, hF⟩ | ⟨q, W, _, hT, hF⟩⟩ := T
  · exact (hF p).2 rfl
  · exact (hF p).2 (.inl rfl)
theorem TopC.keepG (T : TopC w p M R F) (E : Gr w w' H) (hd : Dj F H) (hn : NoK w H) : TopC w' p M R F := by
  have hp := T.self
  obtain ⟨o, e, hO, hR, root, hB, hr⟩ := T
  refine ⟨o, e, hO, fun k hk => Nat.lt_of_lt_of_le (hR k hk) E.size, root, hB.keepG E (hd p hp), ?_⟩
  rcases hr with hr | ⟨q, W, h1, hT, hF⟩
  · exact .inl hr
  · exact .inr ⟨q, W, h1, hT.keepG E (fun k hk => hd k ((hF k).2 (.inr hk))) hn, hF⟩
theorem TopC.kz (T : TopC w p M R F) (E : w.grownBy w' none) : TopC w' p M R F := T.keepG (Gr.of0 E NoB) (fun _ _ h => h) (NoK.no _)
theorem TopC.top (T : TopC w p M R F) : ∃ F2, TopL kI 71 0 w p M F2 := by
  obtain ⟨o, e, hO, hR, root, hB, ⟨rfl, h1, hF⟩ | ⟨q, W, h1, hT, hF⟩⟩ := T
  · exact ⟨fun k => k = p, none, ⟨rfl, fun k hk => by rw [hk]; exact ⟨Nat.zero_le _, hB.lt⟩, hO, root, hB, .inl ⟨rfl, h1⟩⟩, e⟩
  · refine ⟨fun k => k = p ∨ W k ∨ R k, o, ⟨.inl rfl, fun k hk => ?_, hO, root, hB, .inr ⟨q, R, W, h1, hT, fun k h => .inr (.inl h), fun k h => .inr (.inr h)⟩⟩, e⟩
    rcases hk with rfl | hk | hk
    · exact ⟨Nat.zero_le _, hB.lt⟩
    · exact hT.lt k hk
    · exact ⟨Nat.zero_le _, hR k hk⟩
theorem TopL.toC (T : TopL kI 71 base w p M F) : ∃ R F', TopC w p M R F' ∧ (∀ k, F' k → F k) := by
  obtain ⟨o, ⟨h1, h2, hO, root, hB, hr⟩, e⟩ := T
  rcases hr with ⟨rfl, hr⟩ | ⟨q, R, W, hr, hT, hW, hR⟩
  · exact ⟨NoB, fun k => k = p, ⟨none, e, hO, fun _ h => h.elim, root, hB, .inl ⟨rfl, hr, fun _ => Iff.rfl⟩⟩, fun k hk => by rw [hk]; exact h1⟩
  · exact ⟨R, fun k => k = p ∨ W k, ⟨o, e, hO, fun k hk => (h2 k (hR k hk)).2, root, hB, .inr ⟨q, W, hr, hT, fun _ => Iff.rfl⟩⟩, fun k hk => hk.elim (fun e => e ▸ h1) (hW k)⟩
theorem TopC.after {o2 : TO Int} {W2 : Nat → Prop} (hs : ∀ k, R k → k < w.heap.size) (E : w.heap.size ≤ w'.heap.size) (hF : F p) (hO : OkO o2) (hB : Bx w' p 71 [ptr q 0]) (hT : TreeO kI (fun j => R j ∨ w.heap.size ≤ j) w' o2 q W2) (hW : ∀ j, W2 j → F j ∨ w.heap.size ≤ j) :
    ∃ R' F', TopC w' p (toLO o2) R' F' ∧ NewF w.heap.size F F' := by
  match o2, hT with
  | some ⟨h, t⟩, hT =>
    have hT : TreeR kI (fun j => R j ∨ w.heap.size ≤ j) w' h q t W2 := hT
    refine ⟨_, fun k => k = p ∨ W2 k, ⟨_, rfl, hO, fun k hk => ?_, _, hB, .inr ⟨q, W2, rfl, hT.ltR, fun _ => Iff.rfl⟩⟩, fun k hk => ?_⟩
    · exact hk.2
    · exact hk.elim (fun e => .inl (e ▸ hF)) (hW k)
theorem TopL.ofBx (B : Bx w p 71 [.pointer none]) (hb : base ≤ p) : TopL kI 71 base w p [] (fun k => k = p) :=
  ⟨none, ⟨rfl, fun k hk => by rw [hk]; exact ⟨hb, B.lt⟩, trivial, _, B, .inl ⟨rfl, rfl⟩⟩, rfl⟩
def TopB (base : Nat) (w : World) (p : Nat) (M : List (Ky × Int)) (R F : Nat → Prop) : Prop := TopC w p M R F ∧ ∀ k, F k → base ≤ k
theorem TopB.lt (T : TopB base w p M R F) : ∀ k, F k → base ≤ k ∧ k < w.heap.size := fun k hk => ⟨T.2 k hk, (T.1.lt k hk).2⟩
theorem TopB.keepG (T : TopB base w p M R F) (E : Gr w w' H) (hd : Dj F H) (hn : NoK w H) : TopB base w' p M R F := ⟨T.1.keepG E hd hn, T.2⟩
theorem TopB.kz (T : TopB base w p M R F) (E : w.grownBy w' none) : TopB base w' p M R F := T.keepG (Gr.of0 E NoB) (fun _ _ h => h) (NoK.no _)
theorem TopB.sorted (T : TopB base w p M R F) : SortedL M := by obtain ⟨F2, h⟩ := T.1.top; exact h.sorted
theorem low_step {n : Nat} (hb : base ≤ n) (hF : ∀ k, F k → base ≤ k) (hN : NewF n F H) : ∀ k, H k → base ≤ k := fun k hk => (hN k hk).elim (hF k) (fun h => Nat.le_trans hb h)
end
end Go.Gx

namespace Go.Proofs.Ytcpfdfejojghbaa
open Go.Gx Go.RowKit
attribute [local irreducible] wpList wpStill Code.wp Calls
open Go.Bt
theorem putC {M : List (Ky × Int)} {k : List UInt8} {xv : Value} {x : Int} {R F : Nat → Prop} {p L B : Nat} {w : World} (hT : TopC w p M R F) (hk : RdC w L B 1 xv k.length (k.map u8v)) (hB : B ≤ w.heap.size) (hap : ∀ j, F j → j < L ∨ B ≤ j) (hkn : k.length ≤ 1000000000) :
    Ret Try.prog 23 #[ptr p 0, xv, .int .i64 x] w (fun v' w' => Gr w w' F ∧ v' = .bool ((ks1 M).contains k) ∧ ∃ R' F', TopC w' p (putL k x M) R' F' ∧ NewF w.heap.size F F') := by
  have hp := hT.self
  obtain ⟨o, rfl, hO, hR, root, hBx, hr⟩ := hT
  have ho := (putO_ok (k := k) (x := x) hO).1
  rcases hr with ⟨rfl, rfl, hF⟩ | ⟨q, W, rfl, hTO, hF⟩
  · refine (putT0I (R := R) (x := x) hBx hp hk hB hap hkn).mono fun v' w' h => ?_
    obtain ⟨E, hv, q2, W2, hB2, hTO2, hW2⟩ := h
    have := TopC.after (F := F) hR E.size hp ho hB2 hTO2 hW2
    rw [put_toL hO] at this
    exact ⟨E, hv.trans (congrArg Value.bool (put_was (v := x) hO)), this⟩
  · match o, hO, hTO, ho with
    | some ⟨h, t⟩, hO, hTO, ho =>
      refine (putT1I (x := x) hBx hp hTO (fun j hj => (hF j).2 (.inr hj)) hO.1 hO.2.2 hk hB hap hkn).mono fun v' w' h => ?_
      obtain ⟨E, hv, q2, W2, hB2, hTO2, hW2⟩ := h
      have := TopC.after (F := F) hR E.size hp ho hB2 hTO2 hW2
      rw [put_toL hO] at this
      exact ⟨E, hv.trans (congrArg Value.bool (put_was (o := some ⟨h, t⟩) (v := x) hO)), this⟩
theorem dropC {M : List (Ky × Int)} {k : List UInt8} {xv : Value} {R F : Nat → Prop} {p : Nat} {w : World} (hT : TopC w p M R F) (hxr : RdC w 0 w.heap.size 1 xv k.length (k.map u8v)) :
    Ret Try.prog 28 #[ptr p 0, xv] w (fun v' w' => Gr w w' F ∧ v' = .bool ((ks1 M).contains k) ∧ ∃ R' F', TopC w' p (Go.Bt.dropL k M) R' F' ∧ NewF w.heap.size F F') := by
  have hp := hT.self
  have hT0 := hT
  obtain ⟨o, rfl, hO, hR, root, hBx, hr⟩ := hT
  have ho := (dropO_ok (k := k) hO).1
  rcases hr with ⟨rfl, rfl, hF⟩ | ⟨q, W, rfl, hTO, hF⟩
  · refine (dropT0 hBx).mono fun v' w' h => ?_
    obtain ⟨E, rfl⟩ := h
    exact ⟨Gr.ofBelow E _, rfl, R, F, hT0.keepG (Gr.ofBelow E NoB) (fun _ _ h => h) (NoK.no _), NewF.refl _ _⟩
  · match o, hO, hTO, ho, hT0 with
    | some ⟨h, t⟩, hO, hTO, ho, _ =>
      refine (dropT1 hBx hp hTO (fun j hj => (hF j).2 (.inr hj)) hO.1 hO.2.1 hO.2.2 hxr).mono fun v' w' h => ?_
      obtain ⟨E, hv, ⟨q2, W2, hB2, hT2, hW2⟩ | ⟨hB2, hn⟩⟩ := h
      · have := TopC.after (F := F) hR E.size hp ho hB2 (TreeO.monoR hT2 fun j h => .inl h) hW2
        rw [drop_toL hO] at this
        exact ⟨E, hv.trans (congrArg Value.bool (drop_was (o := some ⟨h, t⟩) hO)), this⟩
      · have e2 : (dropO k (some ⟨h, t⟩)).2 = none := hn
        have e3 := drop_toL (k := k) (o := some ⟨h, t⟩) hO
        rw [e2] at e3
        exact ⟨E, hv.trans (congrArg Value.bool (drop_was (o := some ⟨h, t⟩) hO)), R, fun k => k = p, ⟨none, e3, trivial, fun k hk => Nat.lt_of_lt_of_le (hR k hk) E.size, _, hB2, .inl ⟨rfl, rfl, fun _ => Iff.rfl⟩⟩, fun j hj => .inl (by rw [hj]; exact hp)⟩
theorem copyC {M : List (Ky × Int)} {R F : Nat → Prop} {p : Nat} {w : World} (hT : TopC w p M R F) : Ret Try.prog 34 #[ptr p 0] w (fun v' w' => Below w.heap.size w w' ∧ ∃ c F2, v' = ptr c 0 ∧ TopC w' c M R F2 ∧ ∀ k, F2 k → w.heap.size ≤ k) := by
  obtain ⟨o, rfl, hO, hR, root, hBx, hr⟩ := hT
  rcases hr with ⟨rfl, rfl, hF⟩ | ⟨q, W, rfl, hTO, hF⟩
  · refine (copyT0 hBx).mono fun v' w' h => ?_
    obtain ⟨E, c, e, hc, hB2⟩ := h
    exact ⟨E, c, fun k => k = c, e, ⟨none, rfl, trivial, fun k hk => Nat.lt_of_lt_of_le (hR k hk) E.size, _, hB2, .inl ⟨rfl, rfl, fun _ => Iff.rfl⟩⟩, fun k hk => by rw [hk]; exact hc⟩
  · match o, hO, hTO with
    | some ⟨h, t⟩, hO, hTO =>
      refine (copyT1 hBx hTO hO.1 hO.2.2 hR).mono fun v' w' h => ?_
      obtain ⟨E, c, e, hc, q2, W2, hB2, hT2, hW2⟩ := h
      exact ⟨E, c, fun k => k = c ∨ W2 k, e, ⟨_, rfl, hO, fun k hk => Nat.lt_of_lt_of_le (hR k hk) E.size, _, hB2, .inr ⟨q2, W2, rfl, hT2, fun _ => Iff.rfl⟩⟩, fun k hk => hk.elim (fun e => e ▸ hc) (hW2 k)⟩
end Go.Proofs.Ytcpfdfejojghbaa
