/- Walks, written by a program: what each function of the translation hands back. -/
import Derived.Test.YtcpfdfejojghbaaB4
set_option linter.unusedVariables false
set_option linter.unusedSimpArgs false

namespace Go.Proofs.Ytcpfdfejojghbaa
open Go.Gx Go.RowKit
attribute [local irreducible] wpList wpStill Code.wp Calls
open Go.Bt
theorem lendNL {i p : Nat} {R W G f g G0 : Nat → Prop} {kv cv : Value} {K : List DK} {P : List Nat} {w : World} (hNd : NodeR kI R w p kv cv K P G W) (hfg : Dj f g) (hfG : Dj f G0) (hgG : Dj g G0) (hfs : ∀ k, f k → G k) (hgs : ∀ k, g k → G k) (hGs : ∀ k, G0 k → G k) (hPl : P.length = K.length + 1) (hi : i < K.length) (hn : K.length ≤ 7) {h : Nat} {cs : List (Tr Int (h + 1))} {ta tb : List (Tr Int h)} {ka ca kb cb : Value} {Ka Kb : List DK} {Pa Pb : List Nat} {Ga Gb : Nat → Prop} (hA : NodeR kI R w (P.getD i default) ka ca Ka Pa Ga f) (hKa : KidsR kI R w h Pa ta Ga) (hB : NodeR kI R w (P.getD (i + 1) default) kb cb Kb Pb Gb g) (hKb : KidsR kI R w h Pb tb Gb) (hr : KidsR kI R w (h + 1) ((P.eraseIdx i).eraseIdx i) ((cs.eraseIdx i).eraseIdx i) G0) (hPc : P.length = cs.length) (ha : cs[i]? = some ((Ka.map Prod.snd, ta) : Tr Int (h + 1))) (hb9 : cs[i + 1]? = some ((Kb.map Prod.snd, tb) : Tr Int (h + 1))) (hla : ta.length = Ka.length + 1) (hlb : tb.length = Kb.length + 1) (hna : Ka.length ≤ 7) (hnb : Kb.length ≤ 7) (h3 : 3 < Kb.length) : Ret Try.prog 120 #[(ptr p 0), (Value.int .i64 ((i : Nat) : Int)), (Value.bool true)] w (fun v' w' => Gr w w' W ∧ v' = .bool true ∧ ∃ W', TreeR kI R w' (h + 1 + 1) p (lendT (h + 1) (K.map Prod.snd) cs i true) W' ∧ NewF w.heap.size W W') := by
 have h0 : 0 ≤ w.heap.size := Nat.zero_le _
 have hx : Bx w p 115 [.slice none 0 0, kv, cv] := hNd.bx
 have ok := hNd.ok
 have oc : Own w 0 69 1 cv P.length (P.flatMap cN) := hNd.oc
 have ks := hNd.ks
 have hi_p := hx.lt
 have djkG : Dj (Bl kv) G0 := hNd.nk.mono hGs
 have djcG : Dj (Bl cv) G0 := hNd.nc.mono hGs
 have djpG : ¬ G0 p := fun q => hNd.np (hGs p q)
 obtain ⟨G1, G2, hkq1, hkq2, d12, su1, su2⟩ := Kids.split hKb 1
 have hxa : Bx w (P.getD i default) 115 [.slice none 0 0, ka, ca] := hA.bx
 have oka := hA.ok
 have oca : Own w 0 69 1 ca Pa.length (Pa.flatMap cN) := hA.oc
 have kas := hA.ks
 have hxb : Bx w (P.getD (i + 1) default) 115 [.slice none 0 0, kb, cb] := hB.bx
 have okb := hB.ok
 have ocb : Own w 0 69 1 cb Pb.length (Pb.flatMap cN) := hB.oc
 have kbs := hB.ks
 have hi_a := hxa.lt
 have hi_b := hxb.lt
 have hPa : Pa.length = ta.length := hKa.len
 have hPb : Pb.length = tb.length := hKb.len
 have hab : (P.getD i default) ≠ (P.getD (i + 1) default) := fun e => hfg _ hA.wp (e ▸ hB.wp)
 have hpa : p ≠ (P.getD i default) := fun e => hNd.np (e ▸ hfs _ hA.wp)
 have hpb : p ≠ (P.getD (i + 1) default) := fun e => hNd.np (e ▸ hgs _ hB.wp)
 have dk3 : DJ kv ka := fun k h1 h2 => hNd.nk k h1 (hfs k (hA.wk k h2))
 have dk4 : DJ kv kb := fun k h1 h2 => hNd.nk k h1 (hgs k (hB.wk k h2))
 have dk5 : DJ cv ca := fun k h1 h2 => hNd.nc k h1 (hfs k (hA.wc k h2))
 have dk6 : DJ cv cb := fun k h1 h2 => hNd.nc k h1 (hgs k (hB.wc k h2))
 have dk7 : DJ ka kb := fun k h1 h2 => hfg k (hA.wk k h1) (hB.wk k h2)
 have dk8 : DJ ca cb := fun k h1 h2 => hfg k (hA.wc k h1) (hB.wc k h2)
 have dk9 : Dj (Bl ka) G0 := fun k h1 h2 => hfG k (hA.wk k h1) h2
 have dk10 : Dj (Bl ca) G0 := fun k h1 h2 => hfG k (hA.wc k h1) h2
 have dk11 : Dj (Bl kb) G0 := fun k h1 h2 => hgG k (hB.wk k h1) h2
 have dk12 : Dj (Bl cb) G0 := fun k h1 h2 => hgG k (hB.wc k h1) h2
 have dk13 : ¬ G0 (P.getD i default) := hfG _ hA.wp
 have dk14 : ¬ G0 (P.getD (i + 1) default) := hgG _ hB.wp
 have dk15 : Dj (Bl kv) Ga := hNd.nk.mono fun k q => hfs k (hA.wg k ((fun _ q => q) k q))
 have dk16 : Dj (Bl cv) Ga := hNd.nc.mono fun k q => hfs k (hA.wg k ((fun _ q => q) k q))
 have dk17 : ¬ Ga p := fun q => hNd.np (hfs _ (hA.wg _ ((fun _ q => q) _ q)))
 have dk18 : Dj (Bl ka) Ga := hA.nk.mono (fun _ q => q)
 have dk19 : Dj (Bl ca) Ga := hA.nc.mono (fun _ q => q)
 have dk20 : Dj (Bl kb) Ga := fun k h1 h2 => hfg k (hA.wg k ((fun _ q => q) k h2)) (hB.wk k h1)
 have dk21 : Dj (Bl cb) Ga := fun k h1 h2 => hfg k (hA.wg k ((fun _ q => q) k h2)) (hB.wc k h1)
 have dk22 : ¬ Ga (P.getD i default) := fun q => hA.np ((fun _ q => q) _ q)
 have dk23 : ¬ Ga (P.getD (i + 1) default) := fun q => hfg _ (hA.wg _ ((fun _ q => q) _ q)) hB.wp
 have dk24 : Dj Ga G0 := fun k h1 h2 => hfG k (hA.wg k ((fun _ q => q) k h1)) h2
 have dk25 : Dj (Bl kv) G1 := hNd.nk.mono fun k q => hgs k (hB.wg k (su1 k q))
 have dk26 : Dj (Bl cv) G1 := hNd.nc.mono fun k q => hgs k (hB.wg k (su1 k q))
 have dk27 : ¬ G1 p := fun q => hNd.np (hgs _ (hB.wg _ (su1 _ q)))
 have dk28 : Dj (Bl ka) G1 := fun k h1 h2 => hfg k (hA.wk k h1) (hB.wg k (su1 k h2))
 have dk29 : Dj (Bl ca) G1 := fun k h1 h2 => hfg k (hA.wc k h1) (hB.wg k (su1 k h2))
 have dk30 : Dj (Bl kb) G1 := hB.nk.mono su1
 have dk31 : Dj (Bl cb) G1 := hB.nc.mono su1
 have dk32 : ¬ G1 (P.getD i default) := fun q => hfg _ hA.wp (hB.wg _ (su1 _ q))
 have dk33 : ¬ G1 (P.getD (i + 1) default) := fun q => hB.np (su1 _ q)
 have dk34 : Dj G1 G0 := fun k h1 h2 => hgG k (hB.wg k (su1 k h1)) h2
 have dk35 : Dj (Bl kv) G2 := hNd.nk.mono fun k q => hgs k (hB.wg k (su2 k q))
 have dk36 : Dj (Bl cv) G2 := hNd.nc.mono fun k q => hgs k (hB.wg k (su2 k q))
 have dk37 : ¬ G2 p := fun q => hNd.np (hgs _ (hB.wg _ (su2 _ q)))
 have dk38 : Dj (Bl ka) G2 := fun k h1 h2 => hfg k (hA.wk k h1) (hB.wg k (su2 k h2))
 have dk39 : Dj (Bl ca) G2 := fun k h1 h2 => hfg k (hA.wc k h1) (hB.wg k (su2 k h2))
 have dk40 : Dj (Bl kb) G2 := hB.nk.mono su2
 have dk41 : Dj (Bl cb) G2 := hB.nc.mono su2
 have dk42 : ¬ G2 (P.getD i default) := fun q => hfg _ hA.wp (hB.wg _ (su2 _ q))
 have dk43 : ¬ G2 (P.getD (i + 1) default) := fun q => hB.np (su2 _ q)
 have dk44 : Dj G2 G0 := fun k h1 h2 => hgG k (hB.wg k (su2 k h1)) h2
 have dk45 : Dj Ga G1 := fun k h1 h2 => hfg k (hA.wg k ((fun _ q => q) k h1)) (hB.wg k (su1 k h2))
 have dk46 : Dj Ga G2 := fun k h1 h2 => hfg k (hA.wg k ((fun _ q => q) k h1)) (hB.wg k (su2 k h2))
 have hkq1 : KidsR kI R w h (Pb.take 1) (tb.take 1) G1 := hkq1
 have hkq2 : KidsR kI R w h (Pb.drop 1) (tb.drop 1) G2 := hkq2
 have hb := Gr.refl w W
 refine enter (N := 254) Try.func120 rfl rfl (by simp) fun a0 hN hd hA => ?_
 have s0 : a0.tmps.getD 0 undef = (ptr p 0) := hA 0 (by simp)
 have s1 : a0.tmps.getD 1 undef = (Value.int .i64 ((i : Nat) : Int)) := hA 1 (by simp)
 have s2 : a0.tmps.getD 2 undef = (Value.bool true) := hA 2 (by simp)
 clear hA
 refine seq_any fun K47 hK47 => one_reg (op_assign rfl (reg_nil (hK47 _ _ (seq_any fun K48 hK48 => reg_still mixed (by kernel_rfl) ?_))))
 intro w50 E49
 have z_w50 := E49.size
 have hx := hx.keep0 E49
 have ok := ok.keep0 E49
 have oc := oc.keep0 E49
 have ks := all9 ks fun _ h => h.keep0 E49
 have hxa := hxa.keep0 E49
 have hxb := hxb.keep0 E49
 have oka := oka.keep0 E49
 have okb := okb.keep0 E49
 have oca := oca.keep0 E49
 have ocb := ocb.keep0 E49
 have kas := all9 kas fun _ h => h.keep0 E49
 have kbs := all9 kbs fun _ h => h.keep0 E49
 have hr := hr.kz E49
 have hKa := hKa.kz E49
 have hkq1 := hkq1.kz E49
 have hkq2 := hkq2.kz E49
 have hb := hb.step0 E49
 refine st_step rfl (fun _ h9 => op_move (ev_base hN rfl s0) h9) ?_
 refine st_step rfl (fun _ h9 => op_nil (ev_hit hN rfl) h9) ?_
 refine st_step rfl (fun _ h9 => op_field fld115_2 (ev_hit hN rfl) h9) ?_
 refine st_step rfl (fun _ h9 => op_load1 (v := cv) one113 (ev_hit hN rfl) (hx.cell rfl) h9) ?_
 refine st_step rfl (fun _ h9 => op_move (ev_base hN rfl s1) h9) ?_
 refine st_index_rd slt113 (ev_hit hN rfl) oc.rdw (ev_hit hN rfl) (by omega) (by omega) ?_
 intro b51 o53 h0b51 h1b51 hc54
 refine st_step rfl (fun _ h9 => op_load1 (v := (ptr (P.getD i default) 0)) one69 (ev_hit hN rfl) (by have := hc54 0 (ptr (P.getD i default) 0) (by decide) (el_pn (i := i) (by omega) (by first | omega | (simp only [List.length_drop, List.length_take]; omega))); simpa using this) h9) ?_
 refine st_step rfl (fun _ h9 => op_move (ev_base hN rfl s0) h9) ?_
 refine st_step rfl (fun _ h9 => op_nil (ev_hit hN rfl) h9) ?_
 refine st_step rfl (fun _ h9 => op_field fld115_2 (ev_hit hN rfl) h9) ?_
 refine st_step rfl (fun _ h9 => op_load1 (v := cv) one113 (ev_hit hN rfl) (hx.cell rfl) h9) ?_
 refine st_step rfl (fun _ h9 => op_move (ev_base hN rfl s1) h9) ?_
 refine st_step rfl (fun _ h9 => op_add (ev_hit hN rfl) rfl (add64 (by omega)) h9) ?_
 refine st_index_rd slt113 (ev_hit hN rfl) oc.rdw (ev_hit hN rfl) (by omega) (by omega) ?_
 intro b55 o56 h0b55 h1b55 hc57
 refine st_step rfl (fun _ h9 => op_load1 (v := (ptr (P.getD (i + 1) default) 0)) one69 (ev_hit hN rfl) (by have := hc57 0 (ptr (P.getD (i + 1) default) 0) (by decide) (el_pn (i := (i + 1)) (by omega) (by first | omega | (simp only [List.length_drop, List.length_take]; omega))); simpa using this) h9) ?_
 refine st_step rfl (fun _ h9 => op_assign (ev_hit hN rfl) h9) ?_
 refine st_step rfl (fun _ h9 => op_assign (ev_hit hN rfl) h9) ?_
 refine st_nil ?_
 refine hK48 _ _ (seq_any fun K58 hK58 => one_reg ?_)
 refine op_move (ev_hit hN rfl) (op_assign (ev_hit hN rfl) (reg_nil (hK58 _ _ (seq_any fun K59 hK59 => seq_any fun K60 hK60 => one_reg ?_))))
 refine op_move (ev_base hN rfl s2) (reg_nil (hK60 _ _ (wp_cond_true (ev_hit hN rfl) (one_reg (op_move (ev_hit hN rfl) (op_assign (ev_hit hN rfl) ?_))))))
 refine reg_nil (hK59 _ _ (seq_any fun K61 hK61 => seq_any fun K62 hK62 => one_reg (op_move (ev_hit hN rfl) (op_fn (vs := [(ptr (P.getD (i + 1) default) 0)]) ok52 ⟨(ev_hit hN rfl), trivial⟩ (Ret.flip (sizeNI hxb okb ocb (by omega) (by omega))) ?_))))
 rintro _ _ ⟨rfl, rfl⟩
 refine op_leq (ev_hit hN rfl) rfl (fun c32 => ?_) (fun c32 => ?_)
 ·
  exfalso; omega
 ·
  refine reg_nil (hK62 _ _ (wp_cond_false (ev_hit hN rfl) (wp_skip (hK61 _ _ (seq_any fun K63 hK63 => wp_block ?_)))))
  refine seq_any fun K65 hK65 => one_reg (op_move (ev_hit hN rfl) (op_fn (vs := [(ptr (P.getD i default) 0)]) ok81 ⟨(ev_hit hN rfl), trivial⟩ (Ret.flip (leafNI hxa oka oca (by omega) (by omega))) ?_))
  rintro _ _ ⟨rfl, rfl⟩
  refine op_move (ev_hit hN rfl) (g_false (j := 2) (dj := 107) (b := true) rfl rfl rfl (ev_hit hN rfl) rfl rfl (op_pick_f (ev_hit hN rfl) rfl ?_))
  refine op_assign (ev_hit hN rfl) ?_
  refine reg_nil (hK65 _ _ (wp_cond_false (ev_hit hN rfl) (seq_any fun K66 hK66 => one_reg (op_move (ev_hit hN rfl) (op_fn (vs := [(ptr (P.getD i default) 0)]) ok81 ⟨(ev_hit hN rfl), trivial⟩ (Ret.flip (leafNI hxa oka oca (by omega) (by omega))) ?_)))))
  rintro _ _ ⟨rfl, rfl⟩
  refine op_assign (ev_hit hN rfl) (reg_nil (hK66 _ _ (wp_cond_false (ev_hit hN rfl) (seq_any fun K67 hK67 => ?_))))
  refine one_reg (op_move (ev_base hN rfl s2) (op_assign (ev_hit hN rfl) (reg_nil (hK67 _ _ (wp_cond_true (ev_hit hN rfl) (seq_join1 (N := 254) (fun az_ w' => ∃ (vk vc : Value), (az_.tmps.getD 0 undef = (ptr p 0)) ∧ (az_.tmps.getD 1 undef = (Value.int .i64 ((i : Nat) : Int))) ∧ (az_.tmps.getD 6 undef = (Value.bool false)) ∧ (az_.tmps.getD 8 undef = (ptr (P.getD (i + 1) default) 0)) ∧ (DJ kv vk) ∧ (DJ kb vk) ∧ (Dj (Bl vk) G0) ∧ (Dj (Bl vk) Ga) ∧ (Dj (Bl vk) G1) ∧ (Dj (Bl vk) G2) ∧ (∀ j, j < w.heap.size → Bl vk j → W j) ∧ (DJ cv vc) ∧ (DJ cb vc) ∧ (Dj (Bl vc) G0) ∧ (Dj (Bl vc) Ga) ∧ (Dj (Bl vc) G1) ∧ (Dj (Bl vc) G2) ∧ (∀ j, j < w.heap.size → Bl vc j → W j) ∧ (Gr w w' W) ∧ (w50.heap.size ≤ w'.heap.size) ∧ (Bx w' p 115 [(Value.slice none 0 0), kv, cv]) ∧ (Own w' 0 27 1 kv K.length (K.flatMap cK)) ∧ (Own w' 0 69 1 cv P.length (P.flatMap cN)) ∧ (∀ x9 ∈ K, Own w' 0 5 1 x9.1 x9.2.length (x9.2.map u8v)) ∧ (Bx w' (P.getD (i + 1) default) 115 [(Value.slice none 0 0), kb, cb]) ∧ (Own w' 0 27 1 kb Kb.length (Kb.flatMap cK)) ∧ (Own w' 0 69 1 cb Pb.length (Pb.flatMap cN)) ∧ (∀ x9 ∈ Ka, Own w' 0 5 1 x9.1 x9.2.length (x9.2.map u8v)) ∧ (∀ x9 ∈ Kb, Own w' 0 5 1 x9.1 x9.2.length (x9.2.map u8v)) ∧ (KidsR kI R w' (h + 1) ((P.eraseIdx i).eraseIdx i) ((cs.eraseIdx i).eraseIdx i) G0) ∧ (KidsR kI R w' h Pa ta Ga) ∧ (KidsR kI R w' h (Pb.take 1) (tb.take 1) G1) ∧ (KidsR kI R w' h (Pb.drop 1) (tb.drop 1) G2) ∧ (Own w' 0 27 1 vk (Ka ++ [K.getD i default]).length ((Ka ++ [K.getD i default]).flatMap cK)) ∧ (Own w' 0 69 1 vc (Pa ++ [Pb.getD 0 default]).length ((Pa ++ [Pb.getD 0 default]).flatMap cN)) ∧ (Bx w' (P.getD i default) 115 [(Value.slice none 0 0), vk, vc])) (fun hJ85 => ?_) ?_))))))
  ·
   refine seq_any fun K88 hK88 => ?_
   obtain ⟨b89, o91, _, hAt92⟩ := ok.atV (i := i) (by omega)
   obtain ⟨b93, o94, _, hAt95⟩ := ocb.atV (i := 0) (by omega)
   refine reg_split (hd := [_, _, _, _, _, _, _, _, _, _, _, _, _, _, _, _, _, _, _, _, _, _, _, _, _, _, _, _, _, _]) (tl := _) 30 mixed (by kernel_rfl) rfl rfl ?_
   refine any_treek (φ := phiV [(fun uz => uz = (ptr (P.getD i default) 0)), (fun uz => uz = (ptr (P.getD i default) 0)), (fun uz => uz = (ptr (P.getD i default) 0)), (fun uz => uz = (ptr (P.getD i default) 0)), (fun uz => uz = (ptr (P.getD i default) 1)), (fun uz => uz = ka), (fun uz => uz = (ptr p 0)), (fun uz => uz = (ptr p 0)), (fun uz => uz = (ptr p 1)), (fun uz => uz = kv), (fun uz => uz = (Value.int .i64 ((i : Nat) : Int))), (fun uz => uz = (ptr b89 o91)), (fun uz => uz = (K.getD i default).1), (fun _ => True), (fun _ => True), (fun uz => uz = (ptr (P.getD i default) 0)), (fun uz => uz = (ptr (P.getD i default) 0)), (fun uz => uz = (ptr (P.getD i default) 2)), (fun uz => uz = ca), (fun uz => uz = (ptr (P.getD (i + 1) default) 0)), (fun uz => uz = (ptr (P.getD (i + 1) default) 0)), (fun uz => uz = (ptr (P.getD (i + 1) default) 2)), (fun uz => uz = cb), (fun uz => uz = (ptr b93 o94)), (fun uz => uz = (ptr (Pb.getD 0 default) 0)), (fun _ => True), (fun _ => True), (fun uz => uz = (ptr (P.getD i default) 0)), (fun uz => uz = (ptr (P.getD i default) 1)), (fun _ => True)]) (G := fun t9 w' => 29 ∈ t9 → (Own w' 0 27 1 kv K.length (K.flatMap cK) ∧ Own w' 0 69 1 cb Pb.length (Pb.flatMap cN) ∧ Bx w' (P.getD i default) 115 [(Value.slice none 0 0), ka, ca] ∧ Bx w' p 115 [(Value.slice none 0 0), kv, cv] ∧ Bx w' (P.getD (i + 1) default) 115 [(Value.slice none 0 0), kb, cb])) [13, 14, 25, 26, 29] (by kernel_rfl) (by kernel_rfl) (by kernel_rfl) (by kernel_rfl) (by kernel_rfl) hN (fun _ w1 w2 E h hc9 => by have h := h hc9; obtain ⟨h0, h1, h2, h3, h4⟩ := h; exact ⟨h0.keep0 E, h1.keep0 E, h2.keep0 E, h3.keep0 E, h4.keep0 E⟩) (fun _ => ⟨ok, ocb, hxa, hx, hxb⟩) (ObRk9.cons ?_ (ObRk9.cons ?_ (ObRk9.cons ?_ (ObRk9.cons ?_ (ObRk9.cons ?_ (ObRk9.cons ?_ (ObRk9.cons ?_ (ObRk9.cons ?_ (ObRk9.cons ?_ (ObRk9.cons ?_ (ObRk9.cons ?_ (ObRk9.cons ?_ (ObRk9.cons ?_ (ObRk9.pass rfl (ObRk9.pass rfl (ObRk9.cons ?_ (ObRk9.cons ?_ (ObRk9.cons ?_ (ObRk9.cons ?_ (ObRk9.cons ?_ (ObRk9.cons ?_ (ObRk9.cons ?_ (ObRk9.cons ?_ (ObRk9.cons ?_ (ObRk9.cons ?_ (ObRk9.pass rfl (ObRk9.pass rfl (ObRk9.cons ?_ (ObRk9.cons ?_ (ObRk9.pass rfl (ObRk9.nil))))))))))))))))))))))))))))))) (by simp only [putsL_defers]) ?_
   ·
    intro eA tA aA wA hNA hckA hGA hbsA hdpA
    have qA_7 := (hbsA 7 rfl).trans (sl_hit hN rfl)
    refine op_move (ev_base hNA rfl qA_7) ?_
    exact obTk_end rfl rfl
   ·
    intro eA tA aA wA hNA hckA hGA hbsA hdpA
    have qA_7 := (hbsA 7 rfl).trans (sl_hit hN rfl)
    refine op_move (ev_base hNA rfl qA_7) ?_
    exact obTk_end rfl rfl
   ·
    intro eA tA aA wA hNA hckA hGA hbsA hdpA
    have qA_7 := (hbsA 7 rfl).trans (sl_hit hN rfl)
    refine op_move (ev_base hNA rfl qA_7) ?_
    exact obTk_end rfl rfl
   ·
    intro eA tA aA wA hNA hckA hGA hbsA hdpA
    have qA_197 : Sl aA 197 (ptr (P.getD i default) 0) := (hdpA 2 _ 197 (by kernel_rfl) rfl rfl).2 rfl
    refine op_nil (ev_base hNA rfl qA_197) ?_
    exact obTk_end rfl rfl
   ·
    intro eA tA aA wA hNA hckA hGA hbsA hdpA
    have qA_198 : Sl aA 198 (ptr (P.getD i default) 0) := (hdpA 3 _ 198 (by kernel_rfl) rfl rfl).2 rfl
    refine op_field fld115_1 (ev_base hNA rfl qA_198) ?_
    exact obTk_end rfl rfl
   ·
    intro eA tA aA wA hNA hckA hGA hbsA hdpA
    have qA_199 : Sl aA 199 (ptr (P.getD i default) 1) := (hdpA 4 _ 199 (by kernel_rfl) rfl rfl).2 rfl
    have hGA := hGA (hckA 29 rfl (by kernel_rfl))
    obtain ⟨ok, ocb, hxa, hx, hxb⟩ := hGA
    refine op_load1 (v := ka) one90 (ev_base hNA rfl qA_199) (hxa.cell rfl) ?_
    exact obTk_end rfl rfl
   ·
    intro eA tA aA wA hNA hckA hGA hbsA hdpA
    have qA_0 := (hbsA 0 rfl).trans (sl_base hN rfl s0)
    refine op_move (ev_base hNA rfl qA_0) ?_
    exact obTk_end rfl rfl
   ·
    intro eA tA aA wA hNA hckA hGA hbsA hdpA
    have qA_201 : Sl aA 201 (ptr p 0) := (hdpA 6 _ 201 (by kernel_rfl) rfl rfl).2 rfl
    refine op_nil (ev_base hNA rfl qA_201) ?_
    exact obTk_end rfl rfl
   ·
    intro eA tA aA wA hNA hckA hGA hbsA hdpA
    have qA_202 : Sl aA 202 (ptr p 0) := (hdpA 7 _ 202 (by kernel_rfl) rfl rfl).2 rfl
    refine op_field fld115_1 (ev_base hNA rfl qA_202) ?_
    exact obTk_end rfl rfl
   ·
    intro eA tA aA wA hNA hckA hGA hbsA hdpA
    have qA_203 : Sl aA 203 (ptr p 1) := (hdpA 8 _ 203 (by kernel_rfl) rfl rfl).2 rfl
    have hGA := hGA (hckA 29 rfl (by kernel_rfl))
    obtain ⟨ok, ocb, hxa, hx, hxb⟩ := hGA
    refine op_load1 (v := kv) one90 (ev_base hNA rfl qA_203) (hx.cell rfl) ?_
    exact obTk_end rfl rfl
   ·
    intro eA tA aA wA hNA hckA hGA hbsA hdpA
    have qA_1 := (hbsA 1 rfl).trans (sl_base hN rfl s1)
    refine op_move (ev_base hNA rfl qA_1) ?_
    exact obTk_end rfl rfl
   ·
    intro eA tA aA wA hNA hckA hGA hbsA hdpA
    have qA_204 : Sl aA 204 kv := (hdpA 9 _ 204 (by kernel_rfl) rfl rfl).2 rfl
    have qA_205 : Sl aA 205 (Value.int .i64 ((i : Nat) : Int)) := (hdpA 10 _ 205 (by kernel_rfl) rfl rfl).2 rfl
    refine op_index_at (i := i) slt90 (ev_base hNA rfl qA_204) ok (ev_base hNA rfl qA_205) (by omega) (by omega) hAt92 ?_
    exact obTk_end rfl rfl
   ·
    intro eA tA aA wA hNA hckA hGA hbsA hdpA
    have qA_206 : Sl aA 206 (ptr b89 o91) := (hdpA 11 _ 206 (by kernel_rfl) rfl rfl).2 rfl
    have hGA := hGA (hckA 29 rfl (by kernel_rfl))
    obtain ⟨ok, ocb, hxa, hx, hxb⟩ := hGA
    refine op_load1 (v := (K.getD i default).1) one27 (ev_base hNA rfl qA_206) (ok.cellAt hAt92 0 _ (el_kd (e := ((i : Nat) : Int)) (i := i) rfl (by omega))) ?_
    exact obTk_end rfl rfl
   ·
    intro eA tA aA wA hNA hckA hGA hbsA hdpA
    have qA_7 := (hbsA 7 rfl).trans (sl_hit hN rfl)
    refine op_move (ev_base hNA rfl qA_7) ?_
    exact obTk_end rfl rfl
   ·
    intro eA tA aA wA hNA hckA hGA hbsA hdpA
    have qA_210 : Sl aA 210 (ptr (P.getD i default) 0) := (hdpA 15 _ 210 (by kernel_rfl) rfl rfl).2 rfl
    refine op_nil (ev_base hNA rfl qA_210) ?_
    exact obTk_end rfl rfl
   ·
    intro eA tA aA wA hNA hckA hGA hbsA hdpA
    have qA_211 : Sl aA 211 (ptr (P.getD i default) 0) := (hdpA 16 _ 211 (by kernel_rfl) rfl rfl).2 rfl
    refine op_field fld115_2 (ev_base hNA rfl qA_211) ?_
    exact obTk_end rfl rfl
   ·
    intro eA tA aA wA hNA hckA hGA hbsA hdpA
    have qA_212 : Sl aA 212 (ptr (P.getD i default) 2) := (hdpA 17 _ 212 (by kernel_rfl) rfl rfl).2 rfl
    have hGA := hGA (hckA 29 rfl (by kernel_rfl))
    obtain ⟨ok, ocb, hxa, hx, hxb⟩ := hGA
    refine op_load1 (v := ca) one113 (ev_base hNA rfl qA_212) (hxa.cell rfl) ?_
    exact obTk_end rfl rfl
   ·
    intro eA tA aA wA hNA hckA hGA hbsA hdpA
    have qA_8 := (hbsA 8 rfl).trans (sl_hit hN rfl)
    refine op_move (ev_base hNA rfl qA_8) ?_
    exact obTk_end rfl rfl
   ·
    intro eA tA aA wA hNA hckA hGA hbsA hdpA
    have qA_214 : Sl aA 214 (ptr (P.getD (i + 1) default) 0) := (hdpA 19 _ 214 (by kernel_rfl) rfl rfl).2 rfl
    refine op_nil (ev_base hNA rfl qA_214) ?_
    exact obTk_end rfl rfl
   ·
    intro eA tA aA wA hNA hckA hGA hbsA hdpA
    have qA_215 : Sl aA 215 (ptr (P.getD (i + 1) default) 0) := (hdpA 20 _ 215 (by kernel_rfl) rfl rfl).2 rfl
    refine op_field fld115_2 (ev_base hNA rfl qA_215) ?_
    exact obTk_end rfl rfl
   ·
    intro eA tA aA wA hNA hckA hGA hbsA hdpA
    have qA_216 : Sl aA 216 (ptr (P.getD (i + 1) default) 2) := (hdpA 21 _ 216 (by kernel_rfl) rfl rfl).2 rfl
    have hGA := hGA (hckA 29 rfl (by kernel_rfl))
    obtain ⟨ok, ocb, hxa, hx, hxb⟩ := hGA
    refine op_load1 (v := cb) one113 (ev_base hNA rfl qA_216) (hxb.cell rfl) ?_
    exact obTk_end rfl rfl
   ·
    intro eA tA aA wA hNA hckA hGA hbsA hdpA
    have qA_217 : Sl aA 217 cb := (hdpA 22 _ 217 (by kernel_rfl) rfl rfl).2 rfl
    refine op_index_at (i := 0) slt113 (ev_base hNA rfl qA_217) ocb rfl (by omega) (by omega) hAt95 ?_
    exact obTk_end rfl rfl
   ·
    intro eA tA aA wA hNA hckA hGA hbsA hdpA
    have qA_218 : Sl aA 218 (ptr b93 o94) := (hdpA 23 _ 218 (by kernel_rfl) rfl rfl).2 rfl
    have hGA := hGA (hckA 29 rfl (by kernel_rfl))
    obtain ⟨ok, ocb, hxa, hx, hxb⟩ := hGA
    refine op_load1 (v := (ptr (Pb.getD 0 default) 0)) one69 (ev_base hNA rfl qA_218) (ocb.cellAt hAt95 0 _ (el_pn (e := ((0 : Nat) : Int)) (i := 0) rfl (by omega))) ?_
    exact obTk_end rfl rfl
   ·
    intro eA tA aA wA hNA hckA hGA hbsA hdpA
    have qA_195 : Sl aA 195 (ptr (P.getD i default) 0) := (hdpA 0 _ 195 (by kernel_rfl) rfl rfl).2 rfl
    refine op_nil (ev_base hNA rfl qA_195) ?_
    exact obTk_end rfl rfl
   ·
    intro eA tA aA wA hNA hckA hGA hbsA hdpA
    have qA_222 : Sl aA 222 (ptr (P.getD i default) 0) := (hdpA 27 _ 222 (by kernel_rfl) rfl rfl).2 rfl
    refine op_field fld115_1 (ev_base hNA rfl qA_222) ?_
    exact obTk_end rfl rfl
   ·
    refine ktk_step (rs := [13, 25]) (by kernel_rfl) ?_
    refine more_mem ?_ ?_
    ·
     intro w96 E96 _ a96 hN96 hbs96 hdp96 o_ ho_; obtain rfl := Option.some.inj ho_
     have z_w96 := E96.size
     have hx := hx.keep0 E96
     have ok := ok.keep0 E96
     have oc := oc.keep0 E96
     have ks := all9 ks fun _ h => h.keep0 E96
     have hxa := hxa.keep0 E96
     have hxb := hxb.keep0 E96
     have oka := oka.keep0 E96
     have okb := okb.keep0 E96
     have oca := oca.keep0 E96
     have ocb := ocb.keep0 E96
     have kas := all9 kas fun _ h => h.keep0 E96
     have kbs := all9 kbs fun _ h => h.keep0 E96
     have hr := hr.kz E96
     have hKa := hKa.kz E96
     have hkq1 := hkq1.kz E96
     have hkq2 := hkq2.kz E96
     have hb := hb.step0 E96
     have q96_207 : Sl a96 207 (K.getD i default).1 := (hdp96 12 _ 207 (by kernel_rfl) rfl rfl).2 rfl
     refine op_bslice (e := 27) (pv := [(0, (K.getD i default).1)]) (cs := [(K.getD i default).1]) ⟨rfl, (ev_base hN96 rfl q96_207), trivial⟩ (by obtain ⟨_, _, _, hq9⟩ := (show Own _ _ _ _ (K.getD i default).1 (K.getD i default).2.length ((K.getD i default).2.map u8v) from ks (K.getD i default) (getD_mem (by first | omega | (simp only [List.length_drop, List.length_take]; omega)))).sl; rw [hq9]; kernel_rfl) ?_
     intro w97 b98 lo_b98 hi_b98 hB100 E99
     have z_w97 := E99.size
     have hx := hx.keep0 E99
     have ok := ok.keep0 E99
     have oc := oc.keep0 E99
     have ks := all9 ks fun _ h => h.keep0 E99
     have hxa := hxa.keep0 E99
     have hxb := hxb.keep0 E99
     have oka := oka.keep0 E99
     have okb := okb.keep0 E99
     have oca := oca.keep0 E99
     have ocb := ocb.keep0 E99
     have kas := all9 kas fun _ h => h.keep0 E99
     have kbs := all9 kbs fun _ h => h.keep0 E99
     have hr := hr.kz E99
     have hKa := hKa.kz E99
     have hkq1 := hkq1.kz E99
     have hkq2 := hkq2.kz E99
     have hb := hb.step0 E99
     refine ktk_end (G := fun t9 w' => 29 ∈ t9 → (Own w' 0 27 1 kv K.length (K.flatMap cK) ∧ Own w' 0 69 1 cb Pb.length (Pb.flatMap cN) ∧ Bx w' (P.getD i default) 115 [(Value.slice none 0 0), ka, ca] ∧ Bx w' p 115 [(Value.slice none 0 0), kv, cv] ∧ Bx w' (P.getD (i + 1) default) 115 [(Value.slice none 0 0), kb, cb])) (todo := [13, 14, 25, 26, 29]) (i := 13) rfl (fun _ => ⟨ok, ocb, hxa, hx, hxb⟩) ?_
     refine ktk_step (rs := [14, 25]) (by kernel_rfl) ?_
     refine more_mem ?_ ?_
     ·
      intro w101 E101 _ a101 hN101 hbs101 hdp101 o_ ho_; obtain rfl := Option.some.inj ho_
      have z_w101 := E101.size
      have hx := hx.keep0 E101
      have ok := ok.keep0 E101
      have oc := oc.keep0 E101
      have ks := all9 ks fun _ h => h.keep0 E101
      have hxa := hxa.keep0 E101
      have hxb := hxb.keep0 E101
      have oka := oka.keep0 E101
      have okb := okb.keep0 E101
      have oca := oca.keep0 E101
      have ocb := ocb.keep0 E101
      have kas := all9 kas fun _ h => h.keep0 E101
      have kbs := all9 kbs fun _ h => h.keep0 E101
      have hr := hr.kz E101
      have hKa := hKa.kz E101
      have hkq1 := hkq1.kz E101
      have hkq2 := hkq2.kz E101
      have hB100 := hB100.keep0 E101
      have hb := hb.step0 E101
      have q101_200 : Sl a101 200 ka := (hdp101 5 _ 200 (by kernel_rfl) rfl rfl).2 rfl
      have q101_208 : Sl a101 208 (Value.slice (some ⟨b98, 0, none⟩) 1 1) := (Option.some.inj ((hdp101 13 _ 208 (by kernel_rfl) rfl rfl).1 rfl)).symm
      have hP107 := oka
      refine op_append slt90 (ev_base hN101 rfl q101_200) hP107 (ev_base hN101 rfl q101_208) (Src.ofRd Try.underlying90 (by decide) (RdC.ofBx (sz := 1) (n := 1) hB100 rfl (by decide)) (by simp only [List.all_cons, List.all_nil, Bool.true_and, Bool.and_true, (own_one (show Own _ _ _ _ (K.getD i default).1 (K.getD i default).2.length ((K.getD i default).2.map u8v) from ks (K.getD i default) (getD_mem (by first | omega | (simp only [List.length_drop, List.length_take]; omega)))))]; try rfl)) (by unfold maxLen; omega) (by omega) (Nat.le_trans (by assumption) hb.size) ?_
      intro v102 w103 hO105 E104 hm106
      have dj108 : DJ kv v102 := DJ.step hm106 (fun k hk => (ok.lt k hk).2) dk3
      have dj109 : DJ kb v102 := DJ.step hm106 (fun k hk => (okb.lt k hk).2) dk7.symm
      have dj110 : Dj G0 (Bl v102) := Dj.step hm106 (fun k hk => (hr.lt k hk).2) dk9.symm
      have dj111 : Dj Ga (Bl v102) := Dj.step hm106 (fun k hk => (hKa.lt k hk).2) dk18.symm
      have dj112 : Dj G1 (Bl v102) := Dj.step hm106 (fun k hk => (hkq1.lt k hk).2) dk28.symm
      have dj114 : Dj G2 (Bl v102) := Dj.step hm106 (fun k hk => (hkq2.lt k hk).2) dk38.symm
      have z_w103 := E104.size
      have hx := hx.keepO hP107 E104 (by decide)
      have ok := ok.keepD E104 dk3
      have oc := oc.keepT hP107 E104 (by decide)
      have ks := all9 ks fun _ h => h.keepT hP107 E104 (by decide)
      have hxa := hxa.keepO hP107 E104 (by decide)
      have hxb := hxb.keepO hP107 E104 (by decide)
      have okb := okb.keepD E104 dk7.symm
      have oca := oca.keepT hP107 E104 (by decide)
      have ocb := ocb.keepT hP107 E104 (by decide)
      have kas := all9 kas fun _ h => h.keepT hP107 E104 (by decide)
      have kbs := all9 kbs fun _ h => h.keepT hP107 E104 (by decide)
      have hr := hr.keepG (Gr.of E104) dk9.symm (NoK.ofOwn hP107 (by decide))
      have hKa := hKa.keepG (Gr.of E104) dk18.symm (NoK.ofOwn hP107 (by decide))
      have hkq1 := hkq1.keepG (Gr.of E104) dk28.symm (NoK.ofOwn hP107 (by decide))
      have hkq2 := hkq2.keepG (Gr.of E104) dk38.symm (NoK.ofOwn hP107 (by decide))
      have hb := hb.stepL E104 (fun k _ h => hNd.wg k (hfs k (hA.wk k h)))
      have hO105 : Own w103 0 27 1 v102 (Ka.length + 1) ((Ka.flatMap cK ++ [(K.getD i default).1])) := by simpa [u8v, sv] using hO105
      refine ktk_end (G := fun t9 w' => 29 ∈ t9 → (Own w' 0 27 1 kv K.length (K.flatMap cK) ∧ Own w' 0 69 1 cb Pb.length (Pb.flatMap cN) ∧ Bx w' (P.getD i default) 115 [(Value.slice none 0 0), ka, ca] ∧ Bx w' p 115 [(Value.slice none 0 0), kv, cv] ∧ Bx w' (P.getD (i + 1) default) 115 [(Value.slice none 0 0), kb, cb])) (todo := [14, 25, 26, 29]) (i := 14) rfl (fun _ => ⟨ok, ocb, hxa, hx, hxb⟩) ?_
      refine ktk_step (rs := [25]) (by kernel_rfl) ?_
      refine one_mem ?_
      intro w116 E116 _ a116 hN116 hbs116 hdp116 o_ ho_; obtain rfl := Option.some.inj ho_
      have z_w116 := E116.size
      have hx := hx.keep0 E116
      have ok := ok.keep0 E116
      have oc := oc.keep0 E116
      have ks := all9 ks fun _ h => h.keep0 E116
      have hxa := hxa.keep0 E116
      have hxb := hxb.keep0 E116
      have okb := okb.keep0 E116
      have oca := oca.keep0 E116
      have ocb := ocb.keep0 E116
      have kas := all9 kas fun _ h => h.keep0 E116
      have kbs := all9 kbs fun _ h => h.keep0 E116
      have hr := hr.kz E116
      have hKa := hKa.kz E116
      have hkq1 := hkq1.kz E116
      have hkq2 := hkq2.kz E116
      have hO105 := hO105.keep0 E116
      have hb := hb.step0 E116
      have q116_219 : Sl a116 219 (ptr (Pb.getD 0 default) 0) := (hdp116 24 _ 219 (by kernel_rfl) rfl rfl).2 rfl
      refine op_bslice (e := 69) (pv := [(0, (ptr (Pb.getD 0 default) 0))]) (cs := [(ptr (Pb.getD 0 default) 0)]) ⟨rfl, (ev_base hN116 rfl q116_219), trivial⟩ (by kernel_rfl) ?_
      intro w117 b118 lo_b118 hi_b118 hB120 E119
      have z_w117 := E119.size
      have hx := hx.keep0 E119
      have ok := ok.keep0 E119
      have oc := oc.keep0 E119
      have ks := all9 ks fun _ h => h.keep0 E119
      have hxa := hxa.keep0 E119
      have hxb := hxb.keep0 E119
      have okb := okb.keep0 E119
      have oca := oca.keep0 E119
      have ocb := ocb.keep0 E119
      have kas := all9 kas fun _ h => h.keep0 E119
      have kbs := all9 kbs fun _ h => h.keep0 E119
      have hr := hr.kz E119
      have hKa := hKa.kz E119
      have hkq1 := hkq1.kz E119
      have hkq2 := hkq2.kz E119
      have hO105 := hO105.keep0 E119
      have hb := hb.step0 E119
      refine ktk_end (G := fun t9 w' => 29 ∈ t9 → (Own w' 0 27 1 kv K.length (K.flatMap cK) ∧ Own w' 0 69 1 cb Pb.length (Pb.flatMap cN) ∧ Bx w' (P.getD i default) 115 [(Value.slice none 0 0), ka, ca] ∧ Bx w' p 115 [(Value.slice none 0 0), kv, cv] ∧ Bx w' (P.getD (i + 1) default) 115 [(Value.slice none 0 0), kb, cb])) (todo := [25, 26, 29]) (i := 25) rfl (fun _ => ⟨ok, ocb, hxa, hx, hxb⟩) ?_
      refine ktk_step (rs := [26]) (by kernel_rfl) ?_
      refine one_mem ?_
      intro w121 E121 _ a121 hN121 hbs121 hdp121 o_ ho_; obtain rfl := Option.some.inj ho_
      have z_w121 := E121.size
      have hx := hx.keep0 E121
      have ok := ok.keep0 E121
      have oc := oc.keep0 E121
      have ks := all9 ks fun _ h => h.keep0 E121
      have hxa := hxa.keep0 E121
      have hxb := hxb.keep0 E121
      have okb := okb.keep0 E121
      have oca := oca.keep0 E121
      have ocb := ocb.keep0 E121
      have kas := all9 kas fun _ h => h.keep0 E121
      have kbs := all9 kbs fun _ h => h.keep0 E121
      have hr := hr.kz E121
      have hKa := hKa.kz E121
      have hkq1 := hkq1.kz E121
      have hkq2 := hkq2.kz E121
      have hO105 := hO105.keep0 E121
      have hB120 := hB120.keep0 E121
      have hb := hb.step0 E121
      have q121_213 : Sl a121 213 ca := (hdp121 18 _ 213 (by kernel_rfl) rfl rfl).2 rfl
      have q121_220 : Sl a121 220 (Value.slice (some ⟨b118, 0, none⟩) 1 1) := (Option.some.inj ((hdp121 25 _ 220 (by kernel_rfl) rfl rfl).1 rfl)).symm
      have hP127 := oca
      refine op_append slt113 (ev_base hN121 rfl q121_213) hP127 (ev_base hN121 rfl q121_220) (Src.ofRd Try.underlying113 (by decide) (RdC.ofBx (sz := 1) (n := 1) hB120 rfl (by decide)) (one_pn [Pb.getD 0 default])) (by unfold maxLen; omega) (by omega) (Nat.le_trans (by assumption) hb.size) ?_
      intro v122 w123 hO125 E124 hm126
      have dj128 : DJ cv v122 := DJ.step hm126 (fun k hk => (oc.lt k hk).2) dk5
      have dj129 : DJ cb v122 := DJ.step hm126 (fun k hk => (ocb.lt k hk).2) dk8.symm
      have dj130 : Dj G0 (Bl v122) := Dj.step hm126 (fun k hk => (hr.lt k hk).2) dk10.symm
      have dj131 : Dj Ga (Bl v122) := Dj.step hm126 (fun k hk => (hKa.lt k hk).2) dk19.symm
      have dj132 : Dj G1 (Bl v122) := Dj.step hm126 (fun k hk => (hkq1.lt k hk).2) dk29.symm
      have dj133 : Dj G2 (Bl v122) := Dj.step hm126 (fun k hk => (hkq2.lt k hk).2) dk39.symm
      have z_w123 := E124.size
      have hx := hx.keepO hP127 E124 (by decide)
      have ok := ok.keepT hP127 E124 (by decide)
      have oc := oc.keepD E124 dk5
      have ks := all9 ks fun _ h => h.keepT hP127 E124 (by decide)
      have hxa := hxa.keepO hP127 E124 (by decide)
      have hxb := hxb.keepO hP127 E124 (by decide)
      have okb := okb.keepT hP127 E124 (by decide)
      have ocb := ocb.keepD E124 dk8.symm
      have kas := all9 kas fun _ h => h.keepT hP127 E124 (by decide)
      have kbs := all9 kbs fun _ h => h.keepT hP127 E124 (by decide)
      have hr := hr.keepG (Gr.of E124) dk10.symm (NoK.ofOwn hP127 (by decide))
      have hKa := hKa.keepG (Gr.of E124) dk19.symm (NoK.ofOwn hP127 (by decide))
      have hkq1 := hkq1.keepG (Gr.of E124) dk29.symm (NoK.ofOwn hP127 (by decide))
      have hkq2 := hkq2.keepG (Gr.of E124) dk39.symm (NoK.ofOwn hP127 (by decide))
      have hO105 := hO105.keepT hP127 E124 (by decide)
      have hb := hb.stepL E124 (fun k _ h => hNd.wg k (hfs k (hA.wc k h)))
      have hO125 : Own w123 0 69 1 v122 (Pa.length + 1) ((Pa.flatMap cN ++ [(ptr (Pb.getD 0 default) 0)])) := by simpa [u8v, sv] using hO125
      refine ktk_end (G := fun t9 w' => 29 ∈ t9 → (Own w' 0 27 1 kv K.length (K.flatMap cK) ∧ Own w' 0 69 1 cb Pb.length (Pb.flatMap cN) ∧ Bx w' (P.getD i default) 115 [(Value.slice none 0 0), ka, ca] ∧ Bx w' p 115 [(Value.slice none 0 0), kv, cv] ∧ Bx w' (P.getD (i + 1) default) 115 [(Value.slice none 0 0), kb, cb])) (todo := [26, 29]) (i := 26) rfl (fun _ => ⟨ok, ocb, hxa, hx, hxb⟩) ?_
      refine ktk_step (rs := [29]) (by kernel_rfl) ?_
      refine one_mem ?_
      intro w134 E134 _ a134 hN134 hbs134 hdp134 o_ ho_; obtain rfl := Option.some.inj ho_
      have z_w134 := E134.size
      have hx := hx.keep0 E134
      have ok := ok.keep0 E134
      have oc := oc.keep0 E134
      have ks := all9 ks fun _ h => h.keep0 E134
      have hxa := hxa.keep0 E134
      have hxb := hxb.keep0 E134
      have okb := okb.keep0 E134
      have ocb := ocb.keep0 E134
      have kas := all9 kas fun _ h => h.keep0 E134
      have kbs := all9 kbs fun _ h => h.keep0 E134
      have hr := hr.kz E134
      have hKa := hKa.kz E134
      have hkq1 := hkq1.kz E134
      have hkq2 := hkq2.kz E134
      have hO105 := hO105.keep0 E134
      have hO125 := hO125.keep0 E134
      have hb := hb.step0 E134
      have q134_223 : Sl a134 223 (ptr (P.getD i default) 1) := (hdp134 28 _ 223 (by kernel_rfl) rfl rfl).2 rfl
      have q134_209 : Sl a134 209 v102 := (Option.some.inj ((hdp134 14 _ 209 (by kernel_rfl) rfl rfl).1 rfl)).symm
      have hxa_old := hxa
      refine op_store (vs := [v102]) (cs' := [(Value.slice none 0 0), v102, ca]) size90 (ev_base hN134 rfl q134_223) (ev_base hN134 rfl q134_209) hO105.cl rfl (by simp only [List.all_cons, List.all_nil, Bool.true_and, Bool.and_true, hO105.one]; try rfl) hxa (Nat.le_of_ble_eq_true rfl) rfl ?_
      intro w135 hxa E136
      have z_w135 := E136.size
      have hx := hx.keep E136 (by simp only [ne_eq, Option.some.injEq]; omega)
      have ok := ok.keepX hxa_old E136 (by decide)
      have oc := oc.keepX hxa_old E136 (by decide)
      have ks := all9 ks fun _ h => h.keepX hxa_old E136 (by decide)
      have hxb := hxb.keep E136 (by simp only [ne_eq, Option.some.injEq]; omega)
      have okb := okb.keepX hxa_old E136 (by decide)
      have ocb := ocb.keepX hxa_old E136 (by decide)
      have kas := all9 kas fun _ h => h.keepX hxa_old E136 (by decide)
      have kbs := all9 kbs fun _ h => h.keepX hxa_old E136 (by decide)
      have hr := hr.keepG (Gr.of E136) (Dj.one dk13) (NoK.ofBx hxa_old (by decide))
      have hKa := hKa.keepG (Gr.of E136) (Dj.one dk22) (NoK.ofBx hxa_old (by decide))
      have hkq1 := hkq1.keepG (Gr.of E136) (Dj.one dk32) (NoK.ofBx hxa_old (by decide))
      have hkq2 := hkq2.keepG (Gr.of E136) (Dj.one dk42) (NoK.ofBx hxa_old (by decide))
      have hO105 := hO105.keepX hxa_old E136 (by decide)
      have hO125 := hO125.keepX hxa_old E136 (by decide)
      have hb := hb.stepB E136 (hNd.wg _ (hfs _ hA.wp))
      refine ktk_end0 (G := fun t9 w' => 29 ∈ t9 → (Own w' 0 27 1 kv K.length (K.flatMap cK) ∧ Own w' 0 69 1 cb Pb.length (Pb.flatMap cN) ∧ Bx w' (P.getD i default) 115 [(Value.slice none 0 0), ka, ca] ∧ Bx w' p 115 [(Value.slice none 0 0), kv, cv] ∧ Bx w' (P.getD (i + 1) default) 115 [(Value.slice none 0 0), kb, cb])) (todo := [29]) (i := 29) rfl (fun h => absurd h (by decide)) ?_
      intro w137 E137 a137 hN137 hd137 hbs137 hph137
      have hd137 := hd137.trans ((by simp only [putsL_defers] : _ = _).trans hd)
      have z_w137 := E137.size
      have hx := hx.keep0 E137
      have ok := ok.keep0 E137
      have oc := oc.keep0 E137
      have ks := all9 ks fun _ h => h.keep0 E137
      have hxb := hxb.keep0 E137
      have okb := okb.keep0 E137
      have ocb := ocb.keep0 E137
      have kas := all9 kas fun _ h => h.keep0 E137
      have kbs := all9 kbs fun _ h => h.keep0 E137
      have hr := hr.kz E137
      have hKa := hKa.kz E137
      have hkq1 := hkq1.kz E137
      have hkq2 := hkq2.kz E137
      have hO105 := hO105.keep0 E137
      have hO125 := hO125.keep0 E137
      have hxa := hxa.keep0 E137
      have hb := hb.step0 E137
      have s137_0 := (hbs137 0 rfl).trans (sl_base hN rfl s0)
      have s137_1 := (hbs137 1 rfl).trans (sl_base hN rfl s1)
      have s137_6 := (hbs137 6 rfl).trans (sl_hit hN rfl)
      have s137_8 := (hbs137 8 rfl).trans (sl_hit hN rfl)
      have s137_196 : Sl a137 196 (ptr (P.getD i default) 0) := (hph137 1 _ 196 rfl rfl).2 rfl
      have s137_221 : Sl a137 221 v122 := (Option.some.inj ((hph137 26 _ 221 rfl rfl).1 rfl)).symm
      refine split_end ?_
      refine from_seq (tl := [_, _, _]) (by decide) (by kernel_rfl) rfl ?_
      refine op_nil (ev_base hN137 rfl s137_196) (op_field fld115_2 (ev_hit hN137 rfl) ?_)
      have hxa_old := hxa
      refine op_store (vs := [v122]) (cs' := [(Value.slice none 0 0), v102, v122]) size113 (ev_hit hN137 rfl) (ev_base hN137 rfl s137_221) hO125.cl rfl (by simp only [List.all_cons, List.all_nil, Bool.true_and, Bool.and_true, hO125.one]; try rfl) hxa (Nat.le_of_ble_eq_true rfl) rfl ?_
      intro w138 hxa E139
      have z_w138 := E139.size
      have hx := hx.keep E139 (by simp only [ne_eq, Option.some.injEq]; omega)
      have ok := ok.keepX hxa_old E139 (by decide)
      have oc := oc.keepX hxa_old E139 (by decide)
      have ks := all9 ks fun _ h => h.keepX hxa_old E139 (by decide)
      have hxb := hxb.keep E139 (by simp only [ne_eq, Option.some.injEq]; omega)
      have okb := okb.keepX hxa_old E139 (by decide)
      have ocb := ocb.keepX hxa_old E139 (by decide)
      have kas := all9 kas fun _ h => h.keepX hxa_old E139 (by decide)
      have kbs := all9 kbs fun _ h => h.keepX hxa_old E139 (by decide)
      have hr := hr.keepG (Gr.of E139) (Dj.one dk13) (NoK.ofBx hxa_old (by decide))
      have hKa := hKa.keepG (Gr.of E139) (Dj.one dk22) (NoK.ofBx hxa_old (by decide))
      have hkq1 := hkq1.keepG (Gr.of E139) (Dj.one dk32) (NoK.ofBx hxa_old (by decide))
      have hkq2 := hkq2.keepG (Gr.of E139) (Dj.one dk42) (NoK.ofBx hxa_old (by decide))
      have hO105 := hO105.keepX hxa_old E139 (by decide)
      have hO125 := hO125.keepX hxa_old E139 (by decide)
      have hb := hb.stepB E139 (hNd.wg _ (hfs _ hA.wp))
      refine reg_nil (hK88 _ _ ?_)
      exact hJ85 _ _ _ hN137 hd137 ⟨v102, v122, (sl_base hN137 rfl s137_0), (sl_base hN137 rfl s137_1), (sl_base hN137 rfl s137_6), (sl_base hN137 rfl s137_8), dj108, dj109, dj110.symm, dj111.symm, dj112.symm, dj114.symm, (inF_step (n := w.heap.size) hm106 (by omega) (fun k _ h => hNd.wg k (hfs k (hA.wk k h)))), dj128, dj129, dj130.symm, dj131.symm, dj132.symm, dj133.symm, (inF_step (n := w.heap.size) hm126 (by omega) (fun k _ h => hNd.wg k (hfs k (hA.wc k h)))), hb, (by omega), hx, ok, oc, ks, hxb, okb, ocb, kas, kbs, hr, hKa, hkq1, hkq2, (hO105.cast (n' := (Ka ++ [K.getD i default]).length) (cs' := (Ka ++ [K.getD i default]).flatMap cK) (by first | rfl | (simp; done) | (simp only [List.length_append, List.length_cons, List.length_nil]; omega)) (by first | rfl | simp [cK, cN, cI])), (hO125.cast (n' := (Pa ++ [Pb.getD 0 default]).length) (cs' := (Pa ++ [Pb.getD 0 default]).flatMap cN) (by first | rfl | (simp; done) | (simp only [List.length_append, List.length_cons, List.length_nil]; omega)) (by first | rfl | simp [cK, cN, cI])), hxa⟩
     refine one_mem ?_
     intro w140 E140 _ a140 hN140 hbs140 hdp140 o_ ho_; obtain rfl := Option.some.inj ho_
     have z_w140 := E140.size
     have hx := hx.keep0 E140
     have ok := ok.keep0 E140
     have oc := oc.keep0 E140
     have ks := all9 ks fun _ h => h.keep0 E140
     have hxa := hxa.keep0 E140
     have hxb := hxb.keep0 E140
     have oka := oka.keep0 E140
     have okb := okb.keep0 E140
     have oca := oca.keep0 E140
     have ocb := ocb.keep0 E140
     have kas := all9 kas fun _ h => h.keep0 E140
     have kbs := all9 kbs fun _ h => h.keep0 E140
     have hr := hr.kz E140
     have hKa := hKa.kz E140
     have hkq1 := hkq1.kz E140
     have hkq2 := hkq2.kz E140
     have hB100 := hB100.keep0 E140
     have hb := hb.step0 E140
     have q140_219 : Sl a140 219 (ptr (Pb.getD 0 default) 0) := (hdp140 24 _ 219 (by kernel_rfl) rfl rfl).2 rfl
     refine op_bslice (e := 69) (pv := [(0, (ptr (Pb.getD 0 default) 0))]) (cs := [(ptr (Pb.getD 0 default) 0)]) ⟨rfl, (ev_base hN140 rfl q140_219), trivial⟩ (by kernel_rfl) ?_
     intro w141 b142 lo_b142 hi_b142 hB144 E143
     have z_w141 := E143.size
     have hx := hx.keep0 E143
     have ok := ok.keep0 E143
     have oc := oc.keep0 E143
     have ks := all9 ks fun _ h => h.keep0 E143
     have hxa := hxa.keep0 E143
     have hxb := hxb.keep0 E143
     have oka := oka.keep0 E143
     have okb := okb.keep0 E143
     have oca := oca.keep0 E143
     have ocb := ocb.keep0 E143
     have kas := all9 kas fun _ h => h.keep0 E143
     have kbs := all9 kbs fun _ h => h.keep0 E143
     have hr := hr.kz E143
     have hKa := hKa.kz E143
     have hkq1 := hkq1.kz E143
     have hkq2 := hkq2.kz E143
     have hB100 := hB100.keep0 E143
     have hb := hb.step0 E143
     refine ktk_end (G := fun t9 w' => 29 ∈ t9 → (Own w' 0 27 1 kv K.length (K.flatMap cK) ∧ Own w' 0 69 1 cb Pb.length (Pb.flatMap cN) ∧ Bx w' (P.getD i default) 115 [(Value.slice none 0 0), ka, ca] ∧ Bx w' p 115 [(Value.slice none 0 0), kv, cv] ∧ Bx w' (P.getD (i + 1) default) 115 [(Value.slice none 0 0), kb, cb])) (todo := [14, 25, 26, 29]) (i := 25) rfl (fun _ => ⟨ok, ocb, hxa, hx, hxb⟩) ?_
     refine ktk_step (rs := [14]) (by kernel_rfl) ?_
     refine one_mem ?_
     intro w145 E145 _ a145 hN145 hbs145 hdp145 o_ ho_; obtain rfl := Option.some.inj ho_
     have z_w145 := E145.size
     have hx := hx.keep0 E145
     have ok := ok.keep0 E145
     have oc := oc.keep0 E145
     have ks := all9 ks fun _ h => h.keep0 E145
     have hxa := hxa.keep0 E145
     have hxb := hxb.keep0 E145
     have oka := oka.keep0 E145
     have okb := okb.keep0 E145
     have oca := oca.keep0 E145
     have ocb := ocb.keep0 E145
     have kas := all9 kas fun _ h => h.keep0 E145
     have kbs := all9 kbs fun _ h => h.keep0 E145
     have hr := hr.kz E145
     have hKa := hKa.kz E145
     have hkq1 := hkq1.kz E145
     have hkq2 := hkq2.kz E145
     have hB100 := hB100.keep0 E145
     have hB144 := hB144.keep0 E145
     have hb := hb.step0 E145
     have q145_200 : Sl a145 200 ka := (hdp145 5 _ 200 (by kernel_rfl) rfl rfl).2 rfl
     have q145_208 : Sl a145 208 (Value.slice (some ⟨b98, 0, none⟩) 1 1) := (Option.some.inj ((hdp145 13 _ 208 (by kernel_rfl) rfl rfl).1 rfl)).symm
     have hP151 := oka
     refine op_append slt90 (ev_base hN145 rfl q145_200) hP151 (ev_base hN145 rfl q145_208) (Src.ofRd Try.underlying90 (by decide) (RdC.ofBx (sz := 1) (n := 1) hB100 rfl (by decide)) (by simp only [List.all_cons, List.all_nil, Bool.true_and, Bool.and_true, (own_one (show Own _ _ _ _ (K.getD i default).1 (K.getD i default).2.length ((K.getD i default).2.map u8v) from ks (K.getD i default) (getD_mem (by first | omega | (simp only [List.length_drop, List.length_take]; omega)))))]; try rfl)) (by unfold maxLen; omega) (by omega) (Nat.le_trans (by assumption) hb.size) ?_
     intro v146 w147 hO149 E148 hm150
     have dj152 : DJ kv v146 := DJ.step hm150 (fun k hk => (ok.lt k hk).2) dk3
     have dj153 : DJ kb v146 := DJ.step hm150 (fun k hk => (okb.lt k hk).2) dk7.symm
     have dj154 : Dj G0 (Bl v146) := Dj.step hm150 (fun k hk => (hr.lt k hk).2) dk9.symm
     have dj155 : Dj Ga (Bl v146) := Dj.step hm150 (fun k hk => (hKa.lt k hk).2) dk18.symm
     have dj156 : Dj G1 (Bl v146) := Dj.step hm150 (fun k hk => (hkq1.lt k hk).2) dk28.symm
     have dj157 : Dj G2 (Bl v146) := Dj.step hm150 (fun k hk => (hkq2.lt k hk).2) dk38.symm
     have z_w147 := E148.size
     have hx := hx.keepO hP151 E148 (by decide)
     have ok := ok.keepD E148 dk3
     have oc := oc.keepT hP151 E148 (by decide)
     have ks := all9 ks fun _ h => h.keepT hP151 E148 (by decide)
     have hxa := hxa.keepO hP151 E148 (by decide)
     have hxb := hxb.keepO hP151 E148 (by decide)
     have okb := okb.keepD E148 dk7.symm
     have oca := oca.keepT hP151 E148 (by decide)
     have ocb := ocb.keepT hP151 E148 (by decide)
     have kas := all9 kas fun _ h => h.keepT hP151 E148 (by decide)
     have kbs := all9 kbs fun _ h => h.keepT hP151 E148 (by decide)
     have hr := hr.keepG (Gr.of E148) dk9.symm (NoK.ofOwn hP151 (by decide))
     have hKa := hKa.keepG (Gr.of E148) dk18.symm (NoK.ofOwn hP151 (by decide))
     have hkq1 := hkq1.keepG (Gr.of E148) dk28.symm (NoK.ofOwn hP151 (by decide))
     have hkq2 := hkq2.keepG (Gr.of E148) dk38.symm (NoK.ofOwn hP151 (by decide))
     have hB144 := hB144.keepO hP151 E148 (by decide)
     have hb := hb.stepL E148 (fun k _ h => hNd.wg k (hfs k (hA.wk k h)))
     have hO149 : Own w147 0 27 1 v146 (Ka.length + 1) ((Ka.flatMap cK ++ [(K.getD i default).1])) := by simpa [u8v, sv] using hO149
     refine ktk_end (G := fun t9 w' => 29 ∈ t9 → (Own w' 0 27 1 kv K.length (K.flatMap cK) ∧ Own w' 0 69 1 cb Pb.length (Pb.flatMap cN) ∧ Bx w' (P.getD i default) 115 [(Value.slice none 0 0), ka, ca] ∧ Bx w' p 115 [(Value.slice none 0 0), kv, cv] ∧ Bx w' (P.getD (i + 1) default) 115 [(Value.slice none 0 0), kb, cb])) (todo := [14, 26, 29]) (i := 14) rfl (fun _ => ⟨ok, ocb, hxa, hx, hxb⟩) ?_
     refine ktk_step (rs := [26]) (by kernel_rfl) ?_
     refine one_mem ?_
     intro w158 E158 _ a158 hN158 hbs158 hdp158 o_ ho_; obtain rfl := Option.some.inj ho_
     have z_w158 := E158.size
     have hx := hx.keep0 E158
     have ok := ok.keep0 E158
     have oc := oc.keep0 E158
     have ks := all9 ks fun _ h => h.keep0 E158
     have hxa := hxa.keep0 E158
     have hxb := hxb.keep0 E158
     have okb := okb.keep0 E158
     have oca := oca.keep0 E158
     have ocb := ocb.keep0 E158
     have kas := all9 kas fun _ h => h.keep0 E158
     have kbs := all9 kbs fun _ h => h.keep0 E158
     have hr := hr.kz E158
     have hKa := hKa.kz E158
     have hkq1 := hkq1.kz E158
     have hkq2 := hkq2.kz E158
     have hB144 := hB144.keep0 E158
     have hO149 := hO149.keep0 E158
     have hb := hb.step0 E158
     have q158_213 : Sl a158 213 ca := (hdp158 18 _ 213 (by kernel_rfl) rfl rfl).2 rfl
     have q158_220 : Sl a158 220 (Value.slice (some ⟨b142, 0, none⟩) 1 1) := (Option.some.inj ((hdp158 25 _ 220 (by kernel_rfl) rfl rfl).1 rfl)).symm
     have hP164 := oca
     refine op_append slt113 (ev_base hN158 rfl q158_213) hP164 (ev_base hN158 rfl q158_220) (Src.ofRd Try.underlying113 (by decide) (RdC.ofBx (sz := 1) (n := 1) hB144 rfl (by decide)) (one_pn [Pb.getD 0 default])) (by unfold maxLen; omega) (by omega) (Nat.le_trans (by assumption) hb.size) ?_
     intro v159 w160 hO162 E161 hm163
     have dj165 : DJ cv v159 := DJ.step hm163 (fun k hk => (oc.lt k hk).2) dk5
     have dj166 : DJ cb v159 := DJ.step hm163 (fun k hk => (ocb.lt k hk).2) dk8.symm
     have dj167 : Dj G0 (Bl v159) := Dj.step hm163 (fun k hk => (hr.lt k hk).2) dk10.symm
     have dj168 : Dj Ga (Bl v159) := Dj.step hm163 (fun k hk => (hKa.lt k hk).2) dk19.symm
     have dj169 : Dj G1 (Bl v159) := Dj.step hm163 (fun k hk => (hkq1.lt k hk).2) dk29.symm
     have dj170 : Dj G2 (Bl v159) := Dj.step hm163 (fun k hk => (hkq2.lt k hk).2) dk39.symm
     have z_w160 := E161.size
     have hx := hx.keepO hP164 E161 (by decide)
     have ok := ok.keepT hP164 E161 (by decide)
     have oc := oc.keepD E161 dk5
     have ks := all9 ks fun _ h => h.keepT hP164 E161 (by decide)
     have hxa := hxa.keepO hP164 E161 (by decide)
     have hxb := hxb.keepO hP164 E161 (by decide)
     have okb := okb.keepT hP164 E161 (by decide)
     have ocb := ocb.keepD E161 dk8.symm
     have kas := all9 kas fun _ h => h.keepT hP164 E161 (by decide)
     have kbs := all9 kbs fun _ h => h.keepT hP164 E161 (by decide)
     have hr := hr.keepG (Gr.of E161) dk10.symm (NoK.ofOwn hP164 (by decide))
     have hKa := hKa.keepG (Gr.of E161) dk19.symm (NoK.ofOwn hP164 (by decide))
     have hkq1 := hkq1.keepG (Gr.of E161) dk29.symm (NoK.ofOwn hP164 (by decide))
     have hkq2 := hkq2.keepG (Gr.of E161) dk39.symm (NoK.ofOwn hP164 (by decide))
     have hO149 := hO149.keepT hP164 E161 (by decide)
     have hb := hb.stepL E161 (fun k _ h => hNd.wg k (hfs k (hA.wc k h)))
     have hO162 : Own w160 0 69 1 v159 (Pa.length + 1) ((Pa.flatMap cN ++ [(ptr (Pb.getD 0 default) 0)])) := by simpa [u8v, sv] using hO162
     refine ktk_end (G := fun t9 w' => 29 ∈ t9 → (Own w' 0 27 1 kv K.length (K.flatMap cK) ∧ Own w' 0 69 1 cb Pb.length (Pb.flatMap cN) ∧ Bx w' (P.getD i default) 115 [(Value.slice none 0 0), ka, ca] ∧ Bx w' p 115 [(Value.slice none 0 0), kv, cv] ∧ Bx w' (P.getD (i + 1) default) 115 [(Value.slice none 0 0), kb, cb])) (todo := [26, 29]) (i := 26) rfl (fun _ => ⟨ok, ocb, hxa, hx, hxb⟩) ?_
     refine ktk_step (rs := [29]) (by kernel_rfl) ?_
     refine one_mem ?_
     intro w171 E171 _ a171 hN171 hbs171 hdp171 o_ ho_; obtain rfl := Option.some.inj ho_
     have z_w171 := E171.size
     have hx := hx.keep0 E171
     have ok := ok.keep0 E171
     have oc := oc.keep0 E171
     have ks := all9 ks fun _ h => h.keep0 E171
     have hxa := hxa.keep0 E171
     have hxb := hxb.keep0 E171
     have okb := okb.keep0 E171
     have ocb := ocb.keep0 E171
     have kas := all9 kas fun _ h => h.keep0 E171
     have kbs := all9 kbs fun _ h => h.keep0 E171
     have hr := hr.kz E171
     have hKa := hKa.kz E171
     have hkq1 := hkq1.kz E171
     have hkq2 := hkq2.kz E171
     have hO149 := hO149.keep0 E171
     have hO162 := hO162.keep0 E171
     have hb := hb.step0 E171
     have q171_223 : Sl a171 223 (ptr (P.getD i default) 1) := (hdp171 28 _ 223 (by kernel_rfl) rfl rfl).2 rfl
     have q171_209 : Sl a171 209 v146 := (Option.some.inj ((hdp171 14 _ 209 (by kernel_rfl) rfl rfl).1 rfl)).symm
     have hxa_old := hxa
     refine op_store (vs := [v146]) (cs' := [(Value.slice none 0 0), v146, ca]) size90 (ev_base hN171 rfl q171_223) (ev_base hN171 rfl q171_209) hO149.cl rfl (by simp only [List.all_cons, List.all_nil, Bool.true_and, Bool.and_true, hO149.one]; try rfl) hxa (Nat.le_of_ble_eq_true rfl) rfl ?_
     intro w172 hxa E173
     have z_w172 := E173.size
     have hx := hx.keep E173 (by simp only [ne_eq, Option.some.injEq]; omega)
     have ok := ok.keepX hxa_old E173 (by decide)
     have oc := oc.keepX hxa_old E173 (by decide)
     have ks := all9 ks fun _ h => h.keepX hxa_old E173 (by decide)
     have hxb := hxb.keep E173 (by simp only [ne_eq, Option.some.injEq]; omega)
     have okb := okb.keepX hxa_old E173 (by decide)
     have ocb := ocb.keepX hxa_old E173 (by decide)
     have kas := all9 kas fun _ h => h.keepX hxa_old E173 (by decide)
     have kbs := all9 kbs fun _ h => h.keepX hxa_old E173 (by decide)
     have hr := hr.keepG (Gr.of E173) (Dj.one dk13) (NoK.ofBx hxa_old (by decide))
     have hKa := hKa.keepG (Gr.of E173) (Dj.one dk22) (NoK.ofBx hxa_old (by decide))
     have hkq1 := hkq1.keepG (Gr.of E173) (Dj.one dk32) (NoK.ofBx hxa_old (by decide))
     have hkq2 := hkq2.keepG (Gr.of E173) (Dj.one dk42) (NoK.ofBx hxa_old (by decide))
     have hO149 := hO149.keepX hxa_old E173 (by decide)
     have hO162 := hO162.keepX hxa_old E173 (by decide)
     have hb := hb.stepB E173 (hNd.wg _ (hfs _ hA.wp))
     refine ktk_end0 (G := fun t9 w' => 29 ∈ t9 → (Own w' 0 27 1 kv K.length (K.flatMap cK) ∧ Own w' 0 69 1 cb Pb.length (Pb.flatMap cN) ∧ Bx w' (P.getD i default) 115 [(Value.slice none 0 0), ka, ca] ∧ Bx w' p 115 [(Value.slice none 0 0), kv, cv] ∧ Bx w' (P.getD (i + 1) default) 115 [(Value.slice none 0 0), kb, cb])) (todo := [29]) (i := 29) rfl (fun h => absurd h (by decide)) ?_
     intro w174 E174 a174 hN174 hd174 hbs174 hph174
     have hd174 := hd174.trans ((by simp only [putsL_defers] : _ = _).trans hd)
     have z_w174 := E174.size
     have hx := hx.keep0 E174
     have ok := ok.keep0 E174
     have oc := oc.keep0 E174
     have ks := all9 ks fun _ h => h.keep0 E174
     have hxb := hxb.keep0 E174
     have okb := okb.keep0 E174
     have ocb := ocb.keep0 E174
     have kas := all9 kas fun _ h => h.keep0 E174
     have kbs := all9 kbs fun _ h => h.keep0 E174
     have hr := hr.kz E174
     have hKa := hKa.kz E174
     have hkq1 := hkq1.kz E174
     have hkq2 := hkq2.kz E174
     have hO149 := hO149.keep0 E174
     have hO162 := hO162.keep0 E174
     have hxa := hxa.keep0 E174
     have hb := hb.step0 E174
     have s174_0 := (hbs174 0 rfl).trans (sl_base hN rfl s0)
     have s174_1 := (hbs174 1 rfl).trans (sl_base hN rfl s1)
     have s174_6 := (hbs174 6 rfl).trans (sl_hit hN rfl)
     have s174_8 := (hbs174 8 rfl).trans (sl_hit hN rfl)
     have s174_196 : Sl a174 196 (ptr (P.getD i default) 0) := (hph174 1 _ 196 rfl rfl).2 rfl
     have s174_221 : Sl a174 221 v159 := (Option.some.inj ((hph174 26 _ 221 rfl rfl).1 rfl)).symm
     refine split_end ?_
     refine from_seq (tl := [_, _, _]) (by decide) (by kernel_rfl) rfl ?_
     refine op_nil (ev_base hN174 rfl s174_196) (op_field fld115_2 (ev_hit hN174 rfl) ?_)
     have hxa_old := hxa
     refine op_store (vs := [v159]) (cs' := [(Value.slice none 0 0), v146, v159]) size113 (ev_hit hN174 rfl) (ev_base hN174 rfl s174_221) hO162.cl rfl (by simp only [List.all_cons, List.all_nil, Bool.true_and, Bool.and_true, hO162.one]; try rfl) hxa (Nat.le_of_ble_eq_true rfl) rfl ?_
     intro w175 hxa E176
     have z_w175 := E176.size
     have hx := hx.keep E176 (by simp only [ne_eq, Option.some.injEq]; omega)
     have ok := ok.keepX hxa_old E176 (by decide)
     have oc := oc.keepX hxa_old E176 (by decide)
     have ks := all9 ks fun _ h => h.keepX hxa_old E176 (by decide)
     have hxb := hxb.keep E176 (by simp only [ne_eq, Option.some.injEq]; omega)
     have okb := okb.keepX hxa_old E176 (by decide)
     have ocb := ocb.keepX hxa_old E176 (by decide)
     have kas := all9 kas fun _ h => h.keepX hxa_old E176 (by decide)
     have kbs := all9 kbs fun _ h => h.keepX hxa_old E176 (by decide)
     have hr := hr.keepG (Gr.of E176) (Dj.one dk13) (NoK.ofBx hxa_old (by decide))
     have hKa := hKa.keepG (Gr.of E176) (Dj.one dk22) (NoK.ofBx hxa_old (by decide))
     have hkq1 := hkq1.keepG (Gr.of E176) (Dj.one dk32) (NoK.ofBx hxa_old (by decide))
     have hkq2 := hkq2.keepG (Gr.of E176) (Dj.one dk42) (NoK.ofBx hxa_old (by decide))
     have hO149 := hO149.keepX hxa_old E176 (by decide)
     have hO162 := hO162.keepX hxa_old E176 (by decide)
     have hb := hb.stepB E176 (hNd.wg _ (hfs _ hA.wp))
     refine reg_nil (hK88 _ _ ?_)
     exact hJ85 _ _ _ hN174 hd174 ⟨v146, v159, (sl_base hN174 rfl s174_0), (sl_base hN174 rfl s174_1), (sl_base hN174 rfl s174_6), (sl_base hN174 rfl s174_8), dj152, dj153, dj154.symm, dj155.symm, dj156.symm, dj157.symm, (inF_step (n := w.heap.size) hm150 (by omega) (fun k _ h => hNd.wg k (hfs k (hA.wk k h)))), dj165, dj166, dj167.symm, dj168.symm, dj169.symm, dj170.symm, (inF_step (n := w.heap.size) hm163 (by omega) (fun k _ h => hNd.wg k (hfs k (hA.wc k h)))), hb, (by omega), hx, ok, oc, ks, hxb, okb, ocb, kas, kbs, hr, hKa, hkq1, hkq2, (hO149.cast (n' := (Ka ++ [K.getD i default]).length) (cs' := (Ka ++ [K.getD i default]).flatMap cK) (by first | rfl | (simp; done) | (simp only [List.length_append, List.length_cons, List.length_nil]; omega)) (by first | rfl | simp [cK, cN, cI])), (hO162.cast (n' := (Pa ++ [Pb.getD 0 default]).length) (cs' := (Pa ++ [Pb.getD 0 default]).flatMap cN) (by first | rfl | (simp; done) | (simp only [List.length_append, List.length_cons, List.length_nil]; omega)) (by first | rfl | simp [cK, cN, cI])), hxa⟩
    refine one_mem ?_
    intro w177 E177 _ a177 hN177 hbs177 hdp177 o_ ho_; obtain rfl := Option.some.inj ho_
    have z_w177 := E177.size
    have hx := hx.keep0 E177
    have ok := ok.keep0 E177
    have oc := oc.keep0 E177
    have ks := all9 ks fun _ h => h.keep0 E177
    have hxa := hxa.keep0 E177
    have hxb := hxb.keep0 E177
    have oka := oka.keep0 E177
    have okb := okb.keep0 E177
    have oca := oca.keep0 E177
    have ocb := ocb.keep0 E177
    have kas := all9 kas fun _ h => h.keep0 E177
    have kbs := all9 kbs fun _ h => h.keep0 E177
    have hr := hr.kz E177
    have hKa := hKa.kz E177
    have hkq1 := hkq1.kz E177
    have hkq2 := hkq2.kz E177
    have hb := hb.step0 E177
    have q177_219 : Sl a177 219 (ptr (Pb.getD 0 default) 0) := (hdp177 24 _ 219 (by kernel_rfl) rfl rfl).2 rfl
    refine op_bslice (e := 69) (pv := [(0, (ptr (Pb.getD 0 default) 0))]) (cs := [(ptr (Pb.getD 0 default) 0)]) ⟨rfl, (ev_base hN177 rfl q177_219), trivial⟩ (by kernel_rfl) ?_
    intro w178 b179 lo_b179 hi_b179 hB181 E180
    have z_w178 := E180.size
    have hx := hx.keep0 E180
    have ok := ok.keep0 E180
    have oc := oc.keep0 E180
    have ks := all9 ks fun _ h => h.keep0 E180
    have hxa := hxa.keep0 E180
    have hxb := hxb.keep0 E180
    have oka := oka.keep0 E180
    have okb := okb.keep0 E180
    have oca := oca.keep0 E180
    have ocb := ocb.keep0 E180
    have kas := all9 kas fun _ h => h.keep0 E180
    have kbs := all9 kbs fun _ h => h.keep0 E180
    have hr := hr.kz E180
    have hKa := hKa.kz E180
    have hkq1 := hkq1.kz E180
    have hkq2 := hkq2.kz E180
    have hb := hb.step0 E180
    refine ktk_end (G := fun t9 w' => 29 ∈ t9 → (Own w' 0 27 1 kv K.length (K.flatMap cK) ∧ Own w' 0 69 1 cb Pb.length (Pb.flatMap cN) ∧ Bx w' (P.getD i default) 115 [(Value.slice none 0 0), ka, ca] ∧ Bx w' p 115 [(Value.slice none 0 0), kv, cv] ∧ Bx w' (P.getD (i + 1) default) 115 [(Value.slice none 0 0), kb, cb])) (todo := [13, 14, 25, 26, 29]) (i := 25) rfl (fun _ => ⟨ok, ocb, hxa, hx, hxb⟩) ?_
    refine ktk_step (rs := [13]) (by kernel_rfl) ?_
    refine one_mem ?_
    intro w182 E182 _ a182 hN182 hbs182 hdp182 o_ ho_; obtain rfl := Option.some.inj ho_
    have z_w182 := E182.size
    have hx := hx.keep0 E182
    have ok := ok.keep0 E182
    have oc := oc.keep0 E182
    have ks := all9 ks fun _ h => h.keep0 E182
    have hxa := hxa.keep0 E182
    have hxb := hxb.keep0 E182
    have oka := oka.keep0 E182
    have okb := okb.keep0 E182
    have oca := oca.keep0 E182
    have ocb := ocb.keep0 E182
    have kas := all9 kas fun _ h => h.keep0 E182
    have kbs := all9 kbs fun _ h => h.keep0 E182
    have hr := hr.kz E182
    have hKa := hKa.kz E182
    have hkq1 := hkq1.kz E182
    have hkq2 := hkq2.kz E182
    have hB181 := hB181.keep0 E182
    have hb := hb.step0 E182
    have q182_207 : Sl a182 207 (K.getD i default).1 := (hdp182 12 _ 207 (by kernel_rfl) rfl rfl).2 rfl
    refine op_bslice (e := 27) (pv := [(0, (K.getD i default).1)]) (cs := [(K.getD i default).1]) ⟨rfl, (ev_base hN182 rfl q182_207), trivial⟩ (by obtain ⟨_, _, _, hq9⟩ := (show Own _ _ _ _ (K.getD i default).1 (K.getD i default).2.length ((K.getD i default).2.map u8v) from ks (K.getD i default) (getD_mem (by first | omega | (simp only [List.length_drop, List.length_take]; omega)))).sl; rw [hq9]; kernel_rfl) ?_
    intro w183 b184 lo_b184 hi_b184 hB186 E185
    have z_w183 := E185.size
    have hx := hx.keep0 E185
    have ok := ok.keep0 E185
    have oc := oc.keep0 E185
    have ks := all9 ks fun _ h => h.keep0 E185
    have hxa := hxa.keep0 E185
    have hxb := hxb.keep0 E185
    have oka := oka.keep0 E185
    have okb := okb.keep0 E185
    have oca := oca.keep0 E185
    have ocb := ocb.keep0 E185
    have kas := all9 kas fun _ h => h.keep0 E185
    have kbs := all9 kbs fun _ h => h.keep0 E185
    have hr := hr.kz E185
    have hKa := hKa.kz E185
    have hkq1 := hkq1.kz E185
    have hkq2 := hkq2.kz E185
    have hB181 := hB181.keep0 E185
    have hb := hb.step0 E185
    refine ktk_end (G := fun t9 w' => 29 ∈ t9 → (Own w' 0 27 1 kv K.length (K.flatMap cK) ∧ Own w' 0 69 1 cb Pb.length (Pb.flatMap cN) ∧ Bx w' (P.getD i default) 115 [(Value.slice none 0 0), ka, ca] ∧ Bx w' p 115 [(Value.slice none 0 0), kv, cv] ∧ Bx w' (P.getD (i + 1) default) 115 [(Value.slice none 0 0), kb, cb])) (todo := [13, 14, 26, 29]) (i := 13) rfl (fun _ => ⟨ok, ocb, hxa, hx, hxb⟩) ?_
    refine ktk_step (rs := [14]) (by kernel_rfl) ?_
    refine one_mem ?_
    intro w187 E187 _ a187 hN187 hbs187 hdp187 o_ ho_; obtain rfl := Option.some.inj ho_
    have z_w187 := E187.size
    have hx := hx.keep0 E187
    have ok := ok.keep0 E187
    have oc := oc.keep0 E187
    have ks := all9 ks fun _ h => h.keep0 E187
    have hxa := hxa.keep0 E187
    have hxb := hxb.keep0 E187
    have oka := oka.keep0 E187
    have okb := okb.keep0 E187
    have oca := oca.keep0 E187
    have ocb := ocb.keep0 E187
    have kas := all9 kas fun _ h => h.keep0 E187
    have kbs := all9 kbs fun _ h => h.keep0 E187
    have hr := hr.kz E187
    have hKa := hKa.kz E187
    have hkq1 := hkq1.kz E187
    have hkq2 := hkq2.kz E187
    have hB181 := hB181.keep0 E187
    have hB186 := hB186.keep0 E187
    have hb := hb.step0 E187
    have q187_200 : Sl a187 200 ka := (hdp187 5 _ 200 (by kernel_rfl) rfl rfl).2 rfl
    have q187_208 : Sl a187 208 (Value.slice (some ⟨b184, 0, none⟩) 1 1) := (Option.some.inj ((hdp187 13 _ 208 (by kernel_rfl) rfl rfl).1 rfl)).symm
    have hP193 := oka
    refine op_append slt90 (ev_base hN187 rfl q187_200) hP193 (ev_base hN187 rfl q187_208) (Src.ofRd Try.underlying90 (by decide) (RdC.ofBx (sz := 1) (n := 1) hB186 rfl (by decide)) (by simp only [List.all_cons, List.all_nil, Bool.true_and, Bool.and_true, (own_one (show Own _ _ _ _ (K.getD i default).1 (K.getD i default).2.length ((K.getD i default).2.map u8v) from ks (K.getD i default) (getD_mem (by first | omega | (simp only [List.length_drop, List.length_take]; omega)))))]; try rfl)) (by unfold maxLen; omega) (by omega) (Nat.le_trans (by assumption) hb.size) ?_
    intro v188 w189 hO191 E190 hm192
    have dj194 : DJ kv v188 := DJ.step hm192 (fun k hk => (ok.lt k hk).2) dk3
    have dj224 : DJ kb v188 := DJ.step hm192 (fun k hk => (okb.lt k hk).2) dk7.symm
    have dj225 : Dj G0 (Bl v188) := Dj.step hm192 (fun k hk => (hr.lt k hk).2) dk9.symm
    have dj226 : Dj Ga (Bl v188) := Dj.step hm192 (fun k hk => (hKa.lt k hk).2) dk18.symm
    have dj227 : Dj G1 (Bl v188) := Dj.step hm192 (fun k hk => (hkq1.lt k hk).2) dk28.symm
    have dj228 : Dj G2 (Bl v188) := Dj.step hm192 (fun k hk => (hkq2.lt k hk).2) dk38.symm
    have z_w189 := E190.size
    have hx := hx.keepO hP193 E190 (by decide)
    have ok := ok.keepD E190 dk3
    have oc := oc.keepT hP193 E190 (by decide)
    have ks := all9 ks fun _ h => h.keepT hP193 E190 (by decide)
    have hxa := hxa.keepO hP193 E190 (by decide)
    have hxb := hxb.keepO hP193 E190 (by decide)
    have okb := okb.keepD E190 dk7.symm
    have oca := oca.keepT hP193 E190 (by decide)
    have ocb := ocb.keepT hP193 E190 (by decide)
    have kas := all9 kas fun _ h => h.keepT hP193 E190 (by decide)
    have kbs := all9 kbs fun _ h => h.keepT hP193 E190 (by decide)
    have hr := hr.keepG (Gr.of E190) dk9.symm (NoK.ofOwn hP193 (by decide))
    have hKa := hKa.keepG (Gr.of E190) dk18.symm (NoK.ofOwn hP193 (by decide))
    have hkq1 := hkq1.keepG (Gr.of E190) dk28.symm (NoK.ofOwn hP193 (by decide))
    have hkq2 := hkq2.keepG (Gr.of E190) dk38.symm (NoK.ofOwn hP193 (by decide))
    have hB181 := hB181.keepO hP193 E190 (by decide)
    have hb := hb.stepL E190 (fun k _ h => hNd.wg k (hfs k (hA.wk k h)))
    have hO191 : Own w189 0 27 1 v188 (Ka.length + 1) ((Ka.flatMap cK ++ [(K.getD i default).1])) := by simpa [u8v, sv] using hO191
    refine ktk_end (G := fun t9 w' => 29 ∈ t9 → (Own w' 0 27 1 kv K.length (K.flatMap cK) ∧ Own w' 0 69 1 cb Pb.length (Pb.flatMap cN) ∧ Bx w' (P.getD i default) 115 [(Value.slice none 0 0), ka, ca] ∧ Bx w' p 115 [(Value.slice none 0 0), kv, cv] ∧ Bx w' (P.getD (i + 1) default) 115 [(Value.slice none 0 0), kb, cb])) (todo := [14, 26, 29]) (i := 14) rfl (fun _ => ⟨ok, ocb, hxa, hx, hxb⟩) ?_
    refine ktk_step (rs := [26]) (by kernel_rfl) ?_
    refine one_mem ?_
    intro w229 E229 _ a229 hN229 hbs229 hdp229 o_ ho_; obtain rfl := Option.some.inj ho_
    have z_w229 := E229.size
    have hx := hx.keep0 E229
    have ok := ok.keep0 E229
    have oc := oc.keep0 E229
    have ks := all9 ks fun _ h => h.keep0 E229
    have hxa := hxa.keep0 E229
    have hxb := hxb.keep0 E229
    have okb := okb.keep0 E229
    have oca := oca.keep0 E229
    have ocb := ocb.keep0 E229
    have kas := all9 kas fun _ h => h.keep0 E229
    have kbs := all9 kbs fun _ h => h.keep0 E229
    have hr := hr.kz E229
    have hKa := hKa.kz E229
    have hkq1 := hkq1.kz E229
    have hkq2 := hkq2.kz E229
    have hB181 := hB181.keep0 E229
    have hO191 := hO191.keep0 E229
    have hb := hb.step0 E229
    have q229_213 : Sl a229 213 ca := (hdp229 18 _ 213 (by kernel_rfl) rfl rfl).2 rfl
    have q229_220 : Sl a229 220 (Value.slice (some ⟨b179, 0, none⟩) 1 1) := (Option.some.inj ((hdp229 25 _ 220 (by kernel_rfl) rfl rfl).1 rfl)).symm
    have hP235 := oca
    refine op_append slt113 (ev_base hN229 rfl q229_213) hP235 (ev_base hN229 rfl q229_220) (Src.ofRd Try.underlying113 (by decide) (RdC.ofBx (sz := 1) (n := 1) hB181 rfl (by decide)) (one_pn [Pb.getD 0 default])) (by unfold maxLen; omega) (by omega) (Nat.le_trans (by assumption) hb.size) ?_
    intro v230 w231 hO233 E232 hm234
    have dj236 : DJ cv v230 := DJ.step hm234 (fun k hk => (oc.lt k hk).2) dk5
    have dj237 : DJ cb v230 := DJ.step hm234 (fun k hk => (ocb.lt k hk).2) dk8.symm
    have dj252 : Dj G0 (Bl v230) := Dj.step hm234 (fun k hk => (hr.lt k hk).2) dk10.symm
    have dj253 : Dj Ga (Bl v230) := Dj.step hm234 (fun k hk => (hKa.lt k hk).2) dk19.symm
    have dj254 : Dj G1 (Bl v230) := Dj.step hm234 (fun k hk => (hkq1.lt k hk).2) dk29.symm
    have dj255 : Dj G2 (Bl v230) := Dj.step hm234 (fun k hk => (hkq2.lt k hk).2) dk39.symm
    have z_w231 := E232.size
    have hx := hx.keepO hP235 E232 (by decide)
    have ok := ok.keepT hP235 E232 (by decide)
    have oc := oc.keepD E232 dk5
    have ks := all9 ks fun _ h => h.keepT hP235 E232 (by decide)
    have hxa := hxa.keepO hP235 E232 (by decide)
    have hxb := hxb.keepO hP235 E232 (by decide)
    have okb := okb.keepT hP235 E232 (by decide)
    have ocb := ocb.keepD E232 dk8.symm
    have kas := all9 kas fun _ h => h.keepT hP235 E232 (by decide)
    have kbs := all9 kbs fun _ h => h.keepT hP235 E232 (by decide)
    have hr := hr.keepG (Gr.of E232) dk10.symm (NoK.ofOwn hP235 (by decide))
    have hKa := hKa.keepG (Gr.of E232) dk19.symm (NoK.ofOwn hP235 (by decide))
    have hkq1 := hkq1.keepG (Gr.of E232) dk29.symm (NoK.ofOwn hP235 (by decide))
    have hkq2 := hkq2.keepG (Gr.of E232) dk39.symm (NoK.ofOwn hP235 (by decide))
    have hO191 := hO191.keepT hP235 E232 (by decide)
    have hb := hb.stepL E232 (fun k _ h => hNd.wg k (hfs k (hA.wc k h)))
    have hO233 : Own w231 0 69 1 v230 (Pa.length + 1) ((Pa.flatMap cN ++ [(ptr (Pb.getD 0 default) 0)])) := by simpa [u8v, sv] using hO233
    refine ktk_end (G := fun t9 w' => 29 ∈ t9 → (Own w' 0 27 1 kv K.length (K.flatMap cK) ∧ Own w' 0 69 1 cb Pb.length (Pb.flatMap cN) ∧ Bx w' (P.getD i default) 115 [(Value.slice none 0 0), ka, ca] ∧ Bx w' p 115 [(Value.slice none 0 0), kv, cv] ∧ Bx w' (P.getD (i + 1) default) 115 [(Value.slice none 0 0), kb, cb])) (todo := [26, 29]) (i := 26) rfl (fun _ => ⟨ok, ocb, hxa, hx, hxb⟩) ?_
    refine ktk_step (rs := [29]) (by kernel_rfl) ?_
    refine one_mem ?_
    intro w256 E256 _ a256 hN256 hbs256 hdp256 o_ ho_; obtain rfl := Option.some.inj ho_
    have z_w256 := E256.size
    have hx := hx.keep0 E256
    have ok := ok.keep0 E256
    have oc := oc.keep0 E256
    have ks := all9 ks fun _ h => h.keep0 E256
    have hxa := hxa.keep0 E256
    have hxb := hxb.keep0 E256
    have okb := okb.keep0 E256
    have ocb := ocb.keep0 E256
    have kas := all9 kas fun _ h => h.keep0 E256
    have kbs := all9 kbs fun _ h => h.keep0 E256
    have hr := hr.kz E256
    have hKa := hKa.kz E256
    have hkq1 := hkq1.kz E256
    have hkq2 := hkq2.kz E256
    have hO191 := hO191.keep0 E256
    have hO233 := hO233.keep0 E256
    have hb := hb.step0 E256
    have q256_223 : Sl a256 223 (ptr (P.getD i default) 1) := (hdp256 28 _ 223 (by kernel_rfl) rfl rfl).2 rfl
    have q256_209 : Sl a256 209 v188 := (Option.some.inj ((hdp256 14 _ 209 (by kernel_rfl) rfl rfl).1 rfl)).symm
    have hxa_old := hxa
    refine op_store (vs := [v188]) (cs' := [(Value.slice none 0 0), v188, ca]) size90 (ev_base hN256 rfl q256_223) (ev_base hN256 rfl q256_209) hO191.cl rfl (by simp only [List.all_cons, List.all_nil, Bool.true_and, Bool.and_true, hO191.one]; try rfl) hxa (Nat.le_of_ble_eq_true rfl) rfl ?_
    intro w257 hxa E258
    have z_w257 := E258.size
    have hx := hx.keep E258 (by simp only [ne_eq, Option.some.injEq]; omega)
    have ok := ok.keepX hxa_old E258 (by decide)
    have oc := oc.keepX hxa_old E258 (by decide)
    have ks := all9 ks fun _ h => h.keepX hxa_old E258 (by decide)
    have hxb := hxb.keep E258 (by simp only [ne_eq, Option.some.injEq]; omega)
    have okb := okb.keepX hxa_old E258 (by decide)
    have ocb := ocb.keepX hxa_old E258 (by decide)
    have kas := all9 kas fun _ h => h.keepX hxa_old E258 (by decide)
    have kbs := all9 kbs fun _ h => h.keepX hxa_old E258 (by decide)
    have hr := hr.keepG (Gr.of E258) (Dj.one dk13) (NoK.ofBx hxa_old (by decide))
    have hKa := hKa.keepG (Gr.of E258) (Dj.one dk22) (NoK.ofBx hxa_old (by decide))
    have hkq1 := hkq1.keepG (Gr.of E258) (Dj.one dk32) (NoK.ofBx hxa_old (by decide))
    have hkq2 := hkq2.keepG (Gr.of E258) (Dj.one dk42) (NoK.ofBx hxa_old (by decide))
    have hO191 := hO191.keepX hxa_old E258 (by decide)
    have hO233 := hO233.keepX hxa_old E258 (by decide)
    have hb := hb.stepB E258 (hNd.wg _ (hfs _ hA.wp))
    refine ktk_end0 (G := fun t9 w' => 29 ∈ t9 → (Own w' 0 27 1 kv K.length (K.flatMap cK) ∧ Own w' 0 69 1 cb Pb.length (Pb.flatMap cN) ∧ Bx w' (P.getD i default) 115 [(Value.slice none 0 0), ka, ca] ∧ Bx w' p 115 [(Value.slice none 0 0), kv, cv] ∧ Bx w' (P.getD (i + 1) default) 115 [(Value.slice none 0 0), kb, cb])) (todo := [29]) (i := 29) rfl (fun h => absurd h (by decide)) ?_
    intro w259 E259 a259 hN259 hd259 hbs259 hph259
    have hd259 := hd259.trans ((by simp only [putsL_defers] : _ = _).trans hd)
    have z_w259 := E259.size
    have hx := hx.keep0 E259
    have ok := ok.keep0 E259
    have oc := oc.keep0 E259
    have ks := all9 ks fun _ h => h.keep0 E259
    have hxb := hxb.keep0 E259
    have okb := okb.keep0 E259
    have ocb := ocb.keep0 E259
    have kas := all9 kas fun _ h => h.keep0 E259
    have kbs := all9 kbs fun _ h => h.keep0 E259
    have hr := hr.kz E259
    have hKa := hKa.kz E259
    have hkq1 := hkq1.kz E259
    have hkq2 := hkq2.kz E259
    have hO191 := hO191.keep0 E259
    have hO233 := hO233.keep0 E259
    have hxa := hxa.keep0 E259
    have hb := hb.step0 E259
    have s259_0 := (hbs259 0 rfl).trans (sl_base hN rfl s0)
    have s259_1 := (hbs259 1 rfl).trans (sl_base hN rfl s1)
    have s259_6 := (hbs259 6 rfl).trans (sl_hit hN rfl)
    have s259_8 := (hbs259 8 rfl).trans (sl_hit hN rfl)
    have s259_196 : Sl a259 196 (ptr (P.getD i default) 0) := (hph259 1 _ 196 rfl rfl).2 rfl
    have s259_221 : Sl a259 221 v230 := (Option.some.inj ((hph259 26 _ 221 rfl rfl).1 rfl)).symm
    refine split_end ?_
    refine from_seq (tl := [_, _, _]) (by decide) (by kernel_rfl) rfl ?_
    refine op_nil (ev_base hN259 rfl s259_196) (op_field fld115_2 (ev_hit hN259 rfl) ?_)
    have hxa_old := hxa
    refine op_store (vs := [v230]) (cs' := [(Value.slice none 0 0), v188, v230]) size113 (ev_hit hN259 rfl) (ev_base hN259 rfl s259_221) hO233.cl rfl (by simp only [List.all_cons, List.all_nil, Bool.true_and, Bool.and_true, hO233.one]; try rfl) hxa (Nat.le_of_ble_eq_true rfl) rfl ?_
    intro w260 hxa E261
    have z_w260 := E261.size
    have hx := hx.keep E261 (by simp only [ne_eq, Option.some.injEq]; omega)
    have ok := ok.keepX hxa_old E261 (by decide)
    have oc := oc.keepX hxa_old E261 (by decide)
    have ks := all9 ks fun _ h => h.keepX hxa_old E261 (by decide)
    have hxb := hxb.keep E261 (by simp only [ne_eq, Option.some.injEq]; omega)
    have okb := okb.keepX hxa_old E261 (by decide)
    have ocb := ocb.keepX hxa_old E261 (by decide)
    have kas := all9 kas fun _ h => h.keepX hxa_old E261 (by decide)
    have kbs := all9 kbs fun _ h => h.keepX hxa_old E261 (by decide)
    have hr := hr.keepG (Gr.of E261) (Dj.one dk13) (NoK.ofBx hxa_old (by decide))
    have hKa := hKa.keepG (Gr.of E261) (Dj.one dk22) (NoK.ofBx hxa_old (by decide))
    have hkq1 := hkq1.keepG (Gr.of E261) (Dj.one dk32) (NoK.ofBx hxa_old (by decide))
    have hkq2 := hkq2.keepG (Gr.of E261) (Dj.one dk42) (NoK.ofBx hxa_old (by decide))
    have hO191 := hO191.keepX hxa_old E261 (by decide)
    have hO233 := hO233.keepX hxa_old E261 (by decide)
    have hb := hb.stepB E261 (hNd.wg _ (hfs _ hA.wp))
    refine reg_nil (hK88 _ _ ?_)
    exact hJ85 _ _ _ hN259 hd259 ⟨v188, v230, (sl_base hN259 rfl s259_0), (sl_base hN259 rfl s259_1), (sl_base hN259 rfl s259_6), (sl_base hN259 rfl s259_8), dj194, dj224, dj225.symm, dj226.symm, dj227.symm, dj228.symm, (inF_step (n := w.heap.size) hm192 (by omega) (fun k _ h => hNd.wg k (hfs k (hA.wk k h)))), dj236, dj237, dj252.symm, dj253.symm, dj254.symm, dj255.symm, (inF_step (n := w.heap.size) hm234 (by omega) (fun k _ h => hNd.wg k (hfs k (hA.wc k h)))), hb, (by omega), hx, ok, oc, ks, hxb, okb, ocb, kas, kbs, hr, hKa, hkq1, hkq2, (hO191.cast (n' := (Ka ++ [K.getD i default]).length) (cs' := (Ka ++ [K.getD i default]).flatMap cK) (by first | rfl | (simp; done) | (simp only [List.length_append, List.length_cons, List.length_nil]; omega)) (by first | rfl | simp [cK, cN, cI])), (hO233.cast (n' := (Pa ++ [Pb.getD 0 default]).length) (cs' := (Pa ++ [Pb.getD 0 default]).flatMap cN) (by first | rfl | (simp; done) | (simp only [List.length_append, List.length_cons, List.length_nil]; omega)) (by first | rfl | simp [cK, cN, cI])), hxa⟩
  ·
   rintro a85 w85 hN85 hd85 ⟨vk, vc, s85_0, s85_1, s85_6, s85_8, dj68, dj70, dj71, dj72, dj73, dj74, hin75, dj76, dj77, dj78, dj79, dj80, dj82, hin83, hb, zl_w85, hx, ok, oc, ks, hxb, okb, ocb, kas, kbs, hr, hKa, hkq1, hkq2, hO86, hO87, hbj84⟩
   have z_w85 := hb.size
   refine seq_any fun K262 hK262 => reg_from mixed ?_
   intro w264 E263
   have z_w264 := E263.size
   have hx := hx.keep0 E263
   have ok := ok.keep0 E263
   have oc := oc.keep0 E263
   have ks := all9 ks fun _ h => h.keep0 E263
   have hxb := hxb.keep0 E263
   have okb := okb.keep0 E263
   have ocb := ocb.keep0 E263
   have kas := all9 kas fun _ h => h.keep0 E263
   have kbs := all9 kbs fun _ h => h.keep0 E263
   have hr := hr.kz E263
   have hKa := hKa.kz E263
   have hkq1 := hkq1.kz E263
   have hkq2 := hkq2.kz E263
   have hO86 := hO86.keep0 E263
   have hO87 := hO87.keep0 E263
   have hbj84 := hbj84.keep0 E263
   have hb := hb.step0 E263
   refine from_still (m := 12) 12 (hd := [_, _, _, _, _, _, _, _, _, _, _, _]) (by kernel_rfl) rfl rfl ?_
   refine st_step rfl (fun _ h9 => op_move (ev_base hN85 rfl s85_0) h9) ?_
   refine st_step rfl (fun _ h9 => op_nil (ev_hit hN85 rfl) h9) ?_
   refine st_step rfl (fun _ h9 => op_field fld115_1 (ev_hit hN85 rfl) h9) ?_
   refine st_step rfl (fun _ h9 => op_load1 (v := kv) one90 (ev_hit hN85 rfl) (hx.cell rfl) h9) ?_
   refine st_step rfl (fun _ h9 => op_move (ev_base hN85 rfl s85_1) h9) ?_
   refine st_step rfl (fun _ h9 => op_move (ev_base hN85 rfl s85_8) h9) ?_
   refine st_step rfl (fun _ h9 => op_nil (ev_hit hN85 rfl) h9) ?_
   refine st_step rfl (fun _ h9 => op_field fld115_1 (ev_hit hN85 rfl) h9) ?_
   refine st_step rfl (fun _ h9 => op_load1 (v := kb) one90 (ev_hit hN85 rfl) (hxb.cell rfl) h9) ?_
   refine st_index_rd slt90 (ev_hit hN85 rfl) okb.rdw rfl (by omega) (by omega) ?_
   intro b265 o266 h0b265 h1b265 hc267
   refine st_step rfl (fun _ h9 => op_load1 (v := (Kb.getD 0 default).1) one27 (ev_hit hN85 rfl) (by have := hc267 0 (Kb.getD 0 default).1 (by decide) (el_kd (i := 0) (by omega) (by first | omega | (simp only [List.length_drop, List.length_take]; omega))); simpa using this) h9) ?_
   refine st_index_own (i := i) slt90 (ev_hit hN85 rfl) ok (ev_hit hN85 rfl) (by omega) (by omega) ?_
   intro b268 o269 lo_b268 hA270
   have hA270 : AtV kv (i) b268 o269 := by simpa using hA270
   refine st_nil ?_
   refine from_seq (tl := [_]) (by decide) (by kernel_rfl) rfl ?_
   have hP273 := ok
   refine op_store_own (vs := [(Kb.getD 0 default).1]) size27 (ev_hit hN85 rfl) (ev_hit hN85 rfl) (own_cl (show Own _ _ _ _ (Kb.getD 0 default).1 (Kb.getD 0 default).2.length ((Kb.getD 0 default).2.map u8v) from kbs (Kb.getD 0 default) (getD_mem (by first | omega | (simp only [List.length_drop, List.length_take]; omega))))) rfl (by simp only [List.all_cons, List.all_nil, Bool.true_and, Bool.and_true, (own_one (show Own _ _ _ _ (Kb.getD 0 default).1 (Kb.getD 0 default).2.length ((Kb.getD 0 default).2.map u8v) from kbs (Kb.getD 0 default) (getD_mem (by first | omega | (simp only [List.length_drop, List.length_take]; omega)))))]; try rfl) hP273 hA270 (by rw [hP273.1]; simp only [List.length_cons, List.length_nil]; omega) ?_
   intro w271 hO274 E272
   have z_w271 := E272.size
   have hx := hx.keepO hP273 E272 (by decide)
   have oc := oc.keepT hP273 E272 (by decide)
   have ks := all9 ks fun _ h => h.keepT hP273 E272 (by decide)
   have hxb := hxb.keepO hP273 E272 (by decide)
   have okb := okb.keepD E272 dk4.symm
   have ocb := ocb.keepT hP273 E272 (by decide)
   have kas := all9 kas fun _ h => h.keepT hP273 E272 (by decide)
   have kbs := all9 kbs fun _ h => h.keepT hP273 E272 (by decide)
   have hr := hr.keepG (Gr.of E272) djkG.symm (NoK.ofOwn hP273 (by decide))
   have hKa := hKa.keepG (Gr.of E272) dk15.symm (NoK.ofOwn hP273 (by decide))
   have hkq1 := hkq1.keepG (Gr.of E272) dk25.symm (NoK.ofOwn hP273 (by decide))
   have hkq2 := hkq2.keepG (Gr.of E272) dk35.symm (NoK.ofOwn hP273 (by decide))
   have hO86 := hO86.keepD E272 dj68.symm
   have hO87 := hO87.keepT hP273 E272 (by decide)
   have hbj84 := hbj84.keepO hP273 E272 (by decide)
   have hb := hb.stepL E272 (fun k _ h => hNd.wk k h)
   have hO274 : Own w271 0 27 1 kv K.length (((K.set i (Kb.getD 0 default))).flatMap cK) := by exact hO274.cast rfl (set_K (d := Kb.getD 0 default) (by omega))
   refine reg_nil (hK262 _ _ (reg_split (hd := [_, _, _, _, _, _, _, _, _, _, _, _, _, _, _]) (tl := _) 15 mixed (by kernel_rfl) rfl rfl ?_))
   refine any_envk (φ := phiV [(fun uz => uz = (ptr (P.getD (i + 1) default) 0)), (fun uz => uz = (ptr (P.getD (i + 1) default) 0)), (fun uz => uz = (ptr (P.getD (i + 1) default) 0)), (fun uz => uz = (ptr (P.getD (i + 1) default) 0)), (fun uz => uz = (ptr (P.getD (i + 1) default) 1)), (fun uz => uz = kb), (fun uz => uz = (cutS 1 kb 1)), (fun uz => uz = (ptr (P.getD (i + 1) default) 0)), (fun uz => uz = (ptr (P.getD (i + 1) default) 0)), (fun uz => uz = (ptr (P.getD (i + 1) default) 2)), (fun uz => uz = cb), (fun uz => uz = (cutS 1 cb 1)), (fun uz => uz = (ptr (P.getD (i + 1) default) 0)), (fun uz => uz = (ptr (P.getD (i + 1) default) 1)), (fun _ => True)]) (G := fun c9 w' => c9 ≤ 0 → (Bx w' (P.getD (i + 1) default) 115 [(Value.slice none 0 0), kb, cb])) [14] (by kernel_rfl) (by kernel_rfl) (by kernel_rfl) (by kernel_rfl) hN85 (fun _ w1 w2 E h hc9 => (h hc9).keep0 E) (fun _ => hxb) (ObKs.cons ?_ (ObKs.cons ?_ (ObKs.cons ?_ (ObKs.cons ?_ (ObKs.cons ?_ (ObKs.cons ?_ (ObKs.cons ?_ (ObKs.cons ?_ (ObKs.cons ?_ (ObKs.cons ?_ (ObKs.cons ?_ (ObKs.cons ?_ (ObKs.cons ?_ (ObKs.cons ?_ (ObKs.pass rfl (ObKs.nil)))))))))))))))) (by simp only [putsL_defers]) ?_
   ·
    intro eA aA wA hNA hckA hGA hbsA hdpA
    have qA_8 := (hbsA 8 rfl).trans (sl_base hN85 rfl s85_8)
    refine op_move (ev_base hNA rfl qA_8) ?_
    exact obK_end rfl rfl rfl
   ·
    intro eA aA wA hNA hckA hGA hbsA hdpA
    have qA_8 := (hbsA 8 rfl).trans (sl_base hN85 rfl s85_8)
    refine op_move (ev_base hNA rfl qA_8) ?_
    exact obK_end rfl rfl rfl
   ·
    intro eA aA wA hNA hckA hGA hbsA hdpA
    have qA_8 := (hbsA 8 rfl).trans (sl_base hN85 rfl s85_8)
    refine op_move (ev_base hNA rfl qA_8) ?_
    exact obK_end rfl rfl rfl
   ·
    intro eA aA wA hNA hckA hGA hbsA hdpA
    have qA_240 : Sl aA 240 (ptr (P.getD (i + 1) default) 0) := (hdpA 2 _ 240 (by kernel_rfl) rfl rfl).2 rfl
    refine op_nil (ev_base hNA rfl qA_240) ?_
    exact obK_end rfl rfl rfl
   ·
    intro eA aA wA hNA hckA hGA hbsA hdpA
    have qA_241 : Sl aA 241 (ptr (P.getD (i + 1) default) 0) := (hdpA 3 _ 241 (by kernel_rfl) rfl rfl).2 rfl
    refine op_field fld115_1 (ev_base hNA rfl qA_241) ?_
    exact obK_end rfl rfl rfl
   ·
    intro eA aA wA hNA hckA hGA hbsA hdpA
    have qA_242 : Sl aA 242 (ptr (P.getD (i + 1) default) 1) := (hdpA 4 _ 242 (by kernel_rfl) rfl rfl).2 rfl
    have hGA := hGA (hckA 0 14 rfl (by kernel_rfl))
    refine op_load1 (v := kb) one90 (ev_base hNA rfl qA_242) (hGA.cell rfl) ?_
    exact obK_end rfl rfl rfl
   ·
    intro eA aA wA hNA hckA hGA hbsA hdpA
    have qA_243 : Sl aA 243 kb := (hdpA 5 _ 243 (by kernel_rfl) rfl rfl).2 rfl
    refine op_slice_cutS (k := 1) slt90 (ev_base hNA rfl qA_243) okb rfl (by omega) (by omega) ?_
    exact obK_end rfl rfl rfl
   ·
    intro eA aA wA hNA hckA hGA hbsA hdpA
    have qA_8 := (hbsA 8 rfl).trans (sl_base hN85 rfl s85_8)
    refine op_move (ev_base hNA rfl qA_8) ?_
    exact obK_end rfl rfl rfl
   ·
    intro eA aA wA hNA hckA hGA hbsA hdpA
    have qA_245 : Sl aA 245 (ptr (P.getD (i + 1) default) 0) := (hdpA 7 _ 245 (by kernel_rfl) rfl rfl).2 rfl
    refine op_nil (ev_base hNA rfl qA_245) ?_
    exact obK_end rfl rfl rfl
   ·
    intro eA aA wA hNA hckA hGA hbsA hdpA
    have qA_246 : Sl aA 246 (ptr (P.getD (i + 1) default) 0) := (hdpA 8 _ 246 (by kernel_rfl) rfl rfl).2 rfl
    refine op_field fld115_2 (ev_base hNA rfl qA_246) ?_
    exact obK_end rfl rfl rfl
   ·
    intro eA aA wA hNA hckA hGA hbsA hdpA
    have qA_247 : Sl aA 247 (ptr (P.getD (i + 1) default) 2) := (hdpA 9 _ 247 (by kernel_rfl) rfl rfl).2 rfl
    have hGA := hGA (hckA 0 14 rfl (by kernel_rfl))
    refine op_load1 (v := cb) one113 (ev_base hNA rfl qA_247) (hGA.cell rfl) ?_
    exact obK_end rfl rfl rfl
   ·
    intro eA aA wA hNA hckA hGA hbsA hdpA
    have qA_248 : Sl aA 248 cb := (hdpA 10 _ 248 (by kernel_rfl) rfl rfl).2 rfl
    refine op_slice_cutS (k := 1) slt113 (ev_base hNA rfl qA_248) ocb rfl (by omega) (by omega) ?_
    exact obK_end rfl rfl rfl
   ·
    intro eA aA wA hNA hckA hGA hbsA hdpA
    have qA_238 : Sl aA 238 (ptr (P.getD (i + 1) default) 0) := (hdpA 0 _ 238 (by kernel_rfl) rfl rfl).2 rfl
    refine op_nil (ev_base hNA rfl qA_238) ?_
    exact obK_end rfl rfl rfl
   ·
    intro eA aA wA hNA hckA hGA hbsA hdpA
    have qA_250 : Sl aA 250 (ptr (P.getD (i + 1) default) 0) := (hdpA 12 _ 250 (by kernel_rfl) rfl rfl).2 rfl
    refine op_field fld115_1 (ev_base hNA rfl qA_250) ?_
    exact obK_end rfl rfl rfl
   ·
    intro w275 E275 _ a275 hN275 hbs275 hdp275 o_ ho_; obtain rfl := Option.some.inj ho_
    have z_w275 := E275.size
    have hx := hx.keep0 E275
    have oc := oc.keep0 E275
    have ks := all9 ks fun _ h => h.keep0 E275
    have hxb := hxb.keep0 E275
    have okb := okb.keep0 E275
    have ocb := ocb.keep0 E275
    have kas := all9 kas fun _ h => h.keep0 E275
    have kbs := all9 kbs fun _ h => h.keep0 E275
    have hr := hr.kz E275
    have hKa := hKa.kz E275
    have hkq1 := hkq1.kz E275
    have hkq2 := hkq2.kz E275
    have hO86 := hO86.keep0 E275
    have hO87 := hO87.keep0 E275
    have hbj84 := hbj84.keep0 E275
    have hO274 := hO274.keep0 E275
    have hb := hb.step0 E275
    have q275_251 : Sl a275 251 (ptr (P.getD (i + 1) default) 1) := (hdp275 13 _ 251 (by kernel_rfl) rfl rfl).2 rfl
    have q275_244 : Sl a275 244 (cutS 1 kb 1) := (hdp275 6 _ 244 (by kernel_rfl) rfl rfl).2 rfl
    have hxb_old := hxb
    refine op_store (vs := [(cutS 1 kb 1)]) (cs' := [(Value.slice none 0 0), (cutS 1 kb 1), cb]) size90 (ev_base hN275 rfl q275_251) (ev_base hN275 rfl q275_244) (own_cl (okb.cutO (k := 1) (by omega))) rfl (by simp only [List.all_cons, List.all_nil, Bool.true_and, Bool.and_true, (own_one (okb.cutO (k := 1) (by omega)))]; try rfl) hxb (Nat.le_of_ble_eq_true rfl) rfl ?_
    intro w276 hxb E277
    have z_w276 := E277.size
    have hx := hx.keep E277 (by simp only [ne_eq, Option.some.injEq]; omega)
    have oc := oc.keepX hxb_old E277 (by decide)
    have ks := all9 ks fun _ h => h.keepX hxb_old E277 (by decide)
    have okb := okb.keepX hxb_old E277 (by decide)
    have ocb := ocb.keepX hxb_old E277 (by decide)
    have kas := all9 kas fun _ h => h.keepX hxb_old E277 (by decide)
    have kbs := all9 kbs fun _ h => h.keepX hxb_old E277 (by decide)
    have hr := hr.keepG (Gr.of E277) (Dj.one dk14) (NoK.ofBx hxb_old (by decide))
    have hKa := hKa.keepG (Gr.of E277) (Dj.one dk23) (NoK.ofBx hxb_old (by decide))
    have hkq1 := hkq1.keepG (Gr.of E277) (Dj.one dk33) (NoK.ofBx hxb_old (by decide))
    have hkq2 := hkq2.keepG (Gr.of E277) (Dj.one dk43) (NoK.ofBx hxb_old (by decide))
    have hO86 := hO86.keepX hxb_old E277 (by decide)
    have hO87 := hO87.keepX hxb_old E277 (by decide)
    have hbj84 := hbj84.keep E277 (by simp only [ne_eq, Option.some.injEq]; omega)
    have hO274 := hO274.keepX hxb_old E277 (by decide)
    have hb := hb.stepB E277 (hNd.wg _ (hgs _ hB.wp))
    refine kk_end0 rfl (fun h => absurd h (by simp)) ?_
    intro w278 E278 a278 hN278 hd278 hbs278 hph278
    have hd278 := hd278.trans ((by simp only [putsL_defers] : _ = _).trans hd85)
    have z_w278 := E278.size
    have hx := hx.keep0 E278
    have oc := oc.keep0 E278
    have ks := all9 ks fun _ h => h.keep0 E278
    have okb := okb.keep0 E278
    have ocb := ocb.keep0 E278
    have kas := all9 kas fun _ h => h.keep0 E278
    have kbs := all9 kbs fun _ h => h.keep0 E278
    have hr := hr.kz E278
    have hKa := hKa.kz E278
    have hkq1 := hkq1.kz E278
    have hkq2 := hkq2.kz E278
    have hO86 := hO86.keep0 E278
    have hO87 := hO87.keep0 E278
    have hbj84 := hbj84.keep0 E278
    have hO274 := hO274.keep0 E278
    have hxb := hxb.keep0 E278
    have hb := hb.step0 E278
    have s278_239 : Sl a278 239 (ptr (P.getD (i + 1) default) 0) := (hph278 1 _ 239 rfl rfl).2 rfl
    have s278_249 : Sl a278 249 (cutS 1 cb 1) := (hph278 11 _ 249 rfl rfl).2 rfl
    refine split_end ?_
    refine from_seq (tl := [_, _, _]) (by decide) (by kernel_rfl) rfl ?_
    refine op_nil (ev_base hN278 rfl s278_239) (op_field fld115_2 (ev_hit hN278 rfl) ?_)
    have hxb_old := hxb
    refine op_store (vs := [(cutS 1 cb 1)]) (cs' := [(Value.slice none 0 0), (cutS 1 kb 1), (cutS 1 cb 1)]) size113 (ev_hit hN278 rfl) (ev_base hN278 rfl s278_249) (own_cl (ocb.cutO (k := 1) (by omega))) rfl (by simp only [List.all_cons, List.all_nil, Bool.true_and, Bool.and_true, (own_one (ocb.cutO (k := 1) (by omega)))]; try rfl) hxb (Nat.le_of_ble_eq_true rfl) rfl ?_
    intro w279 hxb E280
    have z_w279 := E280.size
    have hx := hx.keep E280 (by simp only [ne_eq, Option.some.injEq]; omega)
    have oc := oc.keepX hxb_old E280 (by decide)
    have ks := all9 ks fun _ h => h.keepX hxb_old E280 (by decide)
    have okb := okb.keepX hxb_old E280 (by decide)
    have ocb := ocb.keepX hxb_old E280 (by decide)
    have kas := all9 kas fun _ h => h.keepX hxb_old E280 (by decide)
    have kbs := all9 kbs fun _ h => h.keepX hxb_old E280 (by decide)
    have hr := hr.keepG (Gr.of E280) (Dj.one dk14) (NoK.ofBx hxb_old (by decide))
    have hKa := hKa.keepG (Gr.of E280) (Dj.one dk23) (NoK.ofBx hxb_old (by decide))
    have hkq1 := hkq1.keepG (Gr.of E280) (Dj.one dk33) (NoK.ofBx hxb_old (by decide))
    have hkq2 := hkq2.keepG (Gr.of E280) (Dj.one dk43) (NoK.ofBx hxb_old (by decide))
    have hO86 := hO86.keepX hxb_old E280 (by decide)
    have hO87 := hO87.keepX hxb_old E280 (by decide)
    have hbj84 := hbj84.keep E280 (by simp only [ne_eq, Option.some.injEq]; omega)
    have hO274 := hO274.keepX hxb_old E280 (by decide)
    have hb := hb.stepB E280 (hNd.wg _ (hgs _ hB.wp))
    refine reg_nil ?_
    refine hK63 _ _ (seq_any fun K281 hK281 => one_reg (op_assign rfl (reg_nil (hK281 _ _ (wp_ret ?_)))))
    refine ret1 rfl hd278 (ev_hit hN278 rfl) ⟨_, rfl, ?_⟩
    have hcv282 : Own w279 0 27 1 (cutS 1 kb 1) (Kb.drop 1).length ((Kb.drop 1).flatMap cK) := (okb.cutO (k := 1) (by omega)).cast (by simp) (flat_drop cK_len _ _)
    have dj283 : Dj G0 (Bl (cutS 1 kb 1)) := fun k hk hg => dk11.symm k hk (okb.cut_ob.symm.trans hg)
    have dj284 : Dj Ga (Bl (cutS 1 kb 1)) := fun k hk hg => dk20.symm k hk (okb.cut_ob.symm.trans hg)
    have dj285 : Dj G1 (Bl (cutS 1 kb 1)) := fun k hk hg => dk30.symm k hk (okb.cut_ob.symm.trans hg)
    have dj286 : Dj G2 (Bl (cutS 1 kb 1)) := fun k hk hg => dk40.symm k hk (okb.cut_ob.symm.trans hg)
    have dj287 : DJ vk (cutS 1 kb 1) := fun k hk hg => dj70.symm k hk (okb.cut_ob.symm.trans hg)
    have dj288 : DJ kv (cutS 1 kb 1) := fun k hk hg => dk4 k hk (okb.cut_ob.symm.trans hg)
    have hcv289 : Own w279 0 69 1 (cutS 1 cb 1) (Pb.drop 1).length ((Pb.drop 1).flatMap cN) := (ocb.cutO (k := 1) (by omega)).cast (by simp) (flat_drop cN_len _ _)
    have dj290 : DJ cv (cutS 1 cb 1) := fun k hk hg => dk6 k hk (ocb.cut_ob.symm.trans hg)
    have dj291 : Dj G0 (Bl (cutS 1 cb 1)) := fun k hk hg => dk12.symm k hk (ocb.cut_ob.symm.trans hg)
    have dj292 : Dj Ga (Bl (cutS 1 cb 1)) := fun k hk hg => dk21.symm k hk (ocb.cut_ob.symm.trans hg)
    have dj293 : Dj G1 (Bl (cutS 1 cb 1)) := fun k hk hg => dk31.symm k hk (ocb.cut_ob.symm.trans hg)
    have dj294 : Dj G2 (Bl (cutS 1 cb 1)) := fun k hk hg => dk41.symm k hk (ocb.cut_ob.symm.trans hg)
    have dj295 : DJ vc (cutS 1 cb 1) := fun k hk hg => dj77.symm k hk (ocb.cut_ob.symm.trans hg)
    obtain ⟨G3, hkq3, hG3⟩ := Kids.app hKa hkq1 dk45
    rw [take1 (d := default) (show 0 < Pb.length by omega), take1 (d := default) (show 0 < tb.length by omega)] at hkq3
    have hTA := (mkNode (κ := kI) (K := (Ka ++ [K.getD i default])) (P := (Pa ++ [Pb.getD 0 default])) hbj84 (hO86.cast (n' := (Ka ++ [K.getD i default]).length) (cs' := (Ka ++ [K.getD i default]).flatMap cK) (by simp) (by simp [cK])) (hO87.cast (n' := (Pa ++ [Pb.getD 0 default]).length) (cs' := (Pa ++ [Pb.getD 0 default]).flatMap cN) (by simp) (by simp [cN])) (kks_app kas (kks_one (ks _ (getD_mem (l := K) (i := i) (by omega))))) (kks_app hA.kr (kks_one (hNd.kr _ (getD_mem (l := K) (i := i) (by omega))))) hkq3 (fun h1 => ((hG3 _ h1)).elim (fun y0 => dk22 y0) (fun z0 => dk32 z0)) (fun j h1 h2 => ((hG3 _ h2)).elim (fun y20 => dj72 _ h1 y20) (fun z20 => dj73 _ h1 z20)) (fun j h1 h2 => ((hG3 _ h2)).elim (fun y20 => dj79 _ h1 y20) (fun z20 => dj80 _ h1 z20)))
    have hTB := (mkNode (κ := kI) (K := (Kb.drop 1)) (P := (Pb.drop 1)) hxb hcv282 hcv289 (kks_sub kbs (fun _ h => List.mem_of_mem_drop h)) (kks_sub hB.kr (fun _ h => List.mem_of_mem_drop h)) hkq2 (fun h1 => dk43 h1) (fun j h1 h2 => dj286.symm _ h1 h2) (fun j h1 h2 => dj294.symm _ h1 h2))
    have hT9 := mkNode (κ := kI) (K := (K.set i (Kb.getD 0 default))) hx (hO274.cast (by simp) rfl) oc (kks_set ks (kbs _ (getD_mem (l := Kb) (i := 0) (by omega)))) (kks_set hNd.kr (hB.kr _ (getD_mem (l := Kb) (i := 0) (by omega)))) (Kids.back2 hr hPc (by omega) hTA hTB (fun j h1 h2 => (h1).elim (fun y0 => (h2).elim (fun y20 => hab (y0.symm.trans y20)) (fun z20 => (z20).elim (fun y21 => bx_own_ne hbj84 hcv282 (by decide) (y0 ▸ y21)) (fun z21 => (z21).elim (fun y22 => bx_own_ne hbj84 hcv289 (by decide) (y0 ▸ y22)) (fun z22 => dk42 (y0 ▸ z22))))) (fun z0 => (z0).elim (fun y1 => (h2).elim (fun y20 => bx_own_ne hxb hO86 (by decide) (y20 ▸ y1)) (fun z20 => (z20).elim (fun y21 => dj287 _ y1 y21) (fun z21 => (z21).elim (fun y22 => own_own_dj hO86 hcv289 (by decide) _ y1 y22) (fun z22 => dj74 _ y1 z22)))) (fun z1 => (z1).elim (fun y2 => (h2).elim (fun y20 => bx_own_ne hxb hO87 (by decide) (y20 ▸ y2)) (fun z20 => (z20).elim (fun y21 => own_own_dj hO87 hcv282 (by decide) _ y2 y21) (fun z21 => (z21).elim (fun y22 => dj295 _ y2 y22) (fun z22 => dj82 _ y2 z22)))) (fun z2 => ((hG3 _ z2)).elim (fun y3 => (h2).elim (fun y20 => dk23 (y20 ▸ y3)) (fun z20 => (z20).elim (fun y21 => dj284.symm _ y21 y3) (fun z21 => (z21).elim (fun y22 => dj292.symm _ y22 y3) (fun z22 => dk46 _ y3 z22)))) (fun z3 => (h2).elim (fun y20 => dk33 (y20 ▸ z3)) (fun z20 => (z20).elim (fun y21 => dj285.symm _ y21 z3) (fun z21 => (z21).elim (fun y22 => dj293.symm _ y22 z3) (fun z22 => d12 _ z3 z22)))))))) (fun j h1 h2 => (h1).elim (fun y0 => dk13 (y0 ▸ h2)) (fun z0 => (z0).elim (fun y1 => dj71 _ y1 h2) (fun z1 => (z1).elim (fun y2 => dj78 _ y2 h2) (fun z2 => ((hG3 _ z2)).elim (fun y3 => dk24 _ y3 h2) (fun z3 => dk34 _ z3 h2))))) (fun j h1 h2 => (h1).elim (fun y0 => dk14 (y0 ▸ h2)) (fun z0 => (z0).elim (fun y1 => dj283.symm _ y1 h2) (fun z1 => (z1).elim (fun y2 => dj291.symm _ y2 h2) (fun z2 => dk44 _ z2 h2))))) (fun h1 => (h1).elim (fun y0 => (y0).elim (fun y1 => hpa y1) (fun z1 => (z1).elim (fun y2 => bx_own_ne hx hO86 (by decide) y2) (fun z2 => (z2).elim (fun y3 => bx_own_ne hx hO87 (by decide) y3) (fun z3 => ((hG3 _ z3)).elim (fun y4 => dk17 y4) (fun z4 => dk27 z4))))) (fun z0 => (z0).elim (fun y1 => (y1).elim (fun y2 => hpb y2) (fun z2 => (z2).elim (fun y3 => bx_own_ne hx hcv282 (by decide) y3) (fun z3 => (z3).elim (fun y4 => bx_own_ne hx hcv289 (by decide) y4) (fun z4 => dk37 z4)))) (fun z1 => djpG z1))) (fun j h1 h2 => (h2).elim (fun y20 => (y20).elim (fun y21 => bx_own_ne hbj84 hO274 (by decide) (y21 ▸ h1)) (fun z21 => (z21).elim (fun y22 => dj68 _ h1 y22) (fun z22 => (z22).elim (fun y23 => own_own_dj hO274 hO87 (by decide) _ h1 y23) (fun z23 => ((hG3 _ z23)).elim (fun y24 => dk15 _ h1 y24) (fun z24 => dk25 _ h1 z24))))) (fun z20 => (z20).elim (fun y21 => (y21).elim (fun y22 => bx_own_ne hxb hO274 (by decide) (y22 ▸ h1)) (fun z22 => (z22).elim (fun y23 => dj288 _ h1 y23) (fun z23 => (z23).elim (fun y24 => own_own_dj hO274 hcv289 (by decide) _ h1 y24) (fun z24 => dk35 _ h1 z24)))) (fun z21 => djkG _ h1 z21))) (fun j h1 h2 => (h2).elim (fun y20 => (y20).elim (fun y21 => bx_own_ne hbj84 oc (by decide) (y21 ▸ h1)) (fun z21 => (z21).elim (fun y22 => own_own_dj oc hO86 (by decide) _ h1 y22) (fun z22 => (z22).elim (fun y23 => dj76 _ h1 y23) (fun z23 => ((hG3 _ z23)).elim (fun y24 => dk16 _ h1 y24) (fun z24 => dk26 _ h1 z24))))) (fun z20 => (z20).elim (fun y21 => (y21).elim (fun y22 => bx_own_ne hxb oc (by decide) (y22 ▸ h1)) (fun z22 => (z22).elim (fun y23 => own_own_dj oc hcv282 (by decide) _ h1 y23) (fun z23 => (z23).elim (fun y24 => dj290 _ h1 y24) (fun z24 => dk36 _ h1 z24)))) (fun z21 => djcG _ h1 z21)))
    rw [lend_NL ha hb9 hi (by omega) (by omega)]
    exact ⟨hb, rfl, _, hT9, (newF_in (fun j hj h1 => (h1).elim (fun y0 => (y0 ▸ hNd.wp)) (fun z0 => (z0).elim (fun y1 => (fun k _ h => hNd.wk k h) j hj y1) (fun z1 => (z1).elim (fun y2 => (fun k _ h => hNd.wc k h) j hj y2) (fun z2 => (z2).elim (fun y3 => (y3).elim (fun y4 => (y4 ▸ (hNd.wg _ (hfs _ hA.wp)))) (fun z4 => (z4).elim (fun y5 => hin75 j hj y5) (fun z5 => (z5).elim (fun y6 => hin83 j hj y6) (fun z6 => ((hG3 _ z6)).elim (fun y7 => (fun j q => hNd.wg j (hfs j (hA.wg j q))) j y7) (fun z7 => (fun j q => hNd.wg j (hgs j (hB.wg j (su1 j q)))) j z7))))) (fun z3 => (z3).elim (fun y4 => (y4).elim (fun y5 => (y5 ▸ (hNd.wg _ (hgs _ hB.wp)))) (fun z5 => (z5).elim (fun y6 => (fun k hk h => (fun k _ h => hNd.wg k (hgs k (hB.wk k h))) k hk (okb.cut_ob.symm.trans h)) j hj y6) (fun z6 => (z6).elim (fun y7 => (fun k hk h => (fun k _ h => hNd.wg k (hgs k (hB.wc k h))) k hk (ocb.cut_ob.symm.trans h)) j hj y7) (fun z7 => (fun j q => hNd.wg j (hgs j (hB.wg j (su2 j q)))) j z7)))) (fun z4 => (fun j q => hNd.wg j (hGs j q)) j z4)))))))⟩
set_option maxHeartbeats 1000000 in
theorem lendNR {i p : Nat} {R W G f g G0 : Nat → Prop} {kv cv : Value} {K : List DK} {P : List Nat} {w : World} (hNd : NodeR kI R w p kv cv K P G W) (hfg : Dj f g) (hfG : Dj f G0) (hgG : Dj g G0) (hfs : ∀ k, f k → G k) (hgs : ∀ k, g k → G k) (hGs : ∀ k, G0 k → G k) (hPl : P.length = K.length + 1) (hi : i < K.length) (hn : K.length ≤ 7) {h : Nat} {cs : List (Tr Int (h + 1))} {ta tb : List (Tr Int h)} {ka ca kb cb : Value} {Ka Kb : List DK} {Pa Pb : List Nat} {Ga Gb : Nat → Prop} (hA : NodeR kI R w (P.getD i default) ka ca Ka Pa Ga f) (hKa : KidsR kI R w h Pa ta Ga) (hB : NodeR kI R w (P.getD (i + 1) default) kb cb Kb Pb Gb g) (hKb : KidsR kI R w h Pb tb Gb) (hr : KidsR kI R w (h + 1) ((P.eraseIdx i).eraseIdx i) ((cs.eraseIdx i).eraseIdx i) G0) (hPc : P.length = cs.length) (ha : cs[i]? = some ((Ka.map Prod.snd, ta) : Tr Int (h + 1))) (hb9 : cs[i + 1]? = some ((Kb.map Prod.snd, tb) : Tr Int (h + 1))) (hla : ta.length = Ka.length + 1) (hlb : tb.length = Kb.length + 1) (hna : Ka.length ≤ 7) (hnb : Kb.length ≤ 7) (h3 : 3 < Ka.length) : Ret Try.prog 120 #[(ptr p 0), (Value.int .i64 ((i : Nat) : Int)), (Value.bool false)] w (fun v' w' => Gr w w' W ∧ v' = .bool true ∧ ∃ W', TreeR kI R w' (h + 1 + 1) p (lendT (h + 1) (K.map Prod.snd) cs i false) W' ∧ NewF w.heap.size W W') := by
 have h0 : 0 ≤ w.heap.size := Nat.zero_le _
 have hx : Bx w p 115 [.slice none 0 0, kv, cv] := hNd.bx
 have ok := hNd.ok
 have oc : Own w 0 69 1 cv P.length (P.flatMap cN) := hNd.oc
 have ks := hNd.ks
 have hi_p := hx.lt
 have djkG : Dj (Bl kv) G0 := hNd.nk.mono hGs
 have djcG : Dj (Bl cv) G0 := hNd.nc.mono hGs
 have djpG : ¬ G0 p := fun q => hNd.np (hGs p q)
 obtain ⟨G1, G2, hkq1, hkq2, d12, su1, su2⟩ := Kids.split hKa (Ka.length - 1 + 1)
 have hxa : Bx w (P.getD i default) 115 [.slice none 0 0, ka, ca] := hA.bx
 have oka := hA.ok
 have oca : Own w 0 69 1 ca Pa.length (Pa.flatMap cN) := hA.oc
 have kas := hA.ks
 have hxb : Bx w (P.getD (i + 1) default) 115 [.slice none 0 0, kb, cb] := hB.bx
 have okb := hB.ok
 have ocb : Own w 0 69 1 cb Pb.length (Pb.flatMap cN) := hB.oc
 have kbs := hB.ks
 have hi_a := hxa.lt
 have hi_b := hxb.lt
 have hPa : Pa.length = ta.length := hKa.len
 have hPb : Pb.length = tb.length := hKb.len
 have hab : (P.getD i default) ≠ (P.getD (i + 1) default) := fun e => hfg _ hA.wp (e ▸ hB.wp)
 have hpa : p ≠ (P.getD i default) := fun e => hNd.np (e ▸ hfs _ hA.wp)
 have hpb : p ≠ (P.getD (i + 1) default) := fun e => hNd.np (e ▸ hgs _ hB.wp)
 have dk3 : DJ kv ka := fun k h1 h2 => hNd.nk k h1 (hfs k (hA.wk k h2))
 have dk4 : DJ kv kb := fun k h1 h2 => hNd.nk k h1 (hgs k (hB.wk k h2))
 have dk5 : DJ cv ca := fun k h1 h2 => hNd.nc k h1 (hfs k (hA.wc k h2))
 have dk6 : DJ cv cb := fun k h1 h2 => hNd.nc k h1 (hgs k (hB.wc k h2))
 have dk7 : DJ ka kb := fun k h1 h2 => hfg k (hA.wk k h1) (hB.wk k h2)
 have dk8 : DJ ca cb := fun k h1 h2 => hfg k (hA.wc k h1) (hB.wc k h2)
 have dk9 : Dj (Bl ka) G0 := fun k h1 h2 => hfG k (hA.wk k h1) h2
 have dk10 : Dj (Bl ca) G0 := fun k h1 h2 => hfG k (hA.wc k h1) h2
 have dk11 : Dj (Bl kb) G0 := fun k h1 h2 => hgG k (hB.wk k h1) h2
 have dk12 : Dj (Bl cb) G0 := fun k h1 h2 => hgG k (hB.wc k h1) h2
 have dk13 : ¬ G0 (P.getD i default) := hfG _ hA.wp
 have dk14 : ¬ G0 (P.getD (i + 1) default) := hgG _ hB.wp
 have dk15 : Dj (Bl kv) Gb := hNd.nk.mono fun k q => hgs k (hB.wg k ((fun _ q => q) k q))
 have dk16 : Dj (Bl cv) Gb := hNd.nc.mono fun k q => hgs k (hB.wg k ((fun _ q => q) k q))
 have dk17 : ¬ Gb p := fun q => hNd.np (hgs _ (hB.wg _ ((fun _ q => q) _ q)))
 have dk18 : Dj (Bl ka) Gb := fun k h1 h2 => hfg k (hA.wk k h1) (hB.wg k ((fun _ q => q) k h2))
 have dk19 : Dj (Bl ca) Gb := fun k h1 h2 => hfg k (hA.wc k h1) (hB.wg k ((fun _ q => q) k h2))
 have dk20 : Dj (Bl kb) Gb := hB.nk.mono (fun _ q => q)
 have dk21 : Dj (Bl cb) Gb := hB.nc.mono (fun _ q => q)
 have dk22 : ¬ Gb (P.getD i default) := fun q => hfg _ hA.wp (hB.wg _ ((fun _ q => q) _ q))
 have dk23 : ¬ Gb (P.getD (i + 1) default) := fun q => hB.np ((fun _ q => q) _ q)
 have dk24 : Dj Gb G0 := fun k h1 h2 => hgG k (hB.wg k ((fun _ q => q) k h1)) h2
 have dk25 : Dj (Bl kv) G1 := hNd.nk.mono fun k q => hfs k (hA.wg k (su1 k q))
 have dk26 : Dj (Bl cv) G1 := hNd.nc.mono fun k q => hfs k (hA.wg k (su1 k q))
 have dk27 : ¬ G1 p := fun q => hNd.np (hfs _ (hA.wg _ (su1 _ q)))
 have dk28 : Dj (Bl ka) G1 := hA.nk.mono su1
 have dk29 : Dj (Bl ca) G1 := hA.nc.mono su1
 have dk30 : Dj (Bl kb) G1 := fun k h1 h2 => hfg k (hA.wg k (su1 k h2)) (hB.wk k h1)
 have dk31 : Dj (Bl cb) G1 := fun k h1 h2 => hfg k (hA.wg k (su1 k h2)) (hB.wc k h1)
 have dk32 : ¬ G1 (P.getD i default) := fun q => hA.np (su1 _ q)
 have dk33 : ¬ G1 (P.getD (i + 1) default) := fun q => hfg _ (hA.wg _ (su1 _ q)) hB.wp
 have dk34 : Dj G1 G0 := fun k h1 h2 => hfG k (hA.wg k (su1 k h1)) h2
 have dk35 : Dj (Bl kv) G2 := hNd.nk.mono fun k q => hfs k (hA.wg k (su2 k q))
 have dk36 : Dj (Bl cv) G2 := hNd.nc.mono fun k q => hfs k (hA.wg k (su2 k q))
 have dk37 : ¬ G2 p := fun q => hNd.np (hfs _ (hA.wg _ (su2 _ q)))
 have dk38 : Dj (Bl ka) G2 := hA.nk.mono su2
 have dk39 : Dj (Bl ca) G2 := hA.nc.mono su2
 have dk40 : Dj (Bl kb) G2 := fun k h1 h2 => hfg k (hA.wg k (su2 k h2)) (hB.wk k h1)
 have dk41 : Dj (Bl cb) G2 := fun k h1 h2 => hfg k (hA.wg k (su2 k h2)) (hB.wc k h1)
 have dk42 : ¬ G2 (P.getD i default) := fun q => hA.np (su2 _ q)
 have dk43 : ¬ G2 (P.getD (i + 1) default) := fun q => hfg _ (hA.wg _ (su2 _ q)) hB.wp
 have dk44 : Dj G2 G0 := fun k h1 h2 => hfG k (hA.wg k (su2 k h1)) h2
 have dk45 : Dj G1 Gb := fun k h1 h2 => hfg k (hA.wg k (su1 k h1)) (hB.wg k ((fun _ q => q) k h2))
 have dk46 : Dj G2 Gb := fun k h1 h2 => hfg k (hA.wg k (su2 k h1)) (hB.wg k ((fun _ q => q) k h2))
 have hkq1 : KidsR kI R w h (Pa.take (Ka.length - 1 + 1)) (ta.take (Ka.length - 1 + 1)) G1 := hkq1
 have hkq2 : KidsR kI R w h (Pa.drop (Ka.length - 1 + 1)) (ta.drop (Ka.length - 1 + 1)) G2 := hkq2
 obtain ⟨cka, hcka1, hcka2, hcka3⟩ := oka.cap
 obtain ⟨cca, hcca1, hcca2, hcca3⟩ := oca.cap
 have hb := Gr.refl w W
 refine enter (N := 254) Try.func120 rfl rfl (by simp) fun a0 hN hd hA => ?_
 have s0 : a0.tmps.getD 0 undef = (ptr p 0) := hA 0 (by simp)
 have s1 : a0.tmps.getD 1 undef = (Value.int .i64 ((i : Nat) : Int)) := hA 1 (by simp)
 have s2 : a0.tmps.getD 2 undef = (Value.bool false) := hA 2 (by simp)
 clear hA
 refine seq_any fun K70 hK70 => one_reg (op_assign rfl (reg_nil (hK70 _ _ (seq_any fun K71 hK71 => reg_still mixed (by kernel_rfl) ?_))))
 intro w73 E72
 have z_w73 := E72.size
 have hx := hx.keep0 E72
 have ok := ok.keep0 E72
 have oc := oc.keep0 E72
 have ks := all9 ks fun _ h => h.keep0 E72
 have hxa := hxa.keep0 E72
 have hxb := hxb.keep0 E72
 have oka := oka.keep0 E72
 have okb := okb.keep0 E72
 have oca := oca.keep0 E72
 have ocb := ocb.keep0 E72
 have kas := all9 kas fun _ h => h.keep0 E72
 have kbs := all9 kbs fun _ h => h.keep0 E72
 have hr := hr.kz E72
 have hKb := hKb.kz E72
 have hkq1 := hkq1.kz E72
 have hkq2 := hkq2.kz E72
 have hb := hb.step0 E72
 refine st_step rfl (fun _ h9 => op_move (ev_base hN rfl s0) h9) ?_
 refine st_step rfl (fun _ h9 => op_nil (ev_hit hN rfl) h9) ?_
 refine st_step rfl (fun _ h9 => op_field fld115_2 (ev_hit hN rfl) h9) ?_
 refine st_step rfl (fun _ h9 => op_load1 (v := cv) one113 (ev_hit hN rfl) (hx.cell rfl) h9) ?_
 refine st_step rfl (fun _ h9 => op_move (ev_base hN rfl s1) h9) ?_
 refine st_index_rd slt113 (ev_hit hN rfl) oc.rdw (ev_hit hN rfl) (by omega) (by omega) ?_
 intro b74 o75 h0b74 h1b74 hc76
 refine st_step rfl (fun _ h9 => op_load1 (v := (ptr (P.getD i default) 0)) one69 (ev_hit hN rfl) (by have := hc76 0 (ptr (P.getD i default) 0) (by decide) (el_pn (i := i) (by omega) (by first | omega | (simp only [List.length_drop, List.length_take]; omega))); simpa using this) h9) ?_
 refine st_step rfl (fun _ h9 => op_move (ev_base hN rfl s0) h9) ?_
 refine st_step rfl (fun _ h9 => op_nil (ev_hit hN rfl) h9) ?_
 refine st_step rfl (fun _ h9 => op_field fld115_2 (ev_hit hN rfl) h9) ?_
 refine st_step rfl (fun _ h9 => op_load1 (v := cv) one113 (ev_hit hN rfl) (hx.cell rfl) h9) ?_
 refine st_step rfl (fun _ h9 => op_move (ev_base hN rfl s1) h9) ?_
 refine st_step rfl (fun _ h9 => op_add (ev_hit hN rfl) rfl (add64 (by omega)) h9) ?_
 refine st_index_rd slt113 (ev_hit hN rfl) oc.rdw (ev_hit hN rfl) (by omega) (by omega) ?_
 intro b77 o78 h0b77 h1b77 hc79
 refine st_step rfl (fun _ h9 => op_load1 (v := (ptr (P.getD (i + 1) default) 0)) one69 (ev_hit hN rfl) (by have := hc79 0 (ptr (P.getD (i + 1) default) 0) (by decide) (el_pn (i := (i + 1)) (by omega) (by first | omega | (simp only [List.length_drop, List.length_take]; omega))); simpa using this) h9) ?_
 refine st_step rfl (fun _ h9 => op_assign (ev_hit hN rfl) h9) ?_
 refine st_step rfl (fun _ h9 => op_assign (ev_hit hN rfl) h9) ?_
 refine st_nil ?_
 refine hK71 _ _ (seq_any fun K80 hK80 => one_reg (op_move (ev_hit hN rfl) (op_assign (ev_hit hN rfl) (reg_nil (hK80 _ _ ?_)))))
 refine seq_any fun K82 hK82 => seq_any fun K83 hK83 => one_reg (op_move (ev_base hN rfl s2) (reg_nil (hK83 _ _ (wp_cond_false (ev_hit hN rfl) ?_))))
 refine wp_skip (hK82 _ _ (seq_any fun K84 hK84 => seq_any fun K102 hK102 => one_reg (op_move (ev_hit hN rfl) (op_fn (vs := [(ptr (P.getD i default) 0)]) ok52 ⟨(ev_hit hN rfl), trivial⟩ (Ret.flip (sizeNI hxa oka oca (by omega) (by omega))) ?_))))
 rintro _ _ ⟨rfl, rfl⟩
 refine op_leq (ev_hit hN rfl) rfl (fun c32 => ?_) (fun c32 => ?_)
 ·
  exfalso; omega
 ·
  refine reg_nil (hK102 _ _ (wp_cond_false (ev_hit hN rfl) (wp_skip (hK84 _ _ (seq_any fun K103 hK103 => wp_block ?_)))))
  refine seq_any fun K104 hK104 => one_reg (op_move (ev_hit hN rfl) (op_fn (vs := [(ptr (P.getD i default) 0)]) ok81 ⟨(ev_hit hN rfl), trivial⟩ (Ret.flip (leafNI hxa oka oca (by omega) (by omega))) ?_))
  rintro _ _ ⟨rfl, rfl⟩
  refine op_move (ev_hit hN rfl) (g_false (j := 2) (dj := 107) (b := true) rfl rfl rfl (ev_hit hN rfl) rfl rfl (op_pick_f (ev_hit hN rfl) rfl ?_))
  refine op_assign (ev_hit hN rfl) ?_
  refine reg_nil (hK104 _ _ (wp_cond_false (ev_hit hN rfl) (seq_any fun K105 hK105 => one_reg (op_move (ev_hit hN rfl) (op_fn (vs := [(ptr (P.getD i default) 0)]) ok81 ⟨(ev_hit hN rfl), trivial⟩ (Ret.flip (leafNI hxa oka oca (by omega) (by omega))) ?_)))))
  rintro _ _ ⟨rfl, rfl⟩
  refine op_assign (ev_hit hN rfl) (reg_nil (hK105 _ _ (wp_cond_false (ev_hit hN rfl) ?_)))
  refine seq_any fun K106 hK106 => one_reg (op_move (ev_base hN rfl s2) (op_assign (ev_hit hN rfl) (reg_nil (hK106 _ _ (wp_cond_false (ev_hit hN rfl) ?_)))))
  refine seq_any fun K107 hK107 => one_reg (op_move (ev_hit hN rfl) (op_nil (ev_hit hN rfl) (op_field fld115_1 (ev_hit hN rfl) (op_load1 (v := ka) one90 (ev_hit hN rfl) (hxa.cell rfl) (op_len_rd Try.underlying90 (ev_hit hN rfl) oka.rdw ?_)))))
  refine op_sub (r := ((Ka.length - 1 : Nat) : Int)) (ev_hit hN rfl) rfl ((sub64 (by omega)).trans (by omega)) ?_
  refine op_assign (ev_hit hN rfl) (reg_nil (hK107 _ _ (seq_join1 (N := 254) (fun az_ w' => ∃ (vk vc : Value), (az_.tmps.getD 0 undef = (ptr p 0)) ∧ (az_.tmps.getD 1 undef = (Value.int .i64 ((i : Nat) : Int))) ∧ (az_.tmps.getD 6 undef = (Value.bool false)) ∧ (az_.tmps.getD 7 undef = (ptr (P.getD i default) 0)) ∧ (az_.tmps.getD 11 undef = (Value.int .i64 ((Ka.length - 1 : Nat) : Int))) ∧ (DJ kv vk) ∧ (DJ ka vk) ∧ (Dj (Bl vk) G0) ∧ (Dj (Bl vk) Gb) ∧ (Dj (Bl vk) G1) ∧ (Dj (Bl vk) G2) ∧ (∀ j, j < w.heap.size → Bl vk j → W j) ∧ (DJ cv vc) ∧ (DJ ca vc) ∧ (Dj (Bl vc) G0) ∧ (Dj (Bl vc) Gb) ∧ (Dj (Bl vc) G1) ∧ (Dj (Bl vc) G2) ∧ (∀ j, j < w.heap.size → Bl vc j → W j) ∧ (Gr w w' W) ∧ (w73.heap.size ≤ w'.heap.size) ∧ (Bx w' p 115 [(Value.slice none 0 0), kv, cv]) ∧ (Own w' 0 27 1 kv K.length (K.flatMap cK)) ∧ (Own w' 0 69 1 cv P.length (P.flatMap cN)) ∧ (∀ x9 ∈ K, Own w' 0 5 1 x9.1 x9.2.length (x9.2.map u8v)) ∧ (Bx w' (P.getD i default) 115 [(Value.slice none 0 0), ka, ca]) ∧ (Own w' 0 27 1 ka Ka.length (Ka.flatMap cK)) ∧ (Own w' 0 69 1 ca Pa.length (Pa.flatMap cN)) ∧ (∀ x9 ∈ Ka, Own w' 0 5 1 x9.1 x9.2.length (x9.2.map u8v)) ∧ (∀ x9 ∈ Kb, Own w' 0 5 1 x9.1 x9.2.length (x9.2.map u8v)) ∧ (KidsR kI R w' (h + 1) ((P.eraseIdx i).eraseIdx i) ((cs.eraseIdx i).eraseIdx i) G0) ∧ (KidsR kI R w' h Pb tb Gb) ∧ (KidsR kI R w' h (Pa.take (Ka.length - 1 + 1)) (ta.take (Ka.length - 1 + 1)) G1) ∧ (KidsR kI R w' h (Pa.drop (Ka.length - 1 + 1)) (ta.drop (Ka.length - 1 + 1)) G2) ∧ (Own w' 0 27 1 vk (Kb.insertIdx 0 ((K.getD i default).1, (K.getD i default).2)).length ((Kb.insertIdx 0 ((K.getD i default).1, (K.getD i default).2)).flatMap cK)) ∧ (Own w' 0 69 1 vc (Pb.insertIdx 0 (Pa.getD (Ka.length - 1 + 1) default)).length ((Pb.insertIdx 0 (Pa.getD (Ka.length - 1 + 1) default)).flatMap cN)) ∧ (Bx w' (P.getD (i + 1) default) 115 [(Value.slice none 0 0), vk, vc])) (fun hJ125 => ?_) ?_)))
  ·
   refine seq_any fun K128 hK128 => ?_
   obtain ⟨b129, o130, _, hAt131⟩ := ok.atV (i := i) (by omega)
   obtain ⟨b132, o133, _, hAt134⟩ := oca.atV (i := (Ka.length - 1 + 1)) (by omega)
   refine reg_split (hd := [_, _, _, _, _, _, _, _, _, _, _, _, _, _, _, _, _, _, _, _, _, _, _, _, _, _, _, _, _, _, _, _]) (tl := _) 32 mixed (by kernel_rfl) rfl rfl ?_
   refine any_treek (φ := phiV [(fun uz => uz = (ptr (P.getD (i + 1) default) 0)), (fun uz => uz = (ptr (P.getD (i + 1) default) 0)), (fun uz => uz = (ptr (P.getD (i + 1) default) 0)), (fun uz => uz = (ptr (P.getD (i + 1) default) 0)), (fun uz => uz = (ptr (P.getD (i + 1) default) 1)), (fun uz => uz = kb), (fun uz => uz = (ptr p 0)), (fun uz => uz = (ptr p 0)), (fun uz => uz = (ptr p 1)), (fun uz => uz = kv), (fun uz => uz = (Value.int .i64 ((i : Nat) : Int))), (fun uz => uz = (ptr b129 o130)), (fun uz => uz = (K.getD i default).1), (fun _ => True), (fun _ => True), (fun uz => uz = (ptr (P.getD (i + 1) default) 0)), (fun uz => uz = (ptr (P.getD (i + 1) default) 0)), (fun uz => uz = (ptr (P.getD (i + 1) default) 2)), (fun uz => uz = cb), (fun uz => uz = (ptr (P.getD i default) 0)), (fun uz => uz = (ptr (P.getD i default) 0)), (fun uz => uz = (ptr (P.getD i default) 2)), (fun uz => uz = ca), (fun uz => uz = (Value.int .i64 ((Ka.length - 1 : Nat) : Int))), (fun uz => uz = (Value.int .i64 (((Ka.length - 1 : Nat) : Int) + 1))), (fun uz => uz = (ptr b132 o133)), (fun uz => uz = (ptr (Pa.getD (Ka.length - 1 + 1) default) 0)), (fun _ => True), (fun _ => True), (fun uz => uz = (ptr (P.getD (i + 1) default) 0)), (fun uz => uz = (ptr (P.getD (i + 1) default) 1)), (fun _ => True)]) (G := fun t9 w' => 31 ∈ t9 → (Own w' 0 27 1 kv K.length (K.flatMap cK) ∧ Own w' 0 69 1 ca Pa.length (Pa.flatMap cN) ∧ Bx w' (P.getD (i + 1) default) 115 [(Value.slice none 0 0), kb, cb] ∧ Bx w' p 115 [(Value.slice none 0 0), kv, cv] ∧ Bx w' (P.getD i default) 115 [(Value.slice none 0 0), ka, ca])) [13, 14, 27, 28, 31] (by kernel_rfl) (by kernel_rfl) (by kernel_rfl) (by kernel_rfl) (by kernel_rfl) hN (fun _ w1 w2 E h hc9 => by have h := h hc9; obtain ⟨h0, h1, h2, h3, h4⟩ := h; exact ⟨h0.keep0 E, h1.keep0 E, h2.keep0 E, h3.keep0 E, h4.keep0 E⟩) (fun _ => ⟨ok, oca, hxb, hx, hxa⟩) (ObRk9.cons ?_ (ObRk9.cons ?_ (ObRk9.cons ?_ (ObRk9.cons ?_ (ObRk9.cons ?_ (ObRk9.cons ?_ (ObRk9.cons ?_ (ObRk9.cons ?_ (ObRk9.cons ?_ (ObRk9.cons ?_ (ObRk9.cons ?_ (ObRk9.cons ?_ (ObRk9.cons ?_ (ObRk9.pass rfl (ObRk9.pass rfl (ObRk9.cons ?_ (ObRk9.cons ?_ (ObRk9.cons ?_ (ObRk9.cons ?_ (ObRk9.cons ?_ (ObRk9.cons ?_ (ObRk9.cons ?_ (ObRk9.cons ?_ (ObRk9.cons ?_ (ObRk9.cons ?_ (ObRk9.cons ?_ (ObRk9.cons ?_ (ObRk9.pass rfl (ObRk9.pass rfl (ObRk9.cons ?_ (ObRk9.cons ?_ (ObRk9.pass rfl (ObRk9.nil))))))))))))))))))))))))))))))))) (by simp only [putsL_defers]) ?_
   ·
    intro eA tA aA wA hNA hckA hGA hbsA hdpA
    have qA_8 := (hbsA 8 rfl).trans (sl_hit hN rfl)
    refine op_move (ev_base hNA rfl qA_8) ?_
    exact obTk_end rfl rfl
   ·
    intro eA tA aA wA hNA hckA hGA hbsA hdpA
    have qA_8 := (hbsA 8 rfl).trans (sl_hit hN rfl)
    refine op_move (ev_base hNA rfl qA_8) ?_
    exact obTk_end rfl rfl
   ·
    intro eA tA aA wA hNA hckA hGA hbsA hdpA
    have qA_8 := (hbsA 8 rfl).trans (sl_hit hN rfl)
    refine op_move (ev_base hNA rfl qA_8) ?_
    exact obTk_end rfl rfl
   ·
    intro eA tA aA wA hNA hckA hGA hbsA hdpA
    have qA_41 : Sl aA 41 (ptr (P.getD (i + 1) default) 0) := (hdpA 2 _ 41 (by kernel_rfl) rfl rfl).2 rfl
    refine op_nil (ev_base hNA rfl qA_41) ?_
    exact obTk_end rfl rfl
   ·
    intro eA tA aA wA hNA hckA hGA hbsA hdpA
    have qA_42 : Sl aA 42 (ptr (P.getD (i + 1) default) 0) := (hdpA 3 _ 42 (by kernel_rfl) rfl rfl).2 rfl
    refine op_field fld115_1 (ev_base hNA rfl qA_42) ?_
    exact obTk_end rfl rfl
   ·
    intro eA tA aA wA hNA hckA hGA hbsA hdpA
    have qA_43 : Sl aA 43 (ptr (P.getD (i + 1) default) 1) := (hdpA 4 _ 43 (by kernel_rfl) rfl rfl).2 rfl
    have hGA := hGA (hckA 31 rfl (by kernel_rfl))
    obtain ⟨ok, oca, hxb, hx, hxa⟩ := hGA
    refine op_load1 (v := kb) one90 (ev_base hNA rfl qA_43) (hxb.cell rfl) ?_
    exact obTk_end rfl rfl
   ·
    intro eA tA aA wA hNA hckA hGA hbsA hdpA
    have qA_0 := (hbsA 0 rfl).trans (sl_base hN rfl s0)
    refine op_move (ev_base hNA rfl qA_0) ?_
    exact obTk_end rfl rfl
   ·
    intro eA tA aA wA hNA hckA hGA hbsA hdpA
    have qA_45 : Sl aA 45 (ptr p 0) := (hdpA 6 _ 45 (by kernel_rfl) rfl rfl).2 rfl
    refine op_nil (ev_base hNA rfl qA_45) ?_
    exact obTk_end rfl rfl
   ·
    intro eA tA aA wA hNA hckA hGA hbsA hdpA
    have qA_46 : Sl aA 46 (ptr p 0) := (hdpA 7 _ 46 (by kernel_rfl) rfl rfl).2 rfl
    refine op_field fld115_1 (ev_base hNA rfl qA_46) ?_
    exact obTk_end rfl rfl
   ·
    intro eA tA aA wA hNA hckA hGA hbsA hdpA
    have qA_47 : Sl aA 47 (ptr p 1) := (hdpA 8 _ 47 (by kernel_rfl) rfl rfl).2 rfl
    have hGA := hGA (hckA 31 rfl (by kernel_rfl))
    obtain ⟨ok, oca, hxb, hx, hxa⟩ := hGA
    refine op_load1 (v := kv) one90 (ev_base hNA rfl qA_47) (hx.cell rfl) ?_
    exact obTk_end rfl rfl
   ·
    intro eA tA aA wA hNA hckA hGA hbsA hdpA
    have qA_1 := (hbsA 1 rfl).trans (sl_base hN rfl s1)
    refine op_move (ev_base hNA rfl qA_1) ?_
    exact obTk_end rfl rfl
   ·
    intro eA tA aA wA hNA hckA hGA hbsA hdpA
    have qA_48 : Sl aA 48 kv := (hdpA 9 _ 48 (by kernel_rfl) rfl rfl).2 rfl
    have qA_49 : Sl aA 49 (Value.int .i64 ((i : Nat) : Int)) := (hdpA 10 _ 49 (by kernel_rfl) rfl rfl).2 rfl
    refine op_index_at (i := i) slt90 (ev_base hNA rfl qA_48) ok (ev_base hNA rfl qA_49) (by omega) (by omega) hAt131 ?_
    exact obTk_end rfl rfl
   ·
    intro eA tA aA wA hNA hckA hGA hbsA hdpA
    have qA_50 : Sl aA 50 (ptr b129 o130) := (hdpA 11 _ 50 (by kernel_rfl) rfl rfl).2 rfl
    have hGA := hGA (hckA 31 rfl (by kernel_rfl))
    obtain ⟨ok, oca, hxb, hx, hxa⟩ := hGA
    refine op_load1 (v := (K.getD i default).1) one27 (ev_base hNA rfl qA_50) (ok.cellAt hAt131 0 _ (el_kd (e := ((i : Nat) : Int)) (i := i) rfl (by omega))) ?_
    exact obTk_end rfl rfl
   ·
    intro eA tA aA wA hNA hckA hGA hbsA hdpA
    have qA_8 := (hbsA 8 rfl).trans (sl_hit hN rfl)
    refine op_move (ev_base hNA rfl qA_8) ?_
    exact obTk_end rfl rfl
   ·
    intro eA tA aA wA hNA hckA hGA hbsA hdpA
    have qA_54 : Sl aA 54 (ptr (P.getD (i + 1) default) 0) := (hdpA 15 _ 54 (by kernel_rfl) rfl rfl).2 rfl
    refine op_nil (ev_base hNA rfl qA_54) ?_
    exact obTk_end rfl rfl
   ·
    intro eA tA aA wA hNA hckA hGA hbsA hdpA
    have qA_55 : Sl aA 55 (ptr (P.getD (i + 1) default) 0) := (hdpA 16 _ 55 (by kernel_rfl) rfl rfl).2 rfl
    refine op_field fld115_2 (ev_base hNA rfl qA_55) ?_
    exact obTk_end rfl rfl
   ·
    intro eA tA aA wA hNA hckA hGA hbsA hdpA
    have qA_56 : Sl aA 56 (ptr (P.getD (i + 1) default) 2) := (hdpA 17 _ 56 (by kernel_rfl) rfl rfl).2 rfl
    have hGA := hGA (hckA 31 rfl (by kernel_rfl))
    obtain ⟨ok, oca, hxb, hx, hxa⟩ := hGA
    refine op_load1 (v := cb) one113 (ev_base hNA rfl qA_56) (hxb.cell rfl) ?_
    exact obTk_end rfl rfl
   ·
    intro eA tA aA wA hNA hckA hGA hbsA hdpA
    have qA_7 := (hbsA 7 rfl).trans (sl_hit hN rfl)
    refine op_move (ev_base hNA rfl qA_7) ?_
    exact obTk_end rfl rfl
   ·
    intro eA tA aA wA hNA hckA hGA hbsA hdpA
    have qA_58 : Sl aA 58 (ptr (P.getD i default) 0) := (hdpA 19 _ 58 (by kernel_rfl) rfl rfl).2 rfl
    refine op_nil (ev_base hNA rfl qA_58) ?_
    exact obTk_end rfl rfl
   ·
    intro eA tA aA wA hNA hckA hGA hbsA hdpA
    have qA_59 : Sl aA 59 (ptr (P.getD i default) 0) := (hdpA 20 _ 59 (by kernel_rfl) rfl rfl).2 rfl
    refine op_field fld115_2 (ev_base hNA rfl qA_59) ?_
    exact obTk_end rfl rfl
   ·
    intro eA tA aA wA hNA hckA hGA hbsA hdpA
    have qA_60 : Sl aA 60 (ptr (P.getD i default) 2) := (hdpA 21 _ 60 (by kernel_rfl) rfl rfl).2 rfl
    have hGA := hGA (hckA 31 rfl (by kernel_rfl))
    obtain ⟨ok, oca, hxb, hx, hxa⟩ := hGA
    refine op_load1 (v := ca) one113 (ev_base hNA rfl qA_60) (hxa.cell rfl) ?_
    exact obTk_end rfl rfl
   ·
    intro eA tA aA wA hNA hckA hGA hbsA hdpA
    have qA_11 := (hbsA 11 rfl).trans (sl_hit hN rfl)
    refine op_move (ev_base hNA rfl qA_11) ?_
    exact obTk_end rfl rfl
   ·
    intro eA tA aA wA hNA hckA hGA hbsA hdpA
    have qA_62 : Sl aA 62 (Value.int .i64 ((Ka.length - 1 : Nat) : Int)) := (hdpA 23 _ 62 (by kernel_rfl) rfl rfl).2 rfl
    refine op_add (ev_base hNA rfl qA_62) rfl (add64 (by omega)) ?_
    exact obTk_end rfl rfl
   ·
    intro eA tA aA wA hNA hckA hGA hbsA hdpA
    have qA_61 : Sl aA 61 ca := (hdpA 22 _ 61 (by kernel_rfl) rfl rfl).2 rfl
    have qA_63 : Sl aA 63 (Value.int .i64 (((Ka.length - 1 : Nat) : Int) + 1)) := (hdpA 24 _ 63 (by kernel_rfl) rfl rfl).2 rfl
    refine op_index_at (i := (Ka.length - 1 + 1)) slt113 (ev_base hNA rfl qA_61) oca (ev_base hNA rfl qA_63) (by omega) (by omega) hAt134 ?_
    exact obTk_end rfl rfl
   ·
    intro eA tA aA wA hNA hckA hGA hbsA hdpA
    have qA_64 : Sl aA 64 (ptr b132 o133) := (hdpA 25 _ 64 (by kernel_rfl) rfl rfl).2 rfl
    have hGA := hGA (hckA 31 rfl (by kernel_rfl))
    obtain ⟨ok, oca, hxb, hx, hxa⟩ := hGA
    refine op_load1 (v := (ptr (Pa.getD (Ka.length - 1 + 1) default) 0)) one69 (ev_base hNA rfl qA_64) (oca.cellAt hAt134 0 _ (el_pn (e := (((Ka.length - 1 + 1) : Nat) : Int)) (i := (Ka.length - 1 + 1)) rfl (by omega))) ?_
    exact obTk_end rfl rfl
   ·
    intro eA tA aA wA hNA hckA hGA hbsA hdpA
    have qA_39 : Sl aA 39 (ptr (P.getD (i + 1) default) 0) := (hdpA 0 _ 39 (by kernel_rfl) rfl rfl).2 rfl
    refine op_nil (ev_base hNA rfl qA_39) ?_
    exact obTk_end rfl rfl
   ·
    intro eA tA aA wA hNA hckA hGA hbsA hdpA
    have qA_68 : Sl aA 68 (ptr (P.getD (i + 1) default) 0) := (hdpA 29 _ 68 (by kernel_rfl) rfl rfl).2 rfl
    refine op_field fld115_1 (ev_base hNA rfl qA_68) ?_
    exact obTk_end rfl rfl
   ·
    refine ktk_step (rs := [13, 27]) (by kernel_rfl) ?_
    refine more_mem ?_ ?_
    ·
     intro w135 E135 _ a135 hN135 hbs135 hdp135 o_ ho_; obtain rfl := Option.some.inj ho_
     have z_w135 := E135.size
     have hx := hx.keep0 E135
     have ok := ok.keep0 E135
     have oc := oc.keep0 E135
     have ks := all9 ks fun _ h => h.keep0 E135
     have hxa := hxa.keep0 E135
     have hxb := hxb.keep0 E135
     have oka := oka.keep0 E135
     have okb := okb.keep0 E135
     have oca := oca.keep0 E135
     have ocb := ocb.keep0 E135
     have kas := all9 kas fun _ h => h.keep0 E135
     have kbs := all9 kbs fun _ h => h.keep0 E135
     have hr := hr.kz E135
     have hKb := hKb.kz E135
     have hkq1 := hkq1.kz E135
     have hkq2 := hkq2.kz E135
     have hb := hb.step0 E135
     have q135_51 : Sl a135 51 (K.getD i default).1 := (hdp135 12 _ 51 (by kernel_rfl) rfl rfl).2 rfl
     refine op_bslice (e := 27) (pv := [(0, (K.getD i default).1)]) (cs := [(K.getD i default).1]) ⟨rfl, (ev_base hN135 rfl q135_51), trivial⟩ (by obtain ⟨_, _, _, hq9⟩ := (show Own _ _ _ _ (K.getD i default).1 (K.getD i default).2.length ((K.getD i default).2.map u8v) from ks (K.getD i default) (getD_mem (by first | omega | (simp only [List.length_drop, List.length_take]; omega)))).sl; rw [hq9]; kernel_rfl) ?_
     intro w136 b137 lo_b137 hi_b137 hB139 E138
     have ne_b137_kb : kb.ownBlock ≠ some b137 := fun hh => by have := (okb.lt _ hh).2; omega
     have z_w136 := E138.size
     have hx := hx.keep0 E138
     have ok := ok.keep0 E138
     have oc := oc.keep0 E138
     have ks := all9 ks fun _ h => h.keep0 E138
     have hxa := hxa.keep0 E138
     have hxb := hxb.keep0 E138
     have oka := oka.keep0 E138
     have okb := okb.keep0 E138
     have oca := oca.keep0 E138
     have ocb := ocb.keep0 E138
     have kas := all9 kas fun _ h => h.keep0 E138
     have kbs := all9 kbs fun _ h => h.keep0 E138
     have hr := hr.kz E138
     have hKb := hKb.kz E138
     have hkq1 := hkq1.kz E138
     have hkq2 := hkq2.kz E138
     have hb := hb.step0 E138
     refine ktk_end (G := fun t9 w' => 31 ∈ t9 → (Own w' 0 27 1 kv K.length (K.flatMap cK) ∧ Own w' 0 69 1 ca Pa.length (Pa.flatMap cN) ∧ Bx w' (P.getD (i + 1) default) 115 [(Value.slice none 0 0), kb, cb] ∧ Bx w' p 115 [(Value.slice none 0 0), kv, cv] ∧ Bx w' (P.getD i default) 115 [(Value.slice none 0 0), ka, ca])) (todo := [13, 14, 27, 28, 31]) (i := 13) rfl (fun _ => ⟨ok, oca, hxb, hx, hxa⟩) ?_
     refine ktk_step (rs := [14, 27]) (by kernel_rfl) ?_
     refine more_mem ?_ ?_
     ·
      intro w140 E140 _ a140 hN140 hbs140 hdp140 o_ ho_; obtain rfl := Option.some.inj ho_
      have z_w140 := E140.size
      have hx := hx.keep0 E140
      have ok := ok.keep0 E140
      have oc := oc.keep0 E140
      have ks := all9 ks fun _ h => h.keep0 E140
      have hxa := hxa.keep0 E140
      have hxb := hxb.keep0 E140
      have oka := oka.keep0 E140
      have okb := okb.keep0 E140
      have oca := oca.keep0 E140
      have ocb := ocb.keep0 E140
      have kas := all9 kas fun _ h => h.keep0 E140
      have kbs := all9 kbs fun _ h => h.keep0 E140
      have hr := hr.kz E140
      have hKb := hKb.kz E140
      have hkq1 := hkq1.kz E140
      have hkq2 := hkq2.kz E140
      have hB139 := hB139.keep0 E140
      have hb := hb.step0 E140
      have q140_44 : Sl a140 44 kb := (hdp140 5 _ 44 (by kernel_rfl) rfl rfl).2 rfl
      have q140_52 : Sl a140 52 (Value.slice (some ⟨b137, 0, none⟩) 1 1) := (Option.some.inj ((hdp140 13 _ 52 (by kernel_rfl) rfl rfl).1 rfl)).symm
      refine op_fn (vs := [kb, (Value.int .i64 0), (Value.slice (some ⟨b137, 0, none⟩) 1 1)]) ok67 ⟨(ev_base hN140 rfl q140_44), ⟨rfl, ⟨(ev_base hN140 rfl q140_52), trivial⟩⟩⟩ (InsK okb hB139 (one_kd kbs (fun _ h => h)) (by simp only [List.all_cons, List.all_nil, Bool.true_and, Bool.and_true, (own_one (show Own _ _ _ _ (K.getD i default).1 (K.getD i default).2.length ((K.getD i default).2.map u8v) from ks (K.getD i default) (getD_mem (by first | omega | (simp only [List.length_drop, List.length_take]; omega)))))]; try rfl) (by first | omega | (simp only [List.length_insertIdx, List.length_set, List.length_drop, List.length_take]; omega) | (simp; omega)) (by first | omega | (simp only [List.length_insertIdx, List.length_set, List.length_drop, List.length_take]; omega) | (simp; omega)) ne_b137_kb) ?_
      rintro v141 w142 ⟨E143, hO141, hm141⟩
      have dj144 : DJ kv v141 := DJ.step hm141 (fun k hk => (ok.lt k hk).2) dk4
      have dj145 : DJ ka v141 := DJ.step hm141 (fun k hk => (oka.lt k hk).2) dk7
      have dj146 : Dj G0 (Bl v141) := Dj.step hm141 (fun k hk => (hr.lt k hk).2) dk11.symm
      have dj147 : Dj Gb (Bl v141) := Dj.step hm141 (fun k hk => (hKb.lt k hk).2) dk20.symm
      have dj148 : Dj G1 (Bl v141) := Dj.step hm141 (fun k hk => (hkq1.lt k hk).2) dk30.symm
      have dj149 : Dj G2 (Bl v141) := Dj.step hm141 (fun k hk => (hkq2.lt k hk).2) dk40.symm
      have hin150 := inF_step (n := w.heap.size) hm141 (by omega) (fun k _ h => hNd.wg k (hgs k (hB.wk k h)))
      have z_w142 := E143.size
      have hx := hx.keepO okb E143 (by decide)
      have ok := ok.keepD E143 dk4
      have oc := oc.keepT okb E143 (by decide)
      have ks := all9 ks fun _ h => h.keepT okb E143 (by decide)
      have hxa := hxa.keepO okb E143 (by decide)
      have hxb := hxb.keepO okb E143 (by decide)
      have oka := oka.keepD E143 dk7
      have oca := oca.keepT okb E143 (by decide)
      have ocb := ocb.keepT okb E143 (by decide)
      have kas := all9 kas fun _ h => h.keepT okb E143 (by decide)
      have kbs := all9 kbs fun _ h => h.keepT okb E143 (by decide)
      have hr := hr.keepG (Gr.of E143) dk11.symm (NoK.ofOwn okb (by decide))
      have hKb := hKb.keepG (Gr.of E143) dk20.symm (NoK.ofOwn okb (by decide))
      have hkq1 := hkq1.keepG (Gr.of E143) dk30.symm (NoK.ofOwn okb (by decide))
      have hkq2 := hkq2.keepG (Gr.of E143) dk40.symm (NoK.ofOwn okb (by decide))
      have hb := hb.stepL E143 (fun k _ h => hNd.wg k (hgs k (hB.wk k h)))
      have hO141 : Own w142 0 27 1 v141 (Kb.insertIdx 0 ((K.getD i default).1, (K.getD i default).2)).length ((Kb.insertIdx 0 ((K.getD i default).1, (K.getD i default).2)).flatMap cK) := hO141.cast (by rw [List.length_insertIdx, if_pos (by first | omega | (simp only [List.length_insertIdx, List.length_set, List.length_drop, List.length_take]; omega) | (simp; omega))]) (flat_ins cK_len ((K.getD i default).1, (K.getD i default).2) (by first | omega | (simp only [List.length_insertIdx, List.length_set, List.length_drop, List.length_take]; omega) | (simp; omega)))
      refine ktk_end (G := fun t9 w' => 31 ∈ t9 → (Own w' 0 27 1 kv K.length (K.flatMap cK) ∧ Own w' 0 69 1 ca Pa.length (Pa.flatMap cN) ∧ Bx w' (P.getD (i + 1) default) 115 [(Value.slice none 0 0), kb, cb] ∧ Bx w' p 115 [(Value.slice none 0 0), kv, cv] ∧ Bx w' (P.getD i default) 115 [(Value.slice none 0 0), ka, ca])) (todo := [14, 27, 28, 31]) (i := 14) rfl (fun _ => ⟨ok, oca, hxb, hx, hxa⟩) ?_
      refine ktk_step (rs := [27]) (by kernel_rfl) ?_
      refine one_mem ?_
      intro w151 E151 _ a151 hN151 hbs151 hdp151 o_ ho_; obtain rfl := Option.some.inj ho_
      have z_w151 := E151.size
      have hx := hx.keep0 E151
      have ok := ok.keep0 E151
      have oc := oc.keep0 E151
      have ks := all9 ks fun _ h => h.keep0 E151
      have hxa := hxa.keep0 E151
      have hxb := hxb.keep0 E151
      have oka := oka.keep0 E151
      have oca := oca.keep0 E151
      have ocb := ocb.keep0 E151
      have kas := all9 kas fun _ h => h.keep0 E151
      have kbs := all9 kbs fun _ h => h.keep0 E151
      have hr := hr.kz E151
      have hKb := hKb.kz E151
      have hkq1 := hkq1.kz E151
      have hkq2 := hkq2.kz E151
      have hO141 := hO141.keep0 E151
      have hb := hb.step0 E151
      have q151_65 : Sl a151 65 (ptr (Pa.getD (Ka.length - 1 + 1) default) 0) := (hdp151 26 _ 65 (by kernel_rfl) rfl rfl).2 rfl
      refine op_bslice (e := 69) (pv := [(0, (ptr (Pa.getD (Ka.length - 1 + 1) default) 0))]) (cs := [(ptr (Pa.getD (Ka.length - 1 + 1) default) 0)]) ⟨rfl, (ev_base hN151 rfl q151_65), trivial⟩ (by kernel_rfl) ?_
      intro w152 b153 lo_b153 hi_b153 hB155 E154
      have ne_b153_cb : cb.ownBlock ≠ some b153 := fun hh => by have := (ocb.lt _ hh).2; omega
      have z_w152 := E154.size
      have hx := hx.keep0 E154
      have ok := ok.keep0 E154
      have oc := oc.keep0 E154
      have ks := all9 ks fun _ h => h.keep0 E154
      have hxa := hxa.keep0 E154
      have hxb := hxb.keep0 E154
      have oka := oka.keep0 E154
      have oca := oca.keep0 E154
      have ocb := ocb.keep0 E154
      have kas := all9 kas fun _ h => h.keep0 E154
      have kbs := all9 kbs fun _ h => h.keep0 E154
      have hr := hr.kz E154
      have hKb := hKb.kz E154
      have hkq1 := hkq1.kz E154
      have hkq2 := hkq2.kz E154
      have hO141 := hO141.keep0 E154
      have hb := hb.step0 E154
      refine ktk_end (G := fun t9 w' => 31 ∈ t9 → (Own w' 0 27 1 kv K.length (K.flatMap cK) ∧ Own w' 0 69 1 ca Pa.length (Pa.flatMap cN) ∧ Bx w' (P.getD (i + 1) default) 115 [(Value.slice none 0 0), kb, cb] ∧ Bx w' p 115 [(Value.slice none 0 0), kv, cv] ∧ Bx w' (P.getD i default) 115 [(Value.slice none 0 0), ka, ca])) (todo := [27, 28, 31]) (i := 27) rfl (fun _ => ⟨ok, oca, hxb, hx, hxa⟩) ?_
      refine ktk_step (rs := [28]) (by kernel_rfl) ?_
      refine one_mem ?_
      intro w156 E156 _ a156 hN156 hbs156 hdp156 o_ ho_; obtain rfl := Option.some.inj ho_
      have z_w156 := E156.size
      have hx := hx.keep0 E156
      have ok := ok.keep0 E156
      have oc := oc.keep0 E156
      have ks := all9 ks fun _ h => h.keep0 E156
      have hxa := hxa.keep0 E156
      have hxb := hxb.keep0 E156
      have oka := oka.keep0 E156
      have oca := oca.keep0 E156
      have ocb := ocb.keep0 E156
      have kas := all9 kas fun _ h => h.keep0 E156
      have kbs := all9 kbs fun _ h => h.keep0 E156
      have hr := hr.kz E156
      have hKb := hKb.kz E156
      have hkq1 := hkq1.kz E156
      have hkq2 := hkq2.kz E156
      have hO141 := hO141.keep0 E156
      have hB155 := hB155.keep0 E156
      have hb := hb.step0 E156
      have q156_57 : Sl a156 57 cb := (hdp156 18 _ 57 (by kernel_rfl) rfl rfl).2 rfl
      have q156_66 : Sl a156 66 (Value.slice (some ⟨b153, 0, none⟩) 1 1) := (Option.some.inj ((hdp156 27 _ 66 (by kernel_rfl) rfl rfl).1 rfl)).symm
      refine op_fn (vs := [cb, (Value.int .i64 0), (Value.slice (some ⟨b153, 0, none⟩) 1 1)]) ok85 ⟨(ev_base hN156 rfl q156_57), ⟨rfl, ⟨(ev_base hN156 rfl q156_66), trivial⟩⟩⟩ (InsNI ocb hB155 (one_pn _) rfl (by first | omega | (simp only [List.length_insertIdx, List.length_set, List.length_drop, List.length_take]; omega) | (simp; omega)) (by first | omega | (simp only [List.length_insertIdx, List.length_set, List.length_drop, List.length_take]; omega) | (simp; omega)) ne_b153_cb) ?_
      rintro v157 w158 ⟨E159, hO157, hm157⟩
      have dj160 : DJ cv v157 := DJ.step hm157 (fun k hk => (oc.lt k hk).2) dk6
      have dj161 : DJ ca v157 := DJ.step hm157 (fun k hk => (oca.lt k hk).2) dk8
      have dj162 : Dj G0 (Bl v157) := Dj.step hm157 (fun k hk => (hr.lt k hk).2) dk12.symm
      have dj163 : Dj Gb (Bl v157) := Dj.step hm157 (fun k hk => (hKb.lt k hk).2) dk21.symm
      have dj164 : Dj G1 (Bl v157) := Dj.step hm157 (fun k hk => (hkq1.lt k hk).2) dk31.symm
      have dj165 : Dj G2 (Bl v157) := Dj.step hm157 (fun k hk => (hkq2.lt k hk).2) dk41.symm
      have hin166 := inF_step (n := w.heap.size) hm157 (by omega) (fun k _ h => hNd.wg k (hgs k (hB.wc k h)))
      have z_w158 := E159.size
      have hx := hx.keepO ocb E159 (by decide)
      have ok := ok.keepT ocb E159 (by decide)
      have oc := oc.keepD E159 dk6
      have ks := all9 ks fun _ h => h.keepT ocb E159 (by decide)
      have hxa := hxa.keepO ocb E159 (by decide)
      have hxb := hxb.keepO ocb E159 (by decide)
      have oka := oka.keepT ocb E159 (by decide)
      have oca := oca.keepD E159 dk8
      have kas := all9 kas fun _ h => h.keepT ocb E159 (by decide)
      have kbs := all9 kbs fun _ h => h.keepT ocb E159 (by decide)
      have hr := hr.keepG (Gr.of E159) dk12.symm (NoK.ofOwn ocb (by decide))
      have hKb := hKb.keepG (Gr.of E159) dk21.symm (NoK.ofOwn ocb (by decide))
      have hkq1 := hkq1.keepG (Gr.of E159) dk31.symm (NoK.ofOwn ocb (by decide))
      have hkq2 := hkq2.keepG (Gr.of E159) dk41.symm (NoK.ofOwn ocb (by decide))
      have hO141 := hO141.keepT ocb E159 (by decide)
      have hb := hb.stepL E159 (fun k _ h => hNd.wg k (hgs k (hB.wc k h)))
      have hO157 : Own w158 0 69 1 v157 (Pb.insertIdx 0 (Pa.getD (Ka.length - 1 + 1) default)).length ((Pb.insertIdx 0 (Pa.getD (Ka.length - 1 + 1) default)).flatMap cN) := hO157.cast (by rw [List.length_insertIdx, if_pos (by first | omega | (simp only [List.length_insertIdx, List.length_set, List.length_drop, List.length_take]; omega) | (simp; omega))]) (flat_ins cN_len (Pa.getD (Ka.length - 1 + 1) default) (by first | omega | (simp only [List.length_insertIdx, List.length_set, List.length_drop, List.length_take]; omega) | (simp; omega)))
      refine ktk_end (G := fun t9 w' => 31 ∈ t9 → (Own w' 0 27 1 kv K.length (K.flatMap cK) ∧ Own w' 0 69 1 ca Pa.length (Pa.flatMap cN) ∧ Bx w' (P.getD (i + 1) default) 115 [(Value.slice none 0 0), kb, cb] ∧ Bx w' p 115 [(Value.slice none 0 0), kv, cv] ∧ Bx w' (P.getD i default) 115 [(Value.slice none 0 0), ka, ca])) (todo := [28, 31]) (i := 28) rfl (fun _ => ⟨ok, oca, hxb, hx, hxa⟩) ?_
      refine ktk_step (rs := [31]) (by kernel_rfl) ?_
      refine one_mem ?_
      intro w167 E167 _ a167 hN167 hbs167 hdp167 o_ ho_; obtain rfl := Option.some.inj ho_
      have z_w167 := E167.size
      have hx := hx.keep0 E167
      have ok := ok.keep0 E167
      have oc := oc.keep0 E167
      have ks := all9 ks fun _ h => h.keep0 E167
      have hxa := hxa.keep0 E167
      have hxb := hxb.keep0 E167
      have oka := oka.keep0 E167
      have oca := oca.keep0 E167
      have kas := all9 kas fun _ h => h.keep0 E167
      have kbs := all9 kbs fun _ h => h.keep0 E167
      have hr := hr.kz E167
      have hKb := hKb.kz E167
      have hkq1 := hkq1.kz E167
      have hkq2 := hkq2.kz E167
      have hO141 := hO141.keep0 E167
      have hO157 := hO157.keep0 E167
      have hb := hb.step0 E167
      have q167_69 : Sl a167 69 (ptr (P.getD (i + 1) default) 1) := (hdp167 30 _ 69 (by kernel_rfl) rfl rfl).2 rfl
      have q167_53 : Sl a167 53 v141 := (Option.some.inj ((hdp167 14 _ 53 (by kernel_rfl) rfl rfl).1 rfl)).symm
      have hxb_old := hxb
      refine op_store (vs := [v141]) (cs' := [(Value.slice none 0 0), v141, cb]) size90 (ev_base hN167 rfl q167_69) (ev_base hN167 rfl q167_53) hO141.cl rfl (by simp only [List.all_cons, List.all_nil, Bool.true_and, Bool.and_true, hO141.one]; try rfl) hxb (Nat.le_of_ble_eq_true rfl) rfl ?_
      intro w168 hxb E169
      have z_w168 := E169.size
      have hx := hx.keep E169 (by simp only [ne_eq, Option.some.injEq]; omega)
      have ok := ok.keepX hxb_old E169 (by decide)
      have oc := oc.keepX hxb_old E169 (by decide)
      have ks := all9 ks fun _ h => h.keepX hxb_old E169 (by decide)
      have hxa := hxa.keep E169 (by simp only [ne_eq, Option.some.injEq]; omega)
      have oka := oka.keepX hxb_old E169 (by decide)
      have oca := oca.keepX hxb_old E169 (by decide)
      have kas := all9 kas fun _ h => h.keepX hxb_old E169 (by decide)
      have kbs := all9 kbs fun _ h => h.keepX hxb_old E169 (by decide)
      have hr := hr.keepG (Gr.of E169) (Dj.one dk14) (NoK.ofBx hxb_old (by decide))
      have hKb := hKb.keepG (Gr.of E169) (Dj.one dk23) (NoK.ofBx hxb_old (by decide))
      have hkq1 := hkq1.keepG (Gr.of E169) (Dj.one dk33) (NoK.ofBx hxb_old (by decide))
      have hkq2 := hkq2.keepG (Gr.of E169) (Dj.one dk43) (NoK.ofBx hxb_old (by decide))
      have hO141 := hO141.keepX hxb_old E169 (by decide)
      have hO157 := hO157.keepX hxb_old E169 (by decide)
      have hb := hb.stepB E169 (hNd.wg _ (hgs _ hB.wp))
      refine ktk_end0 (G := fun t9 w' => 31 ∈ t9 → (Own w' 0 27 1 kv K.length (K.flatMap cK) ∧ Own w' 0 69 1 ca Pa.length (Pa.flatMap cN) ∧ Bx w' (P.getD (i + 1) default) 115 [(Value.slice none 0 0), kb, cb] ∧ Bx w' p 115 [(Value.slice none 0 0), kv, cv] ∧ Bx w' (P.getD i default) 115 [(Value.slice none 0 0), ka, ca])) (todo := [31]) (i := 31) rfl (fun h => absurd h (by decide)) ?_
      intro w170 E170 a170 hN170 hd170 hbs170 hph170
      have hd170 := hd170.trans ((by simp only [putsL_defers] : _ = _).trans hd)
      have z_w170 := E170.size
      have hx := hx.keep0 E170
      have ok := ok.keep0 E170
      have oc := oc.keep0 E170
      have ks := all9 ks fun _ h => h.keep0 E170
      have hxa := hxa.keep0 E170
      have oka := oka.keep0 E170
      have oca := oca.keep0 E170
      have kas := all9 kas fun _ h => h.keep0 E170
      have kbs := all9 kbs fun _ h => h.keep0 E170
      have hr := hr.kz E170
      have hKb := hKb.kz E170
      have hkq1 := hkq1.kz E170
      have hkq2 := hkq2.kz E170
      have hO141 := hO141.keep0 E170
      have hO157 := hO157.keep0 E170
      have hxb := hxb.keep0 E170
      have hb := hb.step0 E170
      have s170_0 := (hbs170 0 rfl).trans (sl_base hN rfl s0)
      have s170_1 := (hbs170 1 rfl).trans (sl_base hN rfl s1)
      have s170_6 := (hbs170 6 rfl).trans (sl_hit hN rfl)
      have s170_7 := (hbs170 7 rfl).trans (sl_hit hN rfl)
      have s170_11 := (hbs170 11 rfl).trans (sl_hit hN rfl)
      have s170_40 : Sl a170 40 (ptr (P.getD (i + 1) default) 0) := (hph170 1 _ 40 rfl rfl).2 rfl
      have s170_67 : Sl a170 67 v157 := (Option.some.inj ((hph170 28 _ 67 rfl rfl).1 rfl)).symm
      refine split_end ?_
      refine from_seq (tl := [_, _, _]) (by decide) (by kernel_rfl) rfl ?_
      refine op_nil (ev_base hN170 rfl s170_40) (op_field fld115_2 (ev_hit hN170 rfl) ?_)
      have hxb_old := hxb
      refine op_store (vs := [v157]) (cs' := [(Value.slice none 0 0), v141, v157]) size113 (ev_hit hN170 rfl) (ev_base hN170 rfl s170_67) hO157.cl rfl (by simp only [List.all_cons, List.all_nil, Bool.true_and, Bool.and_true, hO157.one]; try rfl) hxb (Nat.le_of_ble_eq_true rfl) rfl ?_
      intro w171 hxb E172
      have z_w171 := E172.size
      have hx := hx.keep E172 (by simp only [ne_eq, Option.some.injEq]; omega)
      have ok := ok.keepX hxb_old E172 (by decide)
      have oc := oc.keepX hxb_old E172 (by decide)
      have ks := all9 ks fun _ h => h.keepX hxb_old E172 (by decide)
      have hxa := hxa.keep E172 (by simp only [ne_eq, Option.some.injEq]; omega)
      have oka := oka.keepX hxb_old E172 (by decide)
      have oca := oca.keepX hxb_old E172 (by decide)
      have kas := all9 kas fun _ h => h.keepX hxb_old E172 (by decide)
      have kbs := all9 kbs fun _ h => h.keepX hxb_old E172 (by decide)
      have hr := hr.keepG (Gr.of E172) (Dj.one dk14) (NoK.ofBx hxb_old (by decide))
      have hKb := hKb.keepG (Gr.of E172) (Dj.one dk23) (NoK.ofBx hxb_old (by decide))
      have hkq1 := hkq1.keepG (Gr.of E172) (Dj.one dk33) (NoK.ofBx hxb_old (by decide))
      have hkq2 := hkq2.keepG (Gr.of E172) (Dj.one dk43) (NoK.ofBx hxb_old (by decide))
      have hO141 := hO141.keepX hxb_old E172 (by decide)
      have hO157 := hO157.keepX hxb_old E172 (by decide)
      have hb := hb.stepB E172 (hNd.wg _ (hgs _ hB.wp))
      refine reg_nil (hK128 _ _ ?_)
      exact hJ125 _ _ _ hN170 hd170 ⟨v141, v157, (sl_base hN170 rfl s170_0), (sl_base hN170 rfl s170_1), (sl_base hN170 rfl s170_6), (sl_base hN170 rfl s170_7), (sl_base hN170 rfl s170_11), dj144, dj145, dj146.symm, dj147.symm, dj148.symm, dj149.symm, hin150, dj160, dj161, dj162.symm, dj163.symm, dj164.symm, dj165.symm, hin166, hb, (by omega), hx, ok, oc, ks, hxa, oka, oca, kas, kbs, hr, hKb, hkq1, hkq2, (hO141.cast (n' := (Kb.insertIdx 0 ((K.getD i default).1, (K.getD i default).2)).length) (cs' := (Kb.insertIdx 0 ((K.getD i default).1, (K.getD i default).2)).flatMap cK) (by first | rfl | (simp; done) | (simp only [List.length_append, List.length_cons, List.length_nil]; omega)) (by first | rfl | simp [cK, cN, cI])), (hO157.cast (n' := (Pb.insertIdx 0 (Pa.getD (Ka.length - 1 + 1) default)).length) (cs' := (Pb.insertIdx 0 (Pa.getD (Ka.length - 1 + 1) default)).flatMap cN) (by first | rfl | (simp; done) | (simp only [List.length_append, List.length_cons, List.length_nil]; omega)) (by first | rfl | simp [cK, cN, cI])), hxb⟩
     refine one_mem ?_
     intro w173 E173 _ a173 hN173 hbs173 hdp173 o_ ho_; obtain rfl := Option.some.inj ho_
     have z_w173 := E173.size
     have hx := hx.keep0 E173
     have ok := ok.keep0 E173
     have oc := oc.keep0 E173
     have ks := all9 ks fun _ h => h.keep0 E173
     have hxa := hxa.keep0 E173
     have hxb := hxb.keep0 E173
     have oka := oka.keep0 E173
     have okb := okb.keep0 E173
     have oca := oca.keep0 E173
     have ocb := ocb.keep0 E173
     have kas := all9 kas fun _ h => h.keep0 E173
     have kbs := all9 kbs fun _ h => h.keep0 E173
     have hr := hr.kz E173
     have hKb := hKb.kz E173
     have hkq1 := hkq1.kz E173
     have hkq2 := hkq2.kz E173
     have hB139 := hB139.keep0 E173
     have hb := hb.step0 E173
     have q173_65 : Sl a173 65 (ptr (Pa.getD (Ka.length - 1 + 1) default) 0) := (hdp173 26 _ 65 (by kernel_rfl) rfl rfl).2 rfl
     refine op_bslice (e := 69) (pv := [(0, (ptr (Pa.getD (Ka.length - 1 + 1) default) 0))]) (cs := [(ptr (Pa.getD (Ka.length - 1 + 1) default) 0)]) ⟨rfl, (ev_base hN173 rfl q173_65), trivial⟩ (by kernel_rfl) ?_
     intro w174 b175 lo_b175 hi_b175 hB177 E176
     have ne_b175_cb : cb.ownBlock ≠ some b175 := fun hh => by have := (ocb.lt _ hh).2; omega
     have z_w174 := E176.size
     have hx := hx.keep0 E176
     have ok := ok.keep0 E176
     have oc := oc.keep0 E176
     have ks := all9 ks fun _ h => h.keep0 E176
     have hxa := hxa.keep0 E176
     have hxb := hxb.keep0 E176
     have oka := oka.keep0 E176
     have okb := okb.keep0 E176
     have oca := oca.keep0 E176
     have ocb := ocb.keep0 E176
     have kas := all9 kas fun _ h => h.keep0 E176
     have kbs := all9 kbs fun _ h => h.keep0 E176
     have hr := hr.kz E176
     have hKb := hKb.kz E176
     have hkq1 := hkq1.kz E176
     have hkq2 := hkq2.kz E176
     have hB139 := hB139.keep0 E176
     have hb := hb.step0 E176
     refine ktk_end (G := fun t9 w' => 31 ∈ t9 → (Own w' 0 27 1 kv K.length (K.flatMap cK) ∧ Own w' 0 69 1 ca Pa.length (Pa.flatMap cN) ∧ Bx w' (P.getD (i + 1) default) 115 [(Value.slice none 0 0), kb, cb] ∧ Bx w' p 115 [(Value.slice none 0 0), kv, cv] ∧ Bx w' (P.getD i default) 115 [(Value.slice none 0 0), ka, ca])) (todo := [14, 27, 28, 31]) (i := 27) rfl (fun _ => ⟨ok, oca, hxb, hx, hxa⟩) ?_
     refine ktk_step (rs := [14]) (by kernel_rfl) ?_
     refine one_mem ?_
     intro w178 E178 _ a178 hN178 hbs178 hdp178 o_ ho_; obtain rfl := Option.some.inj ho_
     have z_w178 := E178.size
     have hx := hx.keep0 E178
     have ok := ok.keep0 E178
     have oc := oc.keep0 E178
     have ks := all9 ks fun _ h => h.keep0 E178
     have hxa := hxa.keep0 E178
     have hxb := hxb.keep0 E178
     have oka := oka.keep0 E178
     have okb := okb.keep0 E178
     have oca := oca.keep0 E178
     have ocb := ocb.keep0 E178
     have kas := all9 kas fun _ h => h.keep0 E178
     have kbs := all9 kbs fun _ h => h.keep0 E178
     have hr := hr.kz E178
     have hKb := hKb.kz E178
     have hkq1 := hkq1.kz E178
     have hkq2 := hkq2.kz E178
     have hB139 := hB139.keep0 E178
     have hB177 := hB177.keep0 E178
     have hb := hb.step0 E178
     have q178_44 : Sl a178 44 kb := (hdp178 5 _ 44 (by kernel_rfl) rfl rfl).2 rfl
     have q178_52 : Sl a178 52 (Value.slice (some ⟨b137, 0, none⟩) 1 1) := (Option.some.inj ((hdp178 13 _ 52 (by kernel_rfl) rfl rfl).1 rfl)).symm
     refine op_fn (vs := [kb, (Value.int .i64 0), (Value.slice (some ⟨b137, 0, none⟩) 1 1)]) ok67 ⟨(ev_base hN178 rfl q178_44), ⟨rfl, ⟨(ev_base hN178 rfl q178_52), trivial⟩⟩⟩ (InsK okb hB139 (one_kd kbs (fun _ h => h)) (by simp only [List.all_cons, List.all_nil, Bool.true_and, Bool.and_true, (own_one (show Own _ _ _ _ (K.getD i default).1 (K.getD i default).2.length ((K.getD i default).2.map u8v) from ks (K.getD i default) (getD_mem (by first | omega | (simp only [List.length_drop, List.length_take]; omega)))))]; try rfl) (by first | omega | (simp only [List.length_insertIdx, List.length_set, List.length_drop, List.length_take]; omega) | (simp; omega)) (by first | omega | (simp only [List.length_insertIdx, List.length_set, List.length_drop, List.length_take]; omega) | (simp; omega)) ne_b137_kb) ?_
     rintro v179 w180 ⟨E181, hO179, hm179⟩
     have dj182 : DJ kv v179 := DJ.step hm179 (fun k hk => (ok.lt k hk).2) dk4
     have dj183 : DJ ka v179 := DJ.step hm179 (fun k hk => (oka.lt k hk).2) dk7
     have dj184 : Dj G0 (Bl v179) := Dj.step hm179 (fun k hk => (hr.lt k hk).2) dk11.symm
     have dj185 : Dj Gb (Bl v179) := Dj.step hm179 (fun k hk => (hKb.lt k hk).2) dk20.symm
     have dj186 : Dj G1 (Bl v179) := Dj.step hm179 (fun k hk => (hkq1.lt k hk).2) dk30.symm
     have dj187 : Dj G2 (Bl v179) := Dj.step hm179 (fun k hk => (hkq2.lt k hk).2) dk40.symm
     have hin188 := inF_step (n := w.heap.size) hm179 (by omega) (fun k _ h => hNd.wg k (hgs k (hB.wk k h)))
     have z_w180 := E181.size
     have hx := hx.keepO okb E181 (by decide)
     have ok := ok.keepD E181 dk4
     have oc := oc.keepT okb E181 (by decide)
     have ks := all9 ks fun _ h => h.keepT okb E181 (by decide)
     have hxa := hxa.keepO okb E181 (by decide)
     have hxb := hxb.keepO okb E181 (by decide)
     have oka := oka.keepD E181 dk7
     have oca := oca.keepT okb E181 (by decide)
     have ocb := ocb.keepT okb E181 (by decide)
     have kas := all9 kas fun _ h => h.keepT okb E181 (by decide)
     have kbs := all9 kbs fun _ h => h.keepT okb E181 (by decide)
     have hr := hr.keepG (Gr.of E181) dk11.symm (NoK.ofOwn okb (by decide))
     have hKb := hKb.keepG (Gr.of E181) dk20.symm (NoK.ofOwn okb (by decide))
     have hkq1 := hkq1.keepG (Gr.of E181) dk30.symm (NoK.ofOwn okb (by decide))
     have hkq2 := hkq2.keepG (Gr.of E181) dk40.symm (NoK.ofOwn okb (by decide))
     have hB177 := hB177.keepO okb E181 (by decide)
     have hb := hb.stepL E181 (fun k _ h => hNd.wg k (hgs k (hB.wk k h)))
     have hO179 : Own w180 0 27 1 v179 (Kb.insertIdx 0 ((K.getD i default).1, (K.getD i default).2)).length ((Kb.insertIdx 0 ((K.getD i default).1, (K.getD i default).2)).flatMap cK) := hO179.cast (by rw [List.length_insertIdx, if_pos (by first | omega | (simp only [List.length_insertIdx, List.length_set, List.length_drop, List.length_take]; omega) | (simp; omega))]) (flat_ins cK_len ((K.getD i default).1, (K.getD i default).2) (by first | omega | (simp only [List.length_insertIdx, List.length_set, List.length_drop, List.length_take]; omega) | (simp; omega)))
     refine ktk_end (G := fun t9 w' => 31 ∈ t9 → (Own w' 0 27 1 kv K.length (K.flatMap cK) ∧ Own w' 0 69 1 ca Pa.length (Pa.flatMap cN) ∧ Bx w' (P.getD (i + 1) default) 115 [(Value.slice none 0 0), kb, cb] ∧ Bx w' p 115 [(Value.slice none 0 0), kv, cv] ∧ Bx w' (P.getD i default) 115 [(Value.slice none 0 0), ka, ca])) (todo := [14, 28, 31]) (i := 14) rfl (fun _ => ⟨ok, oca, hxb, hx, hxa⟩) ?_
     refine ktk_step (rs := [28]) (by kernel_rfl) ?_
     refine one_mem ?_
     intro w189 E189 _ a189 hN189 hbs189 hdp189 o_ ho_; obtain rfl := Option.some.inj ho_
     have z_w189 := E189.size
     have hx := hx.keep0 E189
     have ok := ok.keep0 E189
     have oc := oc.keep0 E189
     have ks := all9 ks fun _ h => h.keep0 E189
     have hxa := hxa.keep0 E189
     have hxb := hxb.keep0 E189
     have oka := oka.keep0 E189
     have oca := oca.keep0 E189
     have ocb := ocb.keep0 E189
     have kas := all9 kas fun _ h => h.keep0 E189
     have kbs := all9 kbs fun _ h => h.keep0 E189
     have hr := hr.kz E189
     have hKb := hKb.kz E189
     have hkq1 := hkq1.kz E189
     have hkq2 := hkq2.kz E189
     have hB177 := hB177.keep0 E189
     have hO179 := hO179.keep0 E189
     have hb := hb.step0 E189
     have q189_57 : Sl a189 57 cb := (hdp189 18 _ 57 (by kernel_rfl) rfl rfl).2 rfl
     have q189_66 : Sl a189 66 (Value.slice (some ⟨b175, 0, none⟩) 1 1) := (Option.some.inj ((hdp189 27 _ 66 (by kernel_rfl) rfl rfl).1 rfl)).symm
     refine op_fn (vs := [cb, (Value.int .i64 0), (Value.slice (some ⟨b175, 0, none⟩) 1 1)]) ok85 ⟨(ev_base hN189 rfl q189_57), ⟨rfl, ⟨(ev_base hN189 rfl q189_66), trivial⟩⟩⟩ (InsNI ocb hB177 (one_pn _) rfl (by first | omega | (simp only [List.length_insertIdx, List.length_set, List.length_drop, List.length_take]; omega) | (simp; omega)) (by first | omega | (simp only [List.length_insertIdx, List.length_set, List.length_drop, List.length_take]; omega) | (simp; omega)) ne_b175_cb) ?_
     rintro v190 w191 ⟨E192, hO190, hm190⟩
     have dj193 : DJ cv v190 := DJ.step hm190 (fun k hk => (oc.lt k hk).2) dk6
     have dj194 : DJ ca v190 := DJ.step hm190 (fun k hk => (oca.lt k hk).2) dk8
     have dj195 : Dj G0 (Bl v190) := Dj.step hm190 (fun k hk => (hr.lt k hk).2) dk12.symm
     have dj196 : Dj Gb (Bl v190) := Dj.step hm190 (fun k hk => (hKb.lt k hk).2) dk21.symm
     have dj197 : Dj G1 (Bl v190) := Dj.step hm190 (fun k hk => (hkq1.lt k hk).2) dk31.symm
     have dj198 : Dj G2 (Bl v190) := Dj.step hm190 (fun k hk => (hkq2.lt k hk).2) dk41.symm
     have hin199 := inF_step (n := w.heap.size) hm190 (by omega) (fun k _ h => hNd.wg k (hgs k (hB.wc k h)))
     have z_w191 := E192.size
     have hx := hx.keepO ocb E192 (by decide)
     have ok := ok.keepT ocb E192 (by decide)
     have oc := oc.keepD E192 dk6
     have ks := all9 ks fun _ h => h.keepT ocb E192 (by decide)
     have hxa := hxa.keepO ocb E192 (by decide)
     have hxb := hxb.keepO ocb E192 (by decide)
     have oka := oka.keepT ocb E192 (by decide)
     have oca := oca.keepD E192 dk8
     have kas := all9 kas fun _ h => h.keepT ocb E192 (by decide)
     have kbs := all9 kbs fun _ h => h.keepT ocb E192 (by decide)
     have hr := hr.keepG (Gr.of E192) dk12.symm (NoK.ofOwn ocb (by decide))
     have hKb := hKb.keepG (Gr.of E192) dk21.symm (NoK.ofOwn ocb (by decide))
     have hkq1 := hkq1.keepG (Gr.of E192) dk31.symm (NoK.ofOwn ocb (by decide))
     have hkq2 := hkq2.keepG (Gr.of E192) dk41.symm (NoK.ofOwn ocb (by decide))
     have hO179 := hO179.keepT ocb E192 (by decide)
     have hb := hb.stepL E192 (fun k _ h => hNd.wg k (hgs k (hB.wc k h)))
     have hO190 : Own w191 0 69 1 v190 (Pb.insertIdx 0 (Pa.getD (Ka.length - 1 + 1) default)).length ((Pb.insertIdx 0 (Pa.getD (Ka.length - 1 + 1) default)).flatMap cN) := hO190.cast (by rw [List.length_insertIdx, if_pos (by first | omega | (simp only [List.length_insertIdx, List.length_set, List.length_drop, List.length_take]; omega) | (simp; omega))]) (flat_ins cN_len (Pa.getD (Ka.length - 1 + 1) default) (by first | omega | (simp only [List.length_insertIdx, List.length_set, List.length_drop, List.length_take]; omega) | (simp; omega)))
     refine ktk_end (G := fun t9 w' => 31 ∈ t9 → (Own w' 0 27 1 kv K.length (K.flatMap cK) ∧ Own w' 0 69 1 ca Pa.length (Pa.flatMap cN) ∧ Bx w' (P.getD (i + 1) default) 115 [(Value.slice none 0 0), kb, cb] ∧ Bx w' p 115 [(Value.slice none 0 0), kv, cv] ∧ Bx w' (P.getD i default) 115 [(Value.slice none 0 0), ka, ca])) (todo := [28, 31]) (i := 28) rfl (fun _ => ⟨ok, oca, hxb, hx, hxa⟩) ?_
     refine ktk_step (rs := [31]) (by kernel_rfl) ?_
     refine one_mem ?_
     intro w200 E200 _ a200 hN200 hbs200 hdp200 o_ ho_; obtain rfl := Option.some.inj ho_
     have z_w200 := E200.size
     have hx := hx.keep0 E200
     have ok := ok.keep0 E200
     have oc := oc.keep0 E200
     have ks := all9 ks fun _ h => h.keep0 E200
     have hxa := hxa.keep0 E200
     have hxb := hxb.keep0 E200
     have oka := oka.keep0 E200
     have oca := oca.keep0 E200
     have kas := all9 kas fun _ h => h.keep0 E200
     have kbs := all9 kbs fun _ h => h.keep0 E200
     have hr := hr.kz E200
     have hKb := hKb.kz E200
     have hkq1 := hkq1.kz E200
     have hkq2 := hkq2.kz E200
     have hO179 := hO179.keep0 E200
     have hO190 := hO190.keep0 E200
     have hb := hb.step0 E200
     have q200_69 : Sl a200 69 (ptr (P.getD (i + 1) default) 1) := (hdp200 30 _ 69 (by kernel_rfl) rfl rfl).2 rfl
     have q200_53 : Sl a200 53 v179 := (Option.some.inj ((hdp200 14 _ 53 (by kernel_rfl) rfl rfl).1 rfl)).symm
     have hxb_old := hxb
     refine op_store (vs := [v179]) (cs' := [(Value.slice none 0 0), v179, cb]) size90 (ev_base hN200 rfl q200_69) (ev_base hN200 rfl q200_53) hO179.cl rfl (by simp only [List.all_cons, List.all_nil, Bool.true_and, Bool.and_true, hO179.one]; try rfl) hxb (Nat.le_of_ble_eq_true rfl) rfl ?_
     intro w201 hxb E202
     have z_w201 := E202.size
     have hx := hx.keep E202 (by simp only [ne_eq, Option.some.injEq]; omega)
     have ok := ok.keepX hxb_old E202 (by decide)
     have oc := oc.keepX hxb_old E202 (by decide)
     have ks := all9 ks fun _ h => h.keepX hxb_old E202 (by decide)
     have hxa := hxa.keep E202 (by simp only [ne_eq, Option.some.injEq]; omega)
     have oka := oka.keepX hxb_old E202 (by decide)
     have oca := oca.keepX hxb_old E202 (by decide)
     have kas := all9 kas fun _ h => h.keepX hxb_old E202 (by decide)
     have kbs := all9 kbs fun _ h => h.keepX hxb_old E202 (by decide)
     have hr := hr.keepG (Gr.of E202) (Dj.one dk14) (NoK.ofBx hxb_old (by decide))
     have hKb := hKb.keepG (Gr.of E202) (Dj.one dk23) (NoK.ofBx hxb_old (by decide))
     have hkq1 := hkq1.keepG (Gr.of E202) (Dj.one dk33) (NoK.ofBx hxb_old (by decide))
     have hkq2 := hkq2.keepG (Gr.of E202) (Dj.one dk43) (NoK.ofBx hxb_old (by decide))
     have hO179 := hO179.keepX hxb_old E202 (by decide)
     have hO190 := hO190.keepX hxb_old E202 (by decide)
     have hb := hb.stepB E202 (hNd.wg _ (hgs _ hB.wp))
     refine ktk_end0 (G := fun t9 w' => 31 ∈ t9 → (Own w' 0 27 1 kv K.length (K.flatMap cK) ∧ Own w' 0 69 1 ca Pa.length (Pa.flatMap cN) ∧ Bx w' (P.getD (i + 1) default) 115 [(Value.slice none 0 0), kb, cb] ∧ Bx w' p 115 [(Value.slice none 0 0), kv, cv] ∧ Bx w' (P.getD i default) 115 [(Value.slice none 0 0), ka, ca])) (todo := [31]) (i := 31) rfl (fun h => absurd h (by decide)) ?_
     intro w203 E203 a203 hN203 hd203 hbs203 hph203
     have hd203 := hd203.trans ((by simp only [putsL_defers] : _ = _).trans hd)
     have z_w203 := E203.size
     have hx := hx.keep0 E203
     have ok := ok.keep0 E203
     have oc := oc.keep0 E203
     have ks := all9 ks fun _ h => h.keep0 E203
     have hxa := hxa.keep0 E203
     have oka := oka.keep0 E203
     have oca := oca.keep0 E203
     have kas := all9 kas fun _ h => h.keep0 E203
     have kbs := all9 kbs fun _ h => h.keep0 E203
     have hr := hr.kz E203
     have hKb := hKb.kz E203
     have hkq1 := hkq1.kz E203
     have hkq2 := hkq2.kz E203
     have hO179 := hO179.keep0 E203
     have hO190 := hO190.keep0 E203
     have hxb := hxb.keep0 E203
     have hb := hb.step0 E203
     have s203_0 := (hbs203 0 rfl).trans (sl_base hN rfl s0)
     have s203_1 := (hbs203 1 rfl).trans (sl_base hN rfl s1)
     have s203_6 := (hbs203 6 rfl).trans (sl_hit hN rfl)
     have s203_7 := (hbs203 7 rfl).trans (sl_hit hN rfl)
     have s203_11 := (hbs203 11 rfl).trans (sl_hit hN rfl)
     have s203_40 : Sl a203 40 (ptr (P.getD (i + 1) default) 0) := (hph203 1 _ 40 rfl rfl).2 rfl
     have s203_67 : Sl a203 67 v190 := (Option.some.inj ((hph203 28 _ 67 rfl rfl).1 rfl)).symm
     refine split_end ?_
     refine from_seq (tl := [_, _, _]) (by decide) (by kernel_rfl) rfl ?_
     refine op_nil (ev_base hN203 rfl s203_40) (op_field fld115_2 (ev_hit hN203 rfl) ?_)
     have hxb_old := hxb
     refine op_store (vs := [v190]) (cs' := [(Value.slice none 0 0), v179, v190]) size113 (ev_hit hN203 rfl) (ev_base hN203 rfl s203_67) hO190.cl rfl (by simp only [List.all_cons, List.all_nil, Bool.true_and, Bool.and_true, hO190.one]; try rfl) hxb (Nat.le_of_ble_eq_true rfl) rfl ?_
     intro w204 hxb E205
     have z_w204 := E205.size
     have hx := hx.keep E205 (by simp only [ne_eq, Option.some.injEq]; omega)
     have ok := ok.keepX hxb_old E205 (by decide)
     have oc := oc.keepX hxb_old E205 (by decide)
     have ks := all9 ks fun _ h => h.keepX hxb_old E205 (by decide)
     have hxa := hxa.keep E205 (by simp only [ne_eq, Option.some.injEq]; omega)
     have oka := oka.keepX hxb_old E205 (by decide)
     have oca := oca.keepX hxb_old E205 (by decide)
     have kas := all9 kas fun _ h => h.keepX hxb_old E205 (by decide)
     have kbs := all9 kbs fun _ h => h.keepX hxb_old E205 (by decide)
     have hr := hr.keepG (Gr.of E205) (Dj.one dk14) (NoK.ofBx hxb_old (by decide))
     have hKb := hKb.keepG (Gr.of E205) (Dj.one dk23) (NoK.ofBx hxb_old (by decide))
     have hkq1 := hkq1.keepG (Gr.of E205) (Dj.one dk33) (NoK.ofBx hxb_old (by decide))
     have hkq2 := hkq2.keepG (Gr.of E205) (Dj.one dk43) (NoK.ofBx hxb_old (by decide))
     have hO179 := hO179.keepX hxb_old E205 (by decide)
     have hO190 := hO190.keepX hxb_old E205 (by decide)
     have hb := hb.stepB E205 (hNd.wg _ (hgs _ hB.wp))
     refine reg_nil (hK128 _ _ ?_)
     exact hJ125 _ _ _ hN203 hd203 ⟨v179, v190, (sl_base hN203 rfl s203_0), (sl_base hN203 rfl s203_1), (sl_base hN203 rfl s203_6), (sl_base hN203 rfl s203_7), (sl_base hN203 rfl s203_11), dj182, dj183, dj184.symm, dj185.symm, dj186.symm, dj187.symm, hin188, dj193, dj194, dj195.symm, dj196.symm, dj197.symm, dj198.symm, hin199, hb, (by omega), hx, ok, oc, ks, hxa, oka, oca, kas, kbs, hr, hKb, hkq1, hkq2, (hO179.cast (n' := (Kb.insertIdx 0 ((K.getD i default).1, (K.getD i default).2)).length) (cs' := (Kb.insertIdx 0 ((K.getD i default).1, (K.getD i default).2)).flatMap cK) (by first | rfl | (simp; done) | (simp only [List.length_append, List.length_cons, List.length_nil]; omega)) (by first | rfl | simp [cK, cN, cI])), (hO190.cast (n' := (Pb.insertIdx 0 (Pa.getD (Ka.length - 1 + 1) default)).length) (cs' := (Pb.insertIdx 0 (Pa.getD (Ka.length - 1 + 1) default)).flatMap cN) (by first | rfl | (simp; done) | (simp only [List.length_append, List.length_cons, List.length_nil]; omega)) (by first | rfl | simp [cK, cN, cI])), hxb⟩
    refine one_mem ?_
    intro w206 E206 _ a206 hN206 hbs206 hdp206 o_ ho_; obtain rfl := Option.some.inj ho_
    have z_w206 := E206.size
    have hx := hx.keep0 E206
    have ok := ok.keep0 E206
    have oc := oc.keep0 E206
    have ks := all9 ks fun _ h => h.keep0 E206
    have hxa := hxa.keep0 E206
    have hxb := hxb.keep0 E206
    have oka := oka.keep0 E206
    have okb := okb.keep0 E206
    have oca := oca.keep0 E206
    have ocb := ocb.keep0 E206
    have kas := all9 kas fun _ h => h.keep0 E206
    have kbs := all9 kbs fun _ h => h.keep0 E206
    have hr := hr.kz E206
    have hKb := hKb.kz E206
    have hkq1 := hkq1.kz E206
    have hkq2 := hkq2.kz E206
    have hb := hb.step0 E206
    have q206_65 : Sl a206 65 (ptr (Pa.getD (Ka.length - 1 + 1) default) 0) := (hdp206 26 _ 65 (by kernel_rfl) rfl rfl).2 rfl
    refine op_bslice (e := 69) (pv := [(0, (ptr (Pa.getD (Ka.length - 1 + 1) default) 0))]) (cs := [(ptr (Pa.getD (Ka.length - 1 + 1) default) 0)]) ⟨rfl, (ev_base hN206 rfl q206_65), trivial⟩ (by kernel_rfl) ?_
    intro w207 b208 lo_b208 hi_b208 hB210 E209
    have ne_b208_cb : cb.ownBlock ≠ some b208 := fun hh => by have := (ocb.lt _ hh).2; omega
    have z_w207 := E209.size
    have hx := hx.keep0 E209
    have ok := ok.keep0 E209
    have oc := oc.keep0 E209
    have ks := all9 ks fun _ h => h.keep0 E209
    have hxa := hxa.keep0 E209
    have hxb := hxb.keep0 E209
    have oka := oka.keep0 E209
    have okb := okb.keep0 E209
    have oca := oca.keep0 E209
    have ocb := ocb.keep0 E209
    have kas := all9 kas fun _ h => h.keep0 E209
    have kbs := all9 kbs fun _ h => h.keep0 E209
    have hr := hr.kz E209
    have hKb := hKb.kz E209
    have hkq1 := hkq1.kz E209
    have hkq2 := hkq2.kz E209
    have hb := hb.step0 E209
    refine ktk_end (G := fun t9 w' => 31 ∈ t9 → (Own w' 0 27 1 kv K.length (K.flatMap cK) ∧ Own w' 0 69 1 ca Pa.length (Pa.flatMap cN) ∧ Bx w' (P.getD (i + 1) default) 115 [(Value.slice none 0 0), kb, cb] ∧ Bx w' p 115 [(Value.slice none 0 0), kv, cv] ∧ Bx w' (P.getD i default) 115 [(Value.slice none 0 0), ka, ca])) (todo := [13, 14, 27, 28, 31]) (i := 27) rfl (fun _ => ⟨ok, oca, hxb, hx, hxa⟩) ?_
    refine ktk_step (rs := [13]) (by kernel_rfl) ?_
    refine one_mem ?_
    intro w211 E211 _ a211 hN211 hbs211 hdp211 o_ ho_; obtain rfl := Option.some.inj ho_
    have z_w211 := E211.size
    have hx := hx.keep0 E211
    have ok := ok.keep0 E211
    have oc := oc.keep0 E211
    have ks := all9 ks fun _ h => h.keep0 E211
    have hxa := hxa.keep0 E211
    have hxb := hxb.keep0 E211
    have oka := oka.keep0 E211
    have okb := okb.keep0 E211
    have oca := oca.keep0 E211
    have ocb := ocb.keep0 E211
    have kas := all9 kas fun _ h => h.keep0 E211
    have kbs := all9 kbs fun _ h => h.keep0 E211
    have hr := hr.kz E211
    have hKb := hKb.kz E211
    have hkq1 := hkq1.kz E211
    have hkq2 := hkq2.kz E211
    have hB210 := hB210.keep0 E211
    have hb := hb.step0 E211
    have q211_51 : Sl a211 51 (K.getD i default).1 := (hdp211 12 _ 51 (by kernel_rfl) rfl rfl).2 rfl
    refine op_bslice (e := 27) (pv := [(0, (K.getD i default).1)]) (cs := [(K.getD i default).1]) ⟨rfl, (ev_base hN211 rfl q211_51), trivial⟩ (by obtain ⟨_, _, _, hq9⟩ := (show Own _ _ _ _ (K.getD i default).1 (K.getD i default).2.length ((K.getD i default).2.map u8v) from ks (K.getD i default) (getD_mem (by first | omega | (simp only [List.length_drop, List.length_take]; omega)))).sl; rw [hq9]; kernel_rfl) ?_
    intro w212 b213 lo_b213 hi_b213 hB215 E214
    have ne_b213_kb : kb.ownBlock ≠ some b213 := fun hh => by have := (okb.lt _ hh).2; omega
    have z_w212 := E214.size
    have hx := hx.keep0 E214
    have ok := ok.keep0 E214
    have oc := oc.keep0 E214
    have ks := all9 ks fun _ h => h.keep0 E214
    have hxa := hxa.keep0 E214
    have hxb := hxb.keep0 E214
    have oka := oka.keep0 E214
    have okb := okb.keep0 E214
    have oca := oca.keep0 E214
    have ocb := ocb.keep0 E214
    have kas := all9 kas fun _ h => h.keep0 E214
    have kbs := all9 kbs fun _ h => h.keep0 E214
    have hr := hr.kz E214
    have hKb := hKb.kz E214
    have hkq1 := hkq1.kz E214
    have hkq2 := hkq2.kz E214
    have hB210 := hB210.keep0 E214
    have hb := hb.step0 E214
    refine ktk_end (G := fun t9 w' => 31 ∈ t9 → (Own w' 0 27 1 kv K.length (K.flatMap cK) ∧ Own w' 0 69 1 ca Pa.length (Pa.flatMap cN) ∧ Bx w' (P.getD (i + 1) default) 115 [(Value.slice none 0 0), kb, cb] ∧ Bx w' p 115 [(Value.slice none 0 0), kv, cv] ∧ Bx w' (P.getD i default) 115 [(Value.slice none 0 0), ka, ca])) (todo := [13, 14, 28, 31]) (i := 13) rfl (fun _ => ⟨ok, oca, hxb, hx, hxa⟩) ?_
    refine ktk_step (rs := [14]) (by kernel_rfl) ?_
    refine one_mem ?_
    intro w216 E216 _ a216 hN216 hbs216 hdp216 o_ ho_; obtain rfl := Option.some.inj ho_
    have z_w216 := E216.size
    have hx := hx.keep0 E216
    have ok := ok.keep0 E216
    have oc := oc.keep0 E216
    have ks := all9 ks fun _ h => h.keep0 E216
    have hxa := hxa.keep0 E216
    have hxb := hxb.keep0 E216
    have oka := oka.keep0 E216
    have okb := okb.keep0 E216
    have oca := oca.keep0 E216
    have ocb := ocb.keep0 E216
    have kas := all9 kas fun _ h => h.keep0 E216
    have kbs := all9 kbs fun _ h => h.keep0 E216
    have hr := hr.kz E216
    have hKb := hKb.kz E216
    have hkq1 := hkq1.kz E216
    have hkq2 := hkq2.kz E216
    have hB210 := hB210.keep0 E216
    have hB215 := hB215.keep0 E216
    have hb := hb.step0 E216
    have q216_44 : Sl a216 44 kb := (hdp216 5 _ 44 (by kernel_rfl) rfl rfl).2 rfl
    have q216_52 : Sl a216 52 (Value.slice (some ⟨b213, 0, none⟩) 1 1) := (Option.some.inj ((hdp216 13 _ 52 (by kernel_rfl) rfl rfl).1 rfl)).symm
    refine op_fn (vs := [kb, (Value.int .i64 0), (Value.slice (some ⟨b213, 0, none⟩) 1 1)]) ok67 ⟨(ev_base hN216 rfl q216_44), ⟨rfl, ⟨(ev_base hN216 rfl q216_52), trivial⟩⟩⟩ (InsK okb hB215 (one_kd kbs (fun _ h => h)) (by simp only [List.all_cons, List.all_nil, Bool.true_and, Bool.and_true, (own_one (show Own _ _ _ _ (K.getD i default).1 (K.getD i default).2.length ((K.getD i default).2.map u8v) from ks (K.getD i default) (getD_mem (by first | omega | (simp only [List.length_drop, List.length_take]; omega)))))]; try rfl) (by first | omega | (simp only [List.length_insertIdx, List.length_set, List.length_drop, List.length_take]; omega) | (simp; omega)) (by first | omega | (simp only [List.length_insertIdx, List.length_set, List.length_drop, List.length_take]; omega) | (simp; omega)) ne_b213_kb) ?_
    rintro v217 w218 ⟨E219, hO217, hm217⟩
    have dj220 : DJ kv v217 := DJ.step hm217 (fun k hk => (ok.lt k hk).2) dk4
    have dj221 : DJ ka v217 := DJ.step hm217 (fun k hk => (oka.lt k hk).2) dk7
    have dj222 : Dj G0 (Bl v217) := Dj.step hm217 (fun k hk => (hr.lt k hk).2) dk11.symm
    have dj223 : Dj Gb (Bl v217) := Dj.step hm217 (fun k hk => (hKb.lt k hk).2) dk20.symm
    have dj224 : Dj G1 (Bl v217) := Dj.step hm217 (fun k hk => (hkq1.lt k hk).2) dk30.symm
    have dj225 : Dj G2 (Bl v217) := Dj.step hm217 (fun k hk => (hkq2.lt k hk).2) dk40.symm
    have hin226 := inF_step (n := w.heap.size) hm217 (by omega) (fun k _ h => hNd.wg k (hgs k (hB.wk k h)))
    have z_w218 := E219.size
    have hx := hx.keepO okb E219 (by decide)
    have ok := ok.keepD E219 dk4
    have oc := oc.keepT okb E219 (by decide)
    have ks := all9 ks fun _ h => h.keepT okb E219 (by decide)
    have hxa := hxa.keepO okb E219 (by decide)
    have hxb := hxb.keepO okb E219 (by decide)
    have oka := oka.keepD E219 dk7
    have oca := oca.keepT okb E219 (by decide)
    have ocb := ocb.keepT okb E219 (by decide)
    have kas := all9 kas fun _ h => h.keepT okb E219 (by decide)
    have kbs := all9 kbs fun _ h => h.keepT okb E219 (by decide)
    have hr := hr.keepG (Gr.of E219) dk11.symm (NoK.ofOwn okb (by decide))
    have hKb := hKb.keepG (Gr.of E219) dk20.symm (NoK.ofOwn okb (by decide))
    have hkq1 := hkq1.keepG (Gr.of E219) dk30.symm (NoK.ofOwn okb (by decide))
    have hkq2 := hkq2.keepG (Gr.of E219) dk40.symm (NoK.ofOwn okb (by decide))
    have hB210 := hB210.keepO okb E219 (by decide)
    have hb := hb.stepL E219 (fun k _ h => hNd.wg k (hgs k (hB.wk k h)))
    have hO217 : Own w218 0 27 1 v217 (Kb.insertIdx 0 ((K.getD i default).1, (K.getD i default).2)).length ((Kb.insertIdx 0 ((K.getD i default).1, (K.getD i default).2)).flatMap cK) := hO217.cast (by rw [List.length_insertIdx, if_pos (by first | omega | (simp only [List.length_insertIdx, List.length_set, List.length_drop, List.length_take]; omega) | (simp; omega))]) (flat_ins cK_len ((K.getD i default).1, (K.getD i default).2) (by first | omega | (simp only [List.length_insertIdx, List.length_set, List.length_drop, List.length_take]; omega) | (simp; omega)))
    refine ktk_end (G := fun t9 w' => 31 ∈ t9 → (Own w' 0 27 1 kv K.length (K.flatMap cK) ∧ Own w' 0 69 1 ca Pa.length (Pa.flatMap cN) ∧ Bx w' (P.getD (i + 1) default) 115 [(Value.slice none 0 0), kb, cb] ∧ Bx w' p 115 [(Value.slice none 0 0), kv, cv] ∧ Bx w' (P.getD i default) 115 [(Value.slice none 0 0), ka, ca])) (todo := [14, 28, 31]) (i := 14) rfl (fun _ => ⟨ok, oca, hxb, hx, hxa⟩) ?_
    refine ktk_step (rs := [28]) (by kernel_rfl) ?_
    refine one_mem ?_
    intro w227 E227 _ a227 hN227 hbs227 hdp227 o_ ho_; obtain rfl := Option.some.inj ho_
    have z_w227 := E227.size
    have hx := hx.keep0 E227
    have ok := ok.keep0 E227
    have oc := oc.keep0 E227
    have ks := all9 ks fun _ h => h.keep0 E227
    have hxa := hxa.keep0 E227
    have hxb := hxb.keep0 E227
    have oka := oka.keep0 E227
    have oca := oca.keep0 E227
    have ocb := ocb.keep0 E227
    have kas := all9 kas fun _ h => h.keep0 E227
    have kbs := all9 kbs fun _ h => h.keep0 E227
    have hr := hr.kz E227
    have hKb := hKb.kz E227
    have hkq1 := hkq1.kz E227
    have hkq2 := hkq2.kz E227
    have hB210 := hB210.keep0 E227
    have hO217 := hO217.keep0 E227
    have hb := hb.step0 E227
    have q227_57 : Sl a227 57 cb := (hdp227 18 _ 57 (by kernel_rfl) rfl rfl).2 rfl
    have q227_66 : Sl a227 66 (Value.slice (some ⟨b208, 0, none⟩) 1 1) := (Option.some.inj ((hdp227 27 _ 66 (by kernel_rfl) rfl rfl).1 rfl)).symm
    refine op_fn (vs := [cb, (Value.int .i64 0), (Value.slice (some ⟨b208, 0, none⟩) 1 1)]) ok85 ⟨(ev_base hN227 rfl q227_57), ⟨rfl, ⟨(ev_base hN227 rfl q227_66), trivial⟩⟩⟩ (InsNI ocb hB210 (one_pn _) rfl (by first | omega | (simp only [List.length_insertIdx, List.length_set, List.length_drop, List.length_take]; omega) | (simp; omega)) (by first | omega | (simp only [List.length_insertIdx, List.length_set, List.length_drop, List.length_take]; omega) | (simp; omega)) ne_b208_cb) ?_
    rintro v228 w229 ⟨E230, hO228, hm228⟩
    have dj231 : DJ cv v228 := DJ.step hm228 (fun k hk => (oc.lt k hk).2) dk6
    have dj232 : DJ ca v228 := DJ.step hm228 (fun k hk => (oca.lt k hk).2) dk8
    have dj233 : Dj G0 (Bl v228) := Dj.step hm228 (fun k hk => (hr.lt k hk).2) dk12.symm
    have dj234 : Dj Gb (Bl v228) := Dj.step hm228 (fun k hk => (hKb.lt k hk).2) dk21.symm
    have dj235 : Dj G1 (Bl v228) := Dj.step hm228 (fun k hk => (hkq1.lt k hk).2) dk31.symm
    have dj236 : Dj G2 (Bl v228) := Dj.step hm228 (fun k hk => (hkq2.lt k hk).2) dk41.symm
    have hin237 := inF_step (n := w.heap.size) hm228 (by omega) (fun k _ h => hNd.wg k (hgs k (hB.wc k h)))
    have z_w229 := E230.size
    have hx := hx.keepO ocb E230 (by decide)
    have ok := ok.keepT ocb E230 (by decide)
    have oc := oc.keepD E230 dk6
    have ks := all9 ks fun _ h => h.keepT ocb E230 (by decide)
    have hxa := hxa.keepO ocb E230 (by decide)
    have hxb := hxb.keepO ocb E230 (by decide)
    have oka := oka.keepT ocb E230 (by decide)
    have oca := oca.keepD E230 dk8
    have kas := all9 kas fun _ h => h.keepT ocb E230 (by decide)
    have kbs := all9 kbs fun _ h => h.keepT ocb E230 (by decide)
    have hr := hr.keepG (Gr.of E230) dk12.symm (NoK.ofOwn ocb (by decide))
    have hKb := hKb.keepG (Gr.of E230) dk21.symm (NoK.ofOwn ocb (by decide))
    have hkq1 := hkq1.keepG (Gr.of E230) dk31.symm (NoK.ofOwn ocb (by decide))
    have hkq2 := hkq2.keepG (Gr.of E230) dk41.symm (NoK.ofOwn ocb (by decide))
    have hO217 := hO217.keepT ocb E230 (by decide)
    have hb := hb.stepL E230 (fun k _ h => hNd.wg k (hgs k (hB.wc k h)))
    have hO228 : Own w229 0 69 1 v228 (Pb.insertIdx 0 (Pa.getD (Ka.length - 1 + 1) default)).length ((Pb.insertIdx 0 (Pa.getD (Ka.length - 1 + 1) default)).flatMap cN) := hO228.cast (by rw [List.length_insertIdx, if_pos (by first | omega | (simp only [List.length_insertIdx, List.length_set, List.length_drop, List.length_take]; omega) | (simp; omega))]) (flat_ins cN_len (Pa.getD (Ka.length - 1 + 1) default) (by first | omega | (simp only [List.length_insertIdx, List.length_set, List.length_drop, List.length_take]; omega) | (simp; omega)))
    refine ktk_end (G := fun t9 w' => 31 ∈ t9 → (Own w' 0 27 1 kv K.length (K.flatMap cK) ∧ Own w' 0 69 1 ca Pa.length (Pa.flatMap cN) ∧ Bx w' (P.getD (i + 1) default) 115 [(Value.slice none 0 0), kb, cb] ∧ Bx w' p 115 [(Value.slice none 0 0), kv, cv] ∧ Bx w' (P.getD i default) 115 [(Value.slice none 0 0), ka, ca])) (todo := [28, 31]) (i := 28) rfl (fun _ => ⟨ok, oca, hxb, hx, hxa⟩) ?_
    refine ktk_step (rs := [31]) (by kernel_rfl) ?_
    refine one_mem ?_
    intro w238 E238 _ a238 hN238 hbs238 hdp238 o_ ho_; obtain rfl := Option.some.inj ho_
    have z_w238 := E238.size
    have hx := hx.keep0 E238
    have ok := ok.keep0 E238
    have oc := oc.keep0 E238
    have ks := all9 ks fun _ h => h.keep0 E238
    have hxa := hxa.keep0 E238
    have hxb := hxb.keep0 E238
    have oka := oka.keep0 E238
    have oca := oca.keep0 E238
    have kas := all9 kas fun _ h => h.keep0 E238
    have kbs := all9 kbs fun _ h => h.keep0 E238
    have hr := hr.kz E238
    have hKb := hKb.kz E238
    have hkq1 := hkq1.kz E238
    have hkq2 := hkq2.kz E238
    have hO217 := hO217.keep0 E238
    have hO228 := hO228.keep0 E238
    have hb := hb.step0 E238
    have q238_69 : Sl a238 69 (ptr (P.getD (i + 1) default) 1) := (hdp238 30 _ 69 (by kernel_rfl) rfl rfl).2 rfl
    have q238_53 : Sl a238 53 v217 := (Option.some.inj ((hdp238 14 _ 53 (by kernel_rfl) rfl rfl).1 rfl)).symm
    have hxb_old := hxb
    refine op_store (vs := [v217]) (cs' := [(Value.slice none 0 0), v217, cb]) size90 (ev_base hN238 rfl q238_69) (ev_base hN238 rfl q238_53) hO217.cl rfl (by simp only [List.all_cons, List.all_nil, Bool.true_and, Bool.and_true, hO217.one]; try rfl) hxb (Nat.le_of_ble_eq_true rfl) rfl ?_
    intro w239 hxb E240
    have z_w239 := E240.size
    have hx := hx.keep E240 (by simp only [ne_eq, Option.some.injEq]; omega)
    have ok := ok.keepX hxb_old E240 (by decide)
    have oc := oc.keepX hxb_old E240 (by decide)
    have ks := all9 ks fun _ h => h.keepX hxb_old E240 (by decide)
    have hxa := hxa.keep E240 (by simp only [ne_eq, Option.some.injEq]; omega)
    have oka := oka.keepX hxb_old E240 (by decide)
    have oca := oca.keepX hxb_old E240 (by decide)
    have kas := all9 kas fun _ h => h.keepX hxb_old E240 (by decide)
    have kbs := all9 kbs fun _ h => h.keepX hxb_old E240 (by decide)
    have hr := hr.keepG (Gr.of E240) (Dj.one dk14) (NoK.ofBx hxb_old (by decide))
    have hKb := hKb.keepG (Gr.of E240) (Dj.one dk23) (NoK.ofBx hxb_old (by decide))
    have hkq1 := hkq1.keepG (Gr.of E240) (Dj.one dk33) (NoK.ofBx hxb_old (by decide))
    have hkq2 := hkq2.keepG (Gr.of E240) (Dj.one dk43) (NoK.ofBx hxb_old (by decide))
    have hO217 := hO217.keepX hxb_old E240 (by decide)
    have hO228 := hO228.keepX hxb_old E240 (by decide)
    have hb := hb.stepB E240 (hNd.wg _ (hgs _ hB.wp))
    refine ktk_end0 (G := fun t9 w' => 31 ∈ t9 → (Own w' 0 27 1 kv K.length (K.flatMap cK) ∧ Own w' 0 69 1 ca Pa.length (Pa.flatMap cN) ∧ Bx w' (P.getD (i + 1) default) 115 [(Value.slice none 0 0), kb, cb] ∧ Bx w' p 115 [(Value.slice none 0 0), kv, cv] ∧ Bx w' (P.getD i default) 115 [(Value.slice none 0 0), ka, ca])) (todo := [31]) (i := 31) rfl (fun h => absurd h (by decide)) ?_
    intro w241 E241 a241 hN241 hd241 hbs241 hph241
    have hd241 := hd241.trans ((by simp only [putsL_defers] : _ = _).trans hd)
    have z_w241 := E241.size
    have hx := hx.keep0 E241
    have ok := ok.keep0 E241
    have oc := oc.keep0 E241
    have ks := all9 ks fun _ h => h.keep0 E241
    have hxa := hxa.keep0 E241
    have oka := oka.keep0 E241
    have oca := oca.keep0 E241
    have kas := all9 kas fun _ h => h.keep0 E241
    have kbs := all9 kbs fun _ h => h.keep0 E241
    have hr := hr.kz E241
    have hKb := hKb.kz E241
    have hkq1 := hkq1.kz E241
    have hkq2 := hkq2.kz E241
    have hO217 := hO217.keep0 E241
    have hO228 := hO228.keep0 E241
    have hxb := hxb.keep0 E241
    have hb := hb.step0 E241
    have s241_0 := (hbs241 0 rfl).trans (sl_base hN rfl s0)
    have s241_1 := (hbs241 1 rfl).trans (sl_base hN rfl s1)
    have s241_6 := (hbs241 6 rfl).trans (sl_hit hN rfl)
    have s241_7 := (hbs241 7 rfl).trans (sl_hit hN rfl)
    have s241_11 := (hbs241 11 rfl).trans (sl_hit hN rfl)
    have s241_40 : Sl a241 40 (ptr (P.getD (i + 1) default) 0) := (hph241 1 _ 40 rfl rfl).2 rfl
    have s241_67 : Sl a241 67 v228 := (Option.some.inj ((hph241 28 _ 67 rfl rfl).1 rfl)).symm
    refine split_end ?_
    refine from_seq (tl := [_, _, _]) (by decide) (by kernel_rfl) rfl ?_
    refine op_nil (ev_base hN241 rfl s241_40) (op_field fld115_2 (ev_hit hN241 rfl) ?_)
    have hxb_old := hxb
    refine op_store (vs := [v228]) (cs' := [(Value.slice none 0 0), v217, v228]) size113 (ev_hit hN241 rfl) (ev_base hN241 rfl s241_67) hO228.cl rfl (by simp only [List.all_cons, List.all_nil, Bool.true_and, Bool.and_true, hO228.one]; try rfl) hxb (Nat.le_of_ble_eq_true rfl) rfl ?_
    intro w242 hxb E243
    have z_w242 := E243.size
    have hx := hx.keep E243 (by simp only [ne_eq, Option.some.injEq]; omega)
    have ok := ok.keepX hxb_old E243 (by decide)
    have oc := oc.keepX hxb_old E243 (by decide)
    have ks := all9 ks fun _ h => h.keepX hxb_old E243 (by decide)
    have hxa := hxa.keep E243 (by simp only [ne_eq, Option.some.injEq]; omega)
    have oka := oka.keepX hxb_old E243 (by decide)
    have oca := oca.keepX hxb_old E243 (by decide)
    have kas := all9 kas fun _ h => h.keepX hxb_old E243 (by decide)
    have kbs := all9 kbs fun _ h => h.keepX hxb_old E243 (by decide)
    have hr := hr.keepG (Gr.of E243) (Dj.one dk14) (NoK.ofBx hxb_old (by decide))
    have hKb := hKb.keepG (Gr.of E243) (Dj.one dk23) (NoK.ofBx hxb_old (by decide))
    have hkq1 := hkq1.keepG (Gr.of E243) (Dj.one dk33) (NoK.ofBx hxb_old (by decide))
    have hkq2 := hkq2.keepG (Gr.of E243) (Dj.one dk43) (NoK.ofBx hxb_old (by decide))
    have hO217 := hO217.keepX hxb_old E243 (by decide)
    have hO228 := hO228.keepX hxb_old E243 (by decide)
    have hb := hb.stepB E243 (hNd.wg _ (hgs _ hB.wp))
    refine reg_nil (hK128 _ _ ?_)
    exact hJ125 _ _ _ hN241 hd241 ⟨v217, v228, (sl_base hN241 rfl s241_0), (sl_base hN241 rfl s241_1), (sl_base hN241 rfl s241_6), (sl_base hN241 rfl s241_7), (sl_base hN241 rfl s241_11), dj220, dj221, dj222.symm, dj223.symm, dj224.symm, dj225.symm, hin226, dj231, dj232, dj233.symm, dj234.symm, dj235.symm, dj236.symm, hin237, hb, (by omega), hx, ok, oc, ks, hxa, oka, oca, kas, kbs, hr, hKb, hkq1, hkq2, (hO217.cast (n' := (Kb.insertIdx 0 ((K.getD i default).1, (K.getD i default).2)).length) (cs' := (Kb.insertIdx 0 ((K.getD i default).1, (K.getD i default).2)).flatMap cK) (by first | rfl | (simp; done) | (simp only [List.length_append, List.length_cons, List.length_nil]; omega)) (by first | rfl | simp [cK, cN, cI])), (hO228.cast (n' := (Pb.insertIdx 0 (Pa.getD (Ka.length - 1 + 1) default)).length) (cs' := (Pb.insertIdx 0 (Pa.getD (Ka.length - 1 + 1) default)).flatMap cN) (by first | rfl | (simp; done) | (simp only [List.length_append, List.length_cons, List.length_nil]; omega)) (by first | rfl | simp [cK, cN, cI])), hxb⟩
  ·
   rintro a125 w125 hN125 hd125 ⟨vk, vc, s125_0, s125_1, s125_6, s125_7, s125_11, dj108, dj109, dj110, dj111, dj112, dj114, hin116, dj117, dj118, dj119, dj120, dj121, dj122, hin123, hb, zl_w125, hx, ok, oc, ks, hxa, oka, oca, kas, kbs, hr, hKb, hkq1, hkq2, hO126, hO127, hbj124⟩
   have z_w125 := hb.size
   refine seq_any fun K244 hK244 => reg_from mixed ?_
   intro w246 E245
   have z_w246 := E245.size
   have hx := hx.keep0 E245
   have ok := ok.keep0 E245
   have oc := oc.keep0 E245
   have ks := all9 ks fun _ h => h.keep0 E245
   have hxa := hxa.keep0 E245
   have oka := oka.keep0 E245
   have oca := oca.keep0 E245
   have kas := all9 kas fun _ h => h.keep0 E245
   have kbs := all9 kbs fun _ h => h.keep0 E245
   have hr := hr.kz E245
   have hKb := hKb.kz E245
   have hkq1 := hkq1.kz E245
   have hkq2 := hkq2.kz E245
   have hO126 := hO126.keep0 E245
   have hO127 := hO127.keep0 E245
   have hbj124 := hbj124.keep0 E245
   have hb := hb.step0 E245
   refine from_still (m := 13) 13 (hd := [_, _, _, _, _, _, _, _, _, _, _, _, _]) (by kernel_rfl) rfl rfl ?_
   refine st_step rfl (fun _ h9 => op_move (ev_base hN125 rfl s125_0) h9) ?_
   refine st_step rfl (fun _ h9 => op_nil (ev_hit hN125 rfl) h9) ?_
   refine st_step rfl (fun _ h9 => op_field fld115_1 (ev_hit hN125 rfl) h9) ?_
   refine st_step rfl (fun _ h9 => op_load1 (v := kv) one90 (ev_hit hN125 rfl) (hx.cell rfl) h9) ?_
   refine st_step rfl (fun _ h9 => op_move (ev_base hN125 rfl s125_1) h9) ?_
   refine st_step rfl (fun _ h9 => op_move (ev_base hN125 rfl s125_7) h9) ?_
   refine st_step rfl (fun _ h9 => op_nil (ev_hit hN125 rfl) h9) ?_
   refine st_step rfl (fun _ h9 => op_field fld115_1 (ev_hit hN125 rfl) h9) ?_
   refine st_step rfl (fun _ h9 => op_load1 (v := ka) one90 (ev_hit hN125 rfl) (hxa.cell rfl) h9) ?_
   refine st_step rfl (fun _ h9 => op_move (ev_base hN125 rfl s125_11) h9) ?_
   refine st_index_rd slt90 (ev_hit hN125 rfl) oka.rdw (ev_hit hN125 rfl) (by omega) (by omega) ?_
   intro b247 o248 h0b247 h1b247 hc249
   refine st_step rfl (fun _ h9 => op_load1 (v := (Ka.getD (Ka.length - 1) default).1) one27 (ev_hit hN125 rfl) (by have := hc249 0 (Ka.getD (Ka.length - 1) default).1 (by decide) (el_kd (i := (Ka.length - 1)) (by omega) (by first | omega | (simp only [List.length_drop, List.length_take]; omega))); simpa using this) h9) ?_
   refine st_index_own (i := i) slt90 (ev_hit hN125 rfl) ok (ev_hit hN125 rfl) (by omega) (by omega) ?_
   intro b250 o251 lo_b250 hA252
   have hA252 : AtV kv (i) b250 o251 := by simpa using hA252
   refine st_nil ?_
   refine from_seq (tl := [_]) (by decide) (by kernel_rfl) rfl ?_
   have hP255 := ok
   refine op_store_own (vs := [(Ka.getD (Ka.length - 1) default).1]) size27 (ev_hit hN125 rfl) (ev_hit hN125 rfl) (own_cl (show Own _ _ _ _ (Ka.getD (Ka.length - 1) default).1 (Ka.getD (Ka.length - 1) default).2.length ((Ka.getD (Ka.length - 1) default).2.map u8v) from kas (Ka.getD (Ka.length - 1) default) (getD_mem (by first | omega | (simp only [List.length_drop, List.length_take]; omega))))) rfl (by simp only [List.all_cons, List.all_nil, Bool.true_and, Bool.and_true, (own_one (show Own _ _ _ _ (Ka.getD (Ka.length - 1) default).1 (Ka.getD (Ka.length - 1) default).2.length ((Ka.getD (Ka.length - 1) default).2.map u8v) from kas (Ka.getD (Ka.length - 1) default) (getD_mem (by first | omega | (simp only [List.length_drop, List.length_take]; omega)))))]; try rfl) hP255 hA252 (by rw [hP255.1]; simp only [List.length_cons, List.length_nil]; omega) ?_
   intro w253 hO256 E254
   have z_w253 := E254.size
   have hx := hx.keepO hP255 E254 (by decide)
   have oc := oc.keepT hP255 E254 (by decide)
   have ks := all9 ks fun _ h => h.keepT hP255 E254 (by decide)
   have hxa := hxa.keepO hP255 E254 (by decide)
   have oka := oka.keepD E254 dk3.symm
   have oca := oca.keepT hP255 E254 (by decide)
   have kas := all9 kas fun _ h => h.keepT hP255 E254 (by decide)
   have kbs := all9 kbs fun _ h => h.keepT hP255 E254 (by decide)
   have hr := hr.keepG (Gr.of E254) djkG.symm (NoK.ofOwn hP255 (by decide))
   have hKb := hKb.keepG (Gr.of E254) dk15.symm (NoK.ofOwn hP255 (by decide))
   have hkq1 := hkq1.keepG (Gr.of E254) dk25.symm (NoK.ofOwn hP255 (by decide))
   have hkq2 := hkq2.keepG (Gr.of E254) dk35.symm (NoK.ofOwn hP255 (by decide))
   have hO126 := hO126.keepD E254 dj108.symm
   have hO127 := hO127.keepT hP255 E254 (by decide)
   have hbj124 := hbj124.keepO hP255 E254 (by decide)
   have hb := hb.stepL E254 (fun k _ h => hNd.wk k h)
   have hO256 : Own w253 0 27 1 kv K.length (((K.set i (Ka.getD (Ka.length - 1) default))).flatMap cK) := by exact hO256.cast rfl (set_K (d := Ka.getD (Ka.length - 1) default) (by omega))
   refine reg_nil (hK244 _ _ (reg_split (hd := [_, _, _, _, _, _, _, _, _, _, _, _, _, _, _, _, _, _]) (tl := _) 18 mixed (by kernel_rfl) rfl rfl ?_))
   refine any_envk (φ := phiV [(fun uz => uz = (ptr (P.getD i default) 0)), (fun uz => uz = (ptr (P.getD i default) 0)), (fun uz => uz = (ptr (P.getD i default) 0)), (fun uz => uz = (ptr (P.getD i default) 0)), (fun uz => uz = (ptr (P.getD i default) 1)), (fun uz => uz = ka), (fun uz => uz = (Value.int .i64 ((Ka.length - 1 : Nat) : Int))), (fun uz => uz = (hiV ka (Ka.length - 1))), (fun uz => uz = (ptr (P.getD i default) 0)), (fun uz => uz = (ptr (P.getD i default) 0)), (fun uz => uz = (ptr (P.getD i default) 2)), (fun uz => uz = ca), (fun uz => uz = (Value.int .i64 ((Ka.length - 1 : Nat) : Int))), (fun uz => uz = (Value.int .i64 (((Ka.length - 1 : Nat) : Int) + 1))), (fun uz => uz = (hiV ca (Ka.length - 1 + 1))), (fun uz => uz = (ptr (P.getD i default) 0)), (fun uz => uz = (ptr (P.getD i default) 1)), (fun _ => True)]) (G := fun c9 w' => c9 ≤ 0 → (Bx w' (P.getD i default) 115 [(Value.slice none 0 0), ka, ca])) [17] (by kernel_rfl) (by kernel_rfl) (by kernel_rfl) (by kernel_rfl) hN125 (fun _ w1 w2 E h hc9 => (h hc9).keep0 E) (fun _ => hxa) (ObKs.cons ?_ (ObKs.cons ?_ (ObKs.cons ?_ (ObKs.cons ?_ (ObKs.cons ?_ (ObKs.cons ?_ (ObKs.cons ?_ (ObKs.cons ?_ (ObKs.cons ?_ (ObKs.cons ?_ (ObKs.cons ?_ (ObKs.cons ?_ (ObKs.cons ?_ (ObKs.cons ?_ (ObKs.cons ?_ (ObKs.cons ?_ (ObKs.cons ?_ (ObKs.pass rfl (ObKs.nil))))))))))))))))))) (by simp only [putsL_defers]) ?_
   ·
    intro eA aA wA hNA hckA hGA hbsA hdpA
    have qA_7 := (hbsA 7 rfl).trans (sl_base hN125 rfl s125_7)
    refine op_move (ev_base hNA rfl qA_7) ?_
    exact obK_end rfl rfl rfl
   ·
    intro eA aA wA hNA hckA hGA hbsA hdpA
    have qA_7 := (hbsA 7 rfl).trans (sl_base hN125 rfl s125_7)
    refine op_move (ev_base hNA rfl qA_7) ?_
    exact obK_end rfl rfl rfl
   ·
    intro eA aA wA hNA hckA hGA hbsA hdpA
    have qA_7 := (hbsA 7 rfl).trans (sl_base hN125 rfl s125_7)
    refine op_move (ev_base hNA rfl qA_7) ?_
    exact obK_end rfl rfl rfl
   ·
    intro eA aA wA hNA hckA hGA hbsA hdpA
    have qA_87 : Sl aA 87 (ptr (P.getD i default) 0) := (hdpA 2 _ 87 (by kernel_rfl) rfl rfl).2 rfl
    refine op_nil (ev_base hNA rfl qA_87) ?_
    exact obK_end rfl rfl rfl
   ·
    intro eA aA wA hNA hckA hGA hbsA hdpA
    have qA_88 : Sl aA 88 (ptr (P.getD i default) 0) := (hdpA 3 _ 88 (by kernel_rfl) rfl rfl).2 rfl
    refine op_field fld115_1 (ev_base hNA rfl qA_88) ?_
    exact obK_end rfl rfl rfl
   ·
    intro eA aA wA hNA hckA hGA hbsA hdpA
    have qA_89 : Sl aA 89 (ptr (P.getD i default) 1) := (hdpA 4 _ 89 (by kernel_rfl) rfl rfl).2 rfl
    have hGA := hGA (hckA 0 17 rfl (by kernel_rfl))
    refine op_load1 (v := ka) one90 (ev_base hNA rfl qA_89) (hGA.cell rfl) ?_
    exact obK_end rfl rfl rfl
   ·
    intro eA aA wA hNA hckA hGA hbsA hdpA
    have qA_11 := (hbsA 11 rfl).trans (sl_base hN125 rfl s125_11)
    refine op_move (ev_base hNA rfl qA_11) ?_
    exact obK_end rfl rfl rfl
   ·
    intro eA aA wA hNA hckA hGA hbsA hdpA
    have qA_90 : Sl aA 90 ka := (hdpA 5 _ 90 (by kernel_rfl) rfl rfl).2 rfl
    have qA_91 : Sl aA 91 (Value.int .i64 ((Ka.length - 1 : Nat) : Int)) := (hdpA 6 _ 91 (by kernel_rfl) rfl rfl).2 rfl
    refine op_slice_hiC (m := (Ka.length - 1)) slt90 (ev_base hNA rfl qA_90) hcka3 (ev_base hNA rfl qA_91) (by omega) (by omega) ?_
    exact obK_end rfl rfl rfl
   ·
    intro eA aA wA hNA hckA hGA hbsA hdpA
    have qA_7 := (hbsA 7 rfl).trans (sl_base hN125 rfl s125_7)
    refine op_move (ev_base hNA rfl qA_7) ?_
    exact obK_end rfl rfl rfl
   ·
    intro eA aA wA hNA hckA hGA hbsA hdpA
    have qA_93 : Sl aA 93 (ptr (P.getD i default) 0) := (hdpA 8 _ 93 (by kernel_rfl) rfl rfl).2 rfl
    refine op_nil (ev_base hNA rfl qA_93) ?_
    exact obK_end rfl rfl rfl
   ·
    intro eA aA wA hNA hckA hGA hbsA hdpA
    have qA_94 : Sl aA 94 (ptr (P.getD i default) 0) := (hdpA 9 _ 94 (by kernel_rfl) rfl rfl).2 rfl
    refine op_field fld115_2 (ev_base hNA rfl qA_94) ?_
    exact obK_end rfl rfl rfl
   ·
    intro eA aA wA hNA hckA hGA hbsA hdpA
    have qA_95 : Sl aA 95 (ptr (P.getD i default) 2) := (hdpA 10 _ 95 (by kernel_rfl) rfl rfl).2 rfl
    have hGA := hGA (hckA 0 17 rfl (by kernel_rfl))
    refine op_load1 (v := ca) one113 (ev_base hNA rfl qA_95) (hGA.cell rfl) ?_
    exact obK_end rfl rfl rfl
   ·
    intro eA aA wA hNA hckA hGA hbsA hdpA
    have qA_11 := (hbsA 11 rfl).trans (sl_base hN125 rfl s125_11)
    refine op_move (ev_base hNA rfl qA_11) ?_
    exact obK_end rfl rfl rfl
   ·
    intro eA aA wA hNA hckA hGA hbsA hdpA
    have qA_97 : Sl aA 97 (Value.int .i64 ((Ka.length - 1 : Nat) : Int)) := (hdpA 12 _ 97 (by kernel_rfl) rfl rfl).2 rfl
    refine op_add (ev_base hNA rfl qA_97) rfl (add64 (by omega)) ?_
    exact obK_end rfl rfl rfl
   ·
    intro eA aA wA hNA hckA hGA hbsA hdpA
    have qA_96 : Sl aA 96 ca := (hdpA 11 _ 96 (by kernel_rfl) rfl rfl).2 rfl
    have qA_98 : Sl aA 98 (Value.int .i64 (((Ka.length - 1 : Nat) : Int) + 1)) := (hdpA 13 _ 98 (by kernel_rfl) rfl rfl).2 rfl
    refine op_slice_hiC (m := (Ka.length - 1 + 1)) slt113 (ev_base hNA rfl qA_96) hcca3 (ev_base hNA rfl qA_98) (by omega) (by omega) ?_
    exact obK_end rfl rfl rfl
   ·
    intro eA aA wA hNA hckA hGA hbsA hdpA
    have qA_85 : Sl aA 85 (ptr (P.getD i default) 0) := (hdpA 0 _ 85 (by kernel_rfl) rfl rfl).2 rfl
    refine op_nil (ev_base hNA rfl qA_85) ?_
    exact obK_end rfl rfl rfl
   ·
    intro eA aA wA hNA hckA hGA hbsA hdpA
    have qA_100 : Sl aA 100 (ptr (P.getD i default) 0) := (hdpA 15 _ 100 (by kernel_rfl) rfl rfl).2 rfl
    refine op_field fld115_1 (ev_base hNA rfl qA_100) ?_
    exact obK_end rfl rfl rfl
   ·
    intro w257 E257 _ a257 hN257 hbs257 hdp257 o_ ho_; obtain rfl := Option.some.inj ho_
    have z_w257 := E257.size
    have hx := hx.keep0 E257
    have oc := oc.keep0 E257
    have ks := all9 ks fun _ h => h.keep0 E257
    have hxa := hxa.keep0 E257
    have oka := oka.keep0 E257
    have oca := oca.keep0 E257
    have kas := all9 kas fun _ h => h.keep0 E257
    have kbs := all9 kbs fun _ h => h.keep0 E257
    have hr := hr.kz E257
    have hKb := hKb.kz E257
    have hkq1 := hkq1.kz E257
    have hkq2 := hkq2.kz E257
    have hO126 := hO126.keep0 E257
    have hO127 := hO127.keep0 E257
    have hbj124 := hbj124.keep0 E257
    have hO256 := hO256.keep0 E257
    have hb := hb.step0 E257
    have q257_101 : Sl a257 101 (ptr (P.getD i default) 1) := (hdp257 16 _ 101 (by kernel_rfl) rfl rfl).2 rfl
    have q257_92 : Sl a257 92 (hiV ka (Ka.length - 1)) := (hdp257 7 _ 92 (by kernel_rfl) rfl rfl).2 rfl
    have hxa_old := hxa
    refine op_store (vs := [(hiV ka (Ka.length - 1))]) (cs' := [(Value.slice none 0 0), (hiV ka (Ka.length - 1)), ca]) size90 (ev_base hN257 rfl q257_101) (ev_base hN257 rfl q257_92) (own_cl (oka.hiCut (k := (Ka.length - 1)) (by omega))) rfl (by simp only [List.all_cons, List.all_nil, Bool.true_and, Bool.and_true, (own_one (oka.hiCut (k := (Ka.length - 1)) (by omega)))]; try rfl) hxa (Nat.le_of_ble_eq_true rfl) rfl ?_
    intro w258 hxa E259
    have z_w258 := E259.size
    have hx := hx.keep E259 (by simp only [ne_eq, Option.some.injEq]; omega)
    have oc := oc.keepX hxa_old E259 (by decide)
    have ks := all9 ks fun _ h => h.keepX hxa_old E259 (by decide)
    have oka := oka.keepX hxa_old E259 (by decide)
    have oca := oca.keepX hxa_old E259 (by decide)
    have kas := all9 kas fun _ h => h.keepX hxa_old E259 (by decide)
    have kbs := all9 kbs fun _ h => h.keepX hxa_old E259 (by decide)
    have hr := hr.keepG (Gr.of E259) (Dj.one dk13) (NoK.ofBx hxa_old (by decide))
    have hKb := hKb.keepG (Gr.of E259) (Dj.one dk22) (NoK.ofBx hxa_old (by decide))
    have hkq1 := hkq1.keepG (Gr.of E259) (Dj.one dk32) (NoK.ofBx hxa_old (by decide))
    have hkq2 := hkq2.keepG (Gr.of E259) (Dj.one dk42) (NoK.ofBx hxa_old (by decide))
    have hO126 := hO126.keepX hxa_old E259 (by decide)
    have hO127 := hO127.keepX hxa_old E259 (by decide)
    have hbj124 := hbj124.keep E259 (by simp only [ne_eq, Option.some.injEq]; omega)
    have hO256 := hO256.keepX hxa_old E259 (by decide)
    have hb := hb.stepB E259 (hNd.wg _ (hfs _ hA.wp))
    refine kk_end0 rfl (fun h => absurd h (by simp)) ?_
    intro w260 E260 a260 hN260 hd260 hbs260 hph260
    have hd260 := hd260.trans ((by simp only [putsL_defers] : _ = _).trans hd125)
    have z_w260 := E260.size
    have hx := hx.keep0 E260
    have oc := oc.keep0 E260
    have ks := all9 ks fun _ h => h.keep0 E260
    have oka := oka.keep0 E260
    have oca := oca.keep0 E260
    have kas := all9 kas fun _ h => h.keep0 E260
    have kbs := all9 kbs fun _ h => h.keep0 E260
    have hr := hr.kz E260
    have hKb := hKb.kz E260
    have hkq1 := hkq1.kz E260
    have hkq2 := hkq2.kz E260
    have hO126 := hO126.keep0 E260
    have hO127 := hO127.keep0 E260
    have hbj124 := hbj124.keep0 E260
    have hO256 := hO256.keep0 E260
    have hxa := hxa.keep0 E260
    have hb := hb.step0 E260
    have s260_86 : Sl a260 86 (ptr (P.getD i default) 0) := (hph260 1 _ 86 rfl rfl).2 rfl
    have s260_99 : Sl a260 99 (hiV ca (Ka.length - 1 + 1)) := (hph260 14 _ 99 rfl rfl).2 rfl
    refine split_end ?_
    refine from_seq (tl := [_, _, _]) (by decide) (by kernel_rfl) rfl ?_
    refine op_nil (ev_base hN260 rfl s260_86) (op_field fld115_2 (ev_hit hN260 rfl) ?_)
    have hxa_old := hxa
    refine op_store (vs := [(hiV ca (Ka.length - 1 + 1))]) (cs' := [(Value.slice none 0 0), (hiV ka (Ka.length - 1)), (hiV ca (Ka.length - 1 + 1))]) size113 (ev_hit hN260 rfl) (ev_base hN260 rfl s260_99) (own_cl (oca.hiCut (k := (Ka.length - 1 + 1)) (by omega))) rfl (by simp only [List.all_cons, List.all_nil, Bool.true_and, Bool.and_true, (own_one (oca.hiCut (k := (Ka.length - 1 + 1)) (by omega)))]; try rfl) hxa (Nat.le_of_ble_eq_true rfl) rfl ?_
    intro w261 hxa E262
    have z_w261 := E262.size
    have hx := hx.keep E262 (by simp only [ne_eq, Option.some.injEq]; omega)
    have oc := oc.keepX hxa_old E262 (by decide)
    have ks := all9 ks fun _ h => h.keepX hxa_old E262 (by decide)
    have oka := oka.keepX hxa_old E262 (by decide)
    have oca := oca.keepX hxa_old E262 (by decide)
    have kas := all9 kas fun _ h => h.keepX hxa_old E262 (by decide)
    have kbs := all9 kbs fun _ h => h.keepX hxa_old E262 (by decide)
    have hr := hr.keepG (Gr.of E262) (Dj.one dk13) (NoK.ofBx hxa_old (by decide))
    have hKb := hKb.keepG (Gr.of E262) (Dj.one dk22) (NoK.ofBx hxa_old (by decide))
    have hkq1 := hkq1.keepG (Gr.of E262) (Dj.one dk32) (NoK.ofBx hxa_old (by decide))
    have hkq2 := hkq2.keepG (Gr.of E262) (Dj.one dk42) (NoK.ofBx hxa_old (by decide))
    have hO126 := hO126.keepX hxa_old E262 (by decide)
    have hO127 := hO127.keepX hxa_old E262 (by decide)
    have hbj124 := hbj124.keep E262 (by simp only [ne_eq, Option.some.injEq]; omega)
    have hO256 := hO256.keepX hxa_old E262 (by decide)
    have hb := hb.stepB E262 (hNd.wg _ (hfs _ hA.wp))
    refine reg_nil ?_
    refine hK103 _ _ (seq_any fun K263 hK263 => one_reg (op_assign rfl (reg_nil (hK263 _ _ (wp_ret ?_)))))
    refine ret1 rfl hd260 (ev_hit hN260 rfl) ⟨_, rfl, ?_⟩
    have hcv264 : Own w261 0 27 1 (hiV ka (Ka.length - 1)) (Ka.take (Ka.length - 1)).length ((Ka.take (Ka.length - 1)).flatMap cK) := (oka.hiCut (k := (Ka.length - 1)) (by omega)).cast (by rw [List.length_take]; omega) (flat_take cK_len _ _)
    have dj265 : Dj G0 (Bl (hiV ka (Ka.length - 1))) := fun k hk hg => dk9.symm k hk ((hiV_ob ka (Ka.length - 1)).symm.trans hg)
    have dj266 : Dj Gb (Bl (hiV ka (Ka.length - 1))) := fun k hk hg => dk18.symm k hk ((hiV_ob ka (Ka.length - 1)).symm.trans hg)
    have dj267 : Dj G1 (Bl (hiV ka (Ka.length - 1))) := fun k hk hg => dk28.symm k hk ((hiV_ob ka (Ka.length - 1)).symm.trans hg)
    have dj268 : Dj G2 (Bl (hiV ka (Ka.length - 1))) := fun k hk hg => dk38.symm k hk ((hiV_ob ka (Ka.length - 1)).symm.trans hg)
    have dj269 : DJ vk (hiV ka (Ka.length - 1)) := fun k hk hg => dj109.symm k hk ((hiV_ob ka (Ka.length - 1)).symm.trans hg)
    have dj270 : DJ kv (hiV ka (Ka.length - 1)) := fun k hk hg => dk3 k hk ((hiV_ob ka (Ka.length - 1)).symm.trans hg)
    have hcv271 : Own w261 0 69 1 (hiV ca (Ka.length - 1 + 1)) (Pa.take (Ka.length - 1 + 1)).length ((Pa.take (Ka.length - 1 + 1)).flatMap cN) := (oca.hiCut (k := (Ka.length - 1 + 1)) (by omega)).cast (by rw [List.length_take]; omega) (flat_take cN_len _ _)
    have dj272 : DJ cv (hiV ca (Ka.length - 1 + 1)) := fun k hk hg => dk5 k hk ((hiV_ob ca (Ka.length - 1 + 1)).symm.trans hg)
    have dj273 : Dj G0 (Bl (hiV ca (Ka.length - 1 + 1))) := fun k hk hg => dk10.symm k hk ((hiV_ob ca (Ka.length - 1 + 1)).symm.trans hg)
    have dj274 : Dj Gb (Bl (hiV ca (Ka.length - 1 + 1))) := fun k hk hg => dk19.symm k hk ((hiV_ob ca (Ka.length - 1 + 1)).symm.trans hg)
    have dj275 : Dj G1 (Bl (hiV ca (Ka.length - 1 + 1))) := fun k hk hg => dk29.symm k hk ((hiV_ob ca (Ka.length - 1 + 1)).symm.trans hg)
    have dj276 : Dj G2 (Bl (hiV ca (Ka.length - 1 + 1))) := fun k hk hg => dk39.symm k hk ((hiV_ob ca (Ka.length - 1 + 1)).symm.trans hg)
    have dj277 : DJ vc (hiV ca (Ka.length - 1 + 1)) := fun k hk hg => dj118.symm k hk ((hiV_ob ca (Ka.length - 1 + 1)).symm.trans hg)
    obtain ⟨G3, hkq3, hG3⟩ := Kids.app hkq2 hKb dk46
    rw [drop1 (d := default) (show Pa.length = (Ka.length - 1 + 1) + 1 by omega), drop1 (d := default) (show ta.length = (Ka.length - 1 + 1) + 1 by omega)] at hkq3
    have hkq3 : KidsR kI R w261 h (Pb.insertIdx 0 (Pa.getD (Ka.length - 1 + 1) default)) (tb.insertIdx 0 (ta.getD (Ka.length - 1 + 1) default)) G3 := hkq3
    have hTA := (mkNode (κ := kI) (K := (Ka.take (Ka.length - 1))) (P := (Pa.take (Ka.length - 1 + 1))) hxa hcv264 hcv271 (kks_sub kas (fun _ h => List.mem_of_mem_take h)) (kks_sub hA.kr (fun _ h => List.mem_of_mem_take h)) hkq1 (fun h1 => dk32 h1) (fun j h1 h2 => dj267.symm _ h1 h2) (fun j h1 h2 => dj275.symm _ h1 h2))
    have hTB := (mkNode (κ := kI) (K := (Kb.insertIdx 0 ((K.getD i default).1, (K.getD i default).2))) (P := (Pb.insertIdx 0 (Pa.getD (Ka.length - 1 + 1) default))) hbj124 hO126 hO127 (kks_ins (d := ((K.getD i default).1, (K.getD i default).2)) kbs (ks _ (getD_mem (l := K) (i := i) (by omega))) (Nat.zero_le _)) (kks_ins (d := ((K.getD i default).1, (K.getD i default).2)) hB.kr (hNd.kr _ (getD_mem (l := K) (i := i) (by omega))) (Nat.zero_le _)) hkq3 (fun h1 => ((hG3 _ h1)).elim (fun y0 => dk43 y0) (fun z0 => dk23 z0)) (fun j h1 h2 => ((hG3 _ h2)).elim (fun y20 => dj114 _ h1 y20) (fun z20 => dj111 _ h1 z20)) (fun j h1 h2 => ((hG3 _ h2)).elim (fun y20 => dj122 _ h1 y20) (fun z20 => dj120 _ h1 z20)))
    have hT9 := mkNode (κ := kI) (K := (K.set i (Ka.getD (Ka.length - 1) default))) hx (hO256.cast (by simp) rfl) oc (kks_set ks (kas _ (getD_mem (l := Ka) (i := (Ka.length - 1)) (by omega)))) (kks_set hNd.kr (hA.kr _ (getD_mem (l := Ka) (i := (Ka.length - 1)) (by omega)))) (Kids.back2 hr hPc (by omega) hTA hTB (fun j h1 h2 => (h1).elim (fun y0 => (h2).elim (fun y20 => hab (y0.symm.trans y20)) (fun z20 => (z20).elim (fun y21 => bx_own_ne hxa hO126 (by decide) (y0 ▸ y21)) (fun z21 => (z21).elim (fun y22 => bx_own_ne hxa hO127 (by decide) (y0 ▸ y22)) (fun z22 => ((hG3 _ z22)).elim (fun y23 => dk42 (y0 ▸ y23)) (fun z23 => dk22 (y0 ▸ z23)))))) (fun z0 => (z0).elim (fun y1 => (h2).elim (fun y20 => bx_own_ne hbj124 hcv264 (by decide) (y20 ▸ y1)) (fun z20 => (z20).elim (fun y21 => dj269.symm _ y1 y21) (fun z21 => (z21).elim (fun y22 => own_own_dj hcv264 hO127 (by decide) _ y1 y22) (fun z22 => ((hG3 _ z22)).elim (fun y23 => dj268.symm _ y1 y23) (fun z23 => dj266.symm _ y1 z23))))) (fun z1 => (z1).elim (fun y2 => (h2).elim (fun y20 => bx_own_ne hbj124 hcv271 (by decide) (y20 ▸ y2)) (fun z20 => (z20).elim (fun y21 => own_own_dj hcv271 hO126 (by decide) _ y2 y21) (fun z21 => (z21).elim (fun y22 => dj277.symm _ y2 y22) (fun z22 => ((hG3 _ z22)).elim (fun y23 => dj276.symm _ y2 y23) (fun z23 => dj274.symm _ y2 z23))))) (fun z2 => (h2).elim (fun y20 => dk33 (y20 ▸ z2)) (fun z20 => (z20).elim (fun y21 => dj112 _ y21 z2) (fun z21 => (z21).elim (fun y22 => dj121 _ y22 z2) (fun z22 => ((hG3 _ z22)).elim (fun y23 => d12 _ z2 y23) (fun z23 => dk45 _ z2 z23)))))))) (fun j h1 h2 => (h1).elim (fun y0 => dk13 (y0 ▸ h2)) (fun z0 => (z0).elim (fun y1 => dj265.symm _ y1 h2) (fun z1 => (z1).elim (fun y2 => dj273.symm _ y2 h2) (fun z2 => dk34 _ z2 h2)))) (fun j h1 h2 => (h1).elim (fun y0 => dk14 (y0 ▸ h2)) (fun z0 => (z0).elim (fun y1 => dj110 _ y1 h2) (fun z1 => (z1).elim (fun y2 => dj119 _ y2 h2) (fun z2 => ((hG3 _ z2)).elim (fun y3 => dk44 _ y3 h2) (fun z3 => dk24 _ z3 h2)))))) (fun h1 => (h1).elim (fun y0 => (y0).elim (fun y1 => hpa y1) (fun z1 => (z1).elim (fun y2 => bx_own_ne hx hcv264 (by decide) y2) (fun z2 => (z2).elim (fun y3 => bx_own_ne hx hcv271 (by decide) y3) (fun z3 => dk27 z3)))) (fun z0 => (z0).elim (fun y1 => (y1).elim (fun y2 => hpb y2) (fun z2 => (z2).elim (fun y3 => bx_own_ne hx hO126 (by decide) y3) (fun z3 => (z3).elim (fun y4 => bx_own_ne hx hO127 (by decide) y4) (fun z4 => ((hG3 _ z4)).elim (fun y5 => dk37 y5) (fun z5 => dk17 z5))))) (fun z1 => djpG z1))) (fun j h1 h2 => (h2).elim (fun y20 => (y20).elim (fun y21 => bx_own_ne hxa hO256 (by decide) (y21 ▸ h1)) (fun z21 => (z21).elim (fun y22 => dj270 _ h1 y22) (fun z22 => (z22).elim (fun y23 => own_own_dj hO256 hcv271 (by decide) _ h1 y23) (fun z23 => dk25 _ h1 z23)))) (fun z20 => (z20).elim (fun y21 => (y21).elim (fun y22 => bx_own_ne hbj124 hO256 (by decide) (y22 ▸ h1)) (fun z22 => (z22).elim (fun y23 => dj108 _ h1 y23) (fun z23 => (z23).elim (fun y24 => own_own_dj hO256 hO127 (by decide) _ h1 y24) (fun z24 => ((hG3 _ z24)).elim (fun y25 => dk35 _ h1 y25) (fun z25 => dk15 _ h1 z25))))) (fun z21 => djkG _ h1 z21))) (fun j h1 h2 => (h2).elim (fun y20 => (y20).elim (fun y21 => bx_own_ne hxa oc (by decide) (y21 ▸ h1)) (fun z21 => (z21).elim (fun y22 => own_own_dj oc hcv264 (by decide) _ h1 y22) (fun z22 => (z22).elim (fun y23 => dj272 _ h1 y23) (fun z23 => dk26 _ h1 z23)))) (fun z20 => (z20).elim (fun y21 => (y21).elim (fun y22 => bx_own_ne hbj124 oc (by decide) (y22 ▸ h1)) (fun z22 => (z22).elim (fun y23 => own_own_dj oc hO126 (by decide) _ h1 y23) (fun z23 => (z23).elim (fun y24 => dj117 _ h1 y24) (fun z24 => ((hG3 _ z24)).elim (fun y25 => dk36 _ h1 y25) (fun z25 => dk16 _ h1 z25))))) (fun z21 => djcG _ h1 z21)))
    rw [lend_NR ha hb9 hi (by omega) (by omega)]
    exact ⟨hb, rfl, _, hT9, (newF_in (fun j hj h1 => (h1).elim (fun y0 => (y0 ▸ hNd.wp)) (fun z0 => (z0).elim (fun y1 => (fun k _ h => hNd.wk k h) j hj y1) (fun z1 => (z1).elim (fun y2 => (fun k _ h => hNd.wc k h) j hj y2) (fun z2 => (z2).elim (fun y3 => (y3).elim (fun y4 => (y4 ▸ (hNd.wg _ (hfs _ hA.wp)))) (fun z4 => (z4).elim (fun y5 => (fun k hk h => (fun k _ h => hNd.wg k (hfs k (hA.wk k h))) k hk ((hiV_ob ka (Ka.length - 1)).symm.trans h)) j hj y5) (fun z5 => (z5).elim (fun y6 => (fun k hk h => (fun k _ h => hNd.wg k (hfs k (hA.wc k h))) k hk ((hiV_ob ca (Ka.length - 1 + 1)).symm.trans h)) j hj y6) (fun z6 => (fun j q => hNd.wg j (hfs j (hA.wg j (su1 j q)))) j z6)))) (fun z3 => (z3).elim (fun y4 => (y4).elim (fun y5 => (y5 ▸ (hNd.wg _ (hgs _ hB.wp)))) (fun z5 => (z5).elim (fun y6 => hin116 j hj y6) (fun z6 => (z6).elim (fun y7 => hin123 j hj y7) (fun z7 => ((hG3 _ z7)).elim (fun y8 => (fun j q => hNd.wg j (hfs j (hA.wg j (su2 j q)))) j y8) (fun z8 => (fun j q => hNd.wg j (hgs j (hB.wg j q))) j z8))))) (fun z4 => (fun j q => hNd.wg j (hGs j q)) j z4)))))))⟩
theorem lend0L {i p n : Nat} {kv cv : Value} {P L : List Nat} {w : World} (hx : Bx w p 115 [.slice none 0 0, kv, cv]) (oc : Own w 0 69 1 cv P.length (P.flatMap cN)) (hi : i + 1 < P.length) (hn : P.length ≤ 100) (hV : NodeV kI w.heap.size w (P.getD (i + 1) default) n L) (h3 : n ≤ 3) : Ret Try.prog 120 #[(ptr p 0), (Value.int .i64 ((i : Nat) : Int)), (Value.bool true)] w (fun v' w' => Below w.heap.size w w' ∧ v' = .bool false) := by
 obtain ⟨hpB, pv2, kv2, cv2, a2, b2, ca2, cb2, hx2, h22, h32, h42, h52⟩ := hV
 have hb := Below.refl w.heap.size w
 refine enter (N := 254) Try.func120 rfl rfl (by simp) fun a0 hN hd hA => ?_
 have s0 : a0.tmps.getD 0 undef = (ptr p 0) := hA 0 (by simp)
 have s1 : a0.tmps.getD 1 undef = (Value.int .i64 ((i : Nat) : Int)) := hA 1 (by simp)
 have s2 : a0.tmps.getD 2 undef = (Value.bool true) := hA 2 (by simp)
 clear hA
 refine seq_any fun K4 hK4 => one_reg (op_assign rfl (reg_nil (hK4 _ _ (seq_any fun K5 hK5 => reg_still mixed (by kernel_rfl) ?_))))
 intro w7 E6
 have z_w7 := E6.size
 have hx := hx.keep0 E6
 have oc := oc.keep0 E6
 have hx2 := hx2.keep0 E6
 have h22 := h22.keep0 E6
 have h32 := h32.keep0 E6
 have h42 := h42.keep0 E6
 have hb := below_step0 hb E6 hb.size
 refine st_step rfl (fun _ h9 => op_move (ev_base hN rfl s0) h9) ?_
 refine st_step rfl (fun _ h9 => op_nil (ev_hit hN rfl) h9) ?_
 refine st_step rfl (fun _ h9 => op_field fld115_2 (ev_hit hN rfl) h9) ?_
 refine st_step rfl (fun _ h9 => op_load1 (v := cv) one113 (ev_hit hN rfl) (hx.cell rfl) h9) ?_
 refine st_step rfl (fun _ h9 => op_move (ev_base hN rfl s1) h9) ?_
 refine st_index_rd slt113 (ev_hit hN rfl) oc.rdw (ev_hit hN rfl) (by omega) (by omega) ?_
 intro b8 o10 h0b8 h1b8 hc11
 refine st_step rfl (fun _ h9 => op_load1 (v := (ptr (P.getD i default) 0)) one69 (ev_hit hN rfl) (by have := hc11 0 (ptr (P.getD i default) 0) (by decide) (el_pn (i := i) (by omega) (by first | omega | (simp only [List.length_drop, List.length_take]; omega))); simpa using this) h9) ?_
 refine st_step rfl (fun _ h9 => op_move (ev_base hN rfl s0) h9) ?_
 refine st_step rfl (fun _ h9 => op_nil (ev_hit hN rfl) h9) ?_
 refine st_step rfl (fun _ h9 => op_field fld115_2 (ev_hit hN rfl) h9) ?_
 refine st_step rfl (fun _ h9 => op_load1 (v := cv) one113 (ev_hit hN rfl) (hx.cell rfl) h9) ?_
 refine st_step rfl (fun _ h9 => op_move (ev_base hN rfl s1) h9) ?_
 refine st_step rfl (fun _ h9 => op_add (ev_hit hN rfl) rfl (add64 (by omega)) h9) ?_
 refine st_index_rd slt113 (ev_hit hN rfl) oc.rdw (ev_hit hN rfl) (by omega) (by omega) ?_
 intro b12 o13 h0b12 h1b12 hc14
 refine st_step rfl (fun _ h9 => op_load1 (v := (ptr (P.getD (i + 1) default) 0)) one69 (ev_hit hN rfl) (by have := hc14 0 (ptr (P.getD (i + 1) default) 0) (by decide) (el_pn (i := (i + 1)) (by omega) (by first | omega | (simp only [List.length_drop, List.length_take]; omega))); simpa using this) h9) ?_
 refine st_step rfl (fun _ h9 => op_assign (ev_hit hN rfl) h9) ?_
 refine st_step rfl (fun _ h9 => op_assign (ev_hit hN rfl) h9) ?_
 refine st_nil ?_
 refine hK5 _ _ (seq_any fun K15 hK15 => one_reg ?_)
 refine op_move (ev_hit hN rfl) (op_assign (ev_hit hN rfl) (reg_nil (hK15 _ _ (seq_any fun K16 hK16 => seq_any fun K17 hK17 => one_reg ?_))))
 refine op_move (ev_base hN rfl s2) (reg_nil (hK17 _ _ (wp_cond_true (ev_hit hN rfl) (one_reg (op_move (ev_hit hN rfl) (op_assign (ev_hit hN rfl) ?_))))))
 refine reg_nil (hK16 _ _ (seq_any fun K18 hK18 => seq_any fun K19 hK19 => one_reg (op_move (ev_hit hN rfl) (op_fn (vs := [(ptr (P.getD (i + 1) default) 0)]) ok52 ⟨(ev_hit hN rfl), trivial⟩ (Ret.flip (sizeUI hx2 h22 h32 h42 h52)) ?_))))
 rintro _ _ ⟨rfl, rfl⟩
 refine op_leq (ev_hit hN rfl) rfl (fun c32 => ?_) (fun c32 => ?_)
 ·
  refine reg_nil (hK19 _ _ ?_)
  refine wp_cond_true (ev_hit hN rfl) (seq_any fun K20 hK20 => one_reg (op_assign rfl (reg_nil (hK20 _ _ (wp_ret (then_ret ( ?_)))))))
  refine ret1 rfl hd (ev_hit hN rfl) ⟨_, rfl, ?_⟩
  exact ⟨hb, rfl⟩
 ·
  exfalso; omega

theorem lend0R {i p n : Nat} {kv cv : Value} {P L : List Nat} {w : World} (hx : Bx w p 115 [.slice none 0 0, kv, cv]) (oc : Own w 0 69 1 cv P.length (P.flatMap cN)) (hi : i + 1 < P.length) (hn : P.length ≤ 100) (hV : NodeV kI w.heap.size w (P.getD i default) n L) (h3 : n ≤ 3) : Ret Try.prog 120 #[(ptr p 0), (Value.int .i64 ((i : Nat) : Int)), (Value.bool false)] w (fun v' w' => Below w.heap.size w w' ∧ v' = .bool false) := by
 obtain ⟨hpB, pv2, kv2, cv2, a2, b2, ca2, cb2, hx2, h22, h32, h42, h52⟩ := hV
 have hb := Below.refl w.heap.size w
 refine enter (N := 254) Try.func120 rfl rfl (by simp) fun a0 hN hd hA => ?_
 have s0 : a0.tmps.getD 0 undef = (ptr p 0) := hA 0 (by simp)
 have s1 : a0.tmps.getD 1 undef = (Value.int .i64 ((i : Nat) : Int)) := hA 1 (by simp)
 have s2 : a0.tmps.getD 2 undef = (Value.bool false) := hA 2 (by simp)
 clear hA
 refine seq_any fun K4 hK4 => one_reg (op_assign rfl (reg_nil (hK4 _ _ (seq_any fun K5 hK5 => reg_still mixed (by kernel_rfl) ?_))))
 intro w7 E6
 have z_w7 := E6.size
 have hx := hx.keep0 E6
 have oc := oc.keep0 E6
 have hx2 := hx2.keep0 E6
 have h22 := h22.keep0 E6
 have h32 := h32.keep0 E6
 have h42 := h42.keep0 E6
 have hb := below_step0 hb E6 hb.size
 refine st_step rfl (fun _ h9 => op_move (ev_base hN rfl s0) h9) ?_
 refine st_step rfl (fun _ h9 => op_nil (ev_hit hN rfl) h9) ?_
 refine st_step rfl (fun _ h9 => op_field fld115_2 (ev_hit hN rfl) h9) ?_
 refine st_step rfl (fun _ h9 => op_load1 (v := cv) one113 (ev_hit hN rfl) (hx.cell rfl) h9) ?_
 refine st_step rfl (fun _ h9 => op_move (ev_base hN rfl s1) h9) ?_
 refine st_index_rd slt113 (ev_hit hN rfl) oc.rdw (ev_hit hN rfl) (by omega) (by omega) ?_
 intro b8 o10 h0b8 h1b8 hc11
 refine st_step rfl (fun _ h9 => op_load1 (v := (ptr (P.getD i default) 0)) one69 (ev_hit hN rfl) (by have := hc11 0 (ptr (P.getD i default) 0) (by decide) (el_pn (i := i) (by omega) (by first | omega | (simp only [List.length_drop, List.length_take]; omega))); simpa using this) h9) ?_
 refine st_step rfl (fun _ h9 => op_move (ev_base hN rfl s0) h9) ?_
 refine st_step rfl (fun _ h9 => op_nil (ev_hit hN rfl) h9) ?_
 refine st_step rfl (fun _ h9 => op_field fld115_2 (ev_hit hN rfl) h9) ?_
 refine st_step rfl (fun _ h9 => op_load1 (v := cv) one113 (ev_hit hN rfl) (hx.cell rfl) h9) ?_
 refine st_step rfl (fun _ h9 => op_move (ev_base hN rfl s1) h9) ?_
 refine st_step rfl (fun _ h9 => op_add (ev_hit hN rfl) rfl (add64 (by omega)) h9) ?_
 refine st_index_rd slt113 (ev_hit hN rfl) oc.rdw (ev_hit hN rfl) (by omega) (by omega) ?_
 intro b12 o13 h0b12 h1b12 hc14
 refine st_step rfl (fun _ h9 => op_load1 (v := (ptr (P.getD (i + 1) default) 0)) one69 (ev_hit hN rfl) (by have := hc14 0 (ptr (P.getD (i + 1) default) 0) (by decide) (el_pn (i := (i + 1)) (by omega) (by first | omega | (simp only [List.length_drop, List.length_take]; omega))); simpa using this) h9) ?_
 refine st_step rfl (fun _ h9 => op_assign (ev_hit hN rfl) h9) ?_
 refine st_step rfl (fun _ h9 => op_assign (ev_hit hN rfl) h9) ?_
 refine st_nil ?_
 refine hK5 _ _ (seq_any fun K15 hK15 => one_reg (op_move (ev_hit hN rfl) (op_assign (ev_hit hN rfl) (reg_nil (hK15 _ _ ?_)))))
 refine seq_any fun K16 hK16 => seq_any fun K17 hK17 => one_reg (op_move (ev_base hN rfl s2) (reg_nil (hK17 _ _ (wp_cond_false (ev_hit hN rfl) ?_))))
 refine wp_skip (hK16 _ _ (seq_any fun K18 hK18 => seq_any fun K19 hK19 => one_reg (op_move (ev_hit hN rfl) (op_fn (vs := [(ptr (P.getD i default) 0)]) ok52 ⟨(ev_hit hN rfl), trivial⟩ (Ret.flip (sizeUI hx2 h22 h32 h42 h52)) ?_))))
 rintro _ _ ⟨rfl, rfl⟩
 refine op_leq (ev_hit hN rfl) rfl (fun c32 => ?_) (fun c32 => ?_)
 ·
  refine reg_nil (hK19 _ _ ?_)
  refine wp_cond_true (ev_hit hN rfl) (seq_any fun K20 hK20 => one_reg (op_assign rfl (reg_nil (hK20 _ _ (wp_ret (then_ret ( ?_)))))))
  refine ret1 rfl hd (ev_hit hN rfl) ⟨_, rfl, ?_⟩
  exact ⟨hb, rfl⟩
 ·
  exfalso; omega
theorem lendsT {h i p : Nat} {R W G : Nat → Prop} {kv cv : Value} {K : List DK} {P : List Nat} {cs : List (Tr Int h)} {w : World} {left : Bool} (hNd : NodeR kI R w p kv cv K P G W) (hKs : KidsR kI R w h P cs G) (hlen : cs.length = K.length + 1) (hsh : ∀ c ∈ cs, Ok h c ∧ szT h c ≤ 7) (hi : i < K.length) (hn : K.length ≤ 7) (hl : 3 < lender h cs i left) :
    Ret Try.prog 120 #[ptr p 0, .int .i64 ((i : Nat) : Int), .bool left] w (fun v' w' => Gr w w' W ∧ v' = .bool true ∧ ∃ W', TreeR kI R w' (h + 1) p (lendT h (K.map Prod.snd) cs i left) W' ∧ NewF w.heap.size W W') := by
  have hPc : P.length = cs.length := Kids.len hKs
  obtain ⟨a, ha⟩ : ∃ a, cs[i]? = some a := ⟨_, List.getElem?_eq_getElem (by omega)⟩
  obtain ⟨b, hb9⟩ : ∃ b, cs[i + 1]? = some b := ⟨_, List.getElem?_eq_getElem (by omega)⟩
  obtain ⟨f, g, G0, hA, hB, hr, d1, d2, d3, s1, s2, s3⟩ := Kids.cut2 hKs ha hb9
  obtain ⟨oa, za⟩ := hsh a (List.mem_of_getElem? ha)
  obtain ⟨ob, zb⟩ := hsh b (List.mem_of_getElem? hb9)
  have ga : cs.getD i default = a := getD_of ha
  have gb : cs.getD (i + 1) default = b := getD_of hb9
  cases h with
  | zero =>
    obtain ⟨av, Da, hLa, ea⟩ := hA
    obtain ⟨bv, Db, hLb, eb⟩ := hB
    have ea' : ((Da.map Prod.snd : List (Ky × Int)) : Tr Int 0) = a := ea
    have eb' : ((Db.map Prod.snd : List (Ky × Int)) : Tr Int 0) = b := eb
    subst ea'; subst eb'
    have za' : Da.length ≤ 7 := by have q : (Da.map Prod.snd).length ≤ 7 := za; simpa using q
    have zb' : Db.length ≤ 7 := by have q : (Db.map Prod.snd).length ≤ 7 := zb; simpa using q
    cases left with
    | true => exact lendLL hNd d1 d2 d3 s1 s2 s3 (by omega) hi hn hLa hLb hr hPc ha hb9 za' zb' (by have q : 3 < szT 0 (cs.getD (i + 1) default) := hl; rw [gb] at q; have q : 3 < (Db.map Prod.snd).length := q; simpa using q)
    | false => exact lendLR hNd d1 d2 d3 s1 s2 s3 (by omega) hi hn hLa hLb hr hPc ha hb9 za' zb' (by have q : 3 < szT 0 (cs.getD i default) := hl; rw [ga] at q; have q : 3 < (Da.map Prod.snd).length := q; simpa using q)
  | succ h =>
    obtain ⟨ka, ca, Ka, Pa, Ga, hNa, hKa, ea⟩ := hA
    obtain ⟨kb, cb, Kb, Pb, Gb, hNb, hKb, eb⟩ := hB
    obtain ⟨kla, ta⟩ := a
    obtain ⟨klb, tb⟩ := b
    have ea' : Ka.map Prod.snd = kla := ea
    have eb' : Kb.map Prod.snd = klb := eb
    subst ea'; subst eb'
    have la : ta.length = Ka.length + 1 := by have q := (ok_node.1 oa).1.1; simpa using q
    have lb : tb.length = Kb.length + 1 := by have q := (ok_node.1 ob).1.1; simpa using q
    have za' : Ka.length ≤ 7 := by have q : (Ka.map Prod.snd).length ≤ 7 := za; simpa using q
    have zb' : Kb.length ≤ 7 := by have q : (Kb.map Prod.snd).length ≤ 7 := zb; simpa using q
    cases left with
    | true => exact lendNL hNd d1 d2 d3 s1 s2 s3 (by omega) hi hn hNa hKa hNb hKb hr hPc ha hb9 la lb za' zb' (by have q : 3 < szT (h + 1) (cs.getD (i + 1) default) := hl; rw [gb] at q; have q : 3 < (Kb.map Prod.snd).length := q; simpa using q)
    | false => exact lendNR hNd d1 d2 d3 s1 s2 s3 (by omega) hi hn hNa hKa hNb hKb hr hPc ha hb9 la lb za' zb' (by have q : 3 < szT (h + 1) (cs.getD i default) := hl; rw [ga] at q; have q : 3 < (Ka.map Prod.snd).length := q; simpa using q)
theorem viewT {h p : Nat} {R W : Nat → Prop} {t : Tr Int h} {w : World} (T : TreeR kI R w h p t W) (O : Ok h t) : ∃ L, NodeV kI w.heap.size w p (szT h t) L := by
  cases h with
  | zero => exact ⟨[], leaf_view T⟩
  | succ h => obtain ⟨L, G, hV, _⟩ := node_view T (ok_node.1 O).1.1; exact ⟨L, hV⟩
theorem lendsF {h i p : Nat} {R W G : Nat → Prop} {kv cv : Value} {K : List DK} {P : List Nat} {cs : List (Tr Int h)} {w : World} {left : Bool} (hNd : NodeR kI R w p kv cv K P G W) (hKs : KidsR kI R w h P cs G) (hlen : cs.length = K.length + 1) (hsh : ∀ c ∈ cs, Ok h c ∧ szT h c ≤ 7) (hi : i < K.length) (hn : K.length ≤ 7) (hl : ¬ 3 < lender h cs i left) :
    Ret Try.prog 120 #[ptr p 0, .int .i64 ((i : Nat) : Int), .bool left] w (fun v' w' => Below w.heap.size w w' ∧ v' = .bool false) := by
  have hPc : P.length = cs.length := Kids.len hKs
  have V : ∀ j, j < cs.length → ∃ L, NodeV kI w.heap.size w (P.getD j default) (szT h (cs.getD j default)) L := fun j hj => by
    have hc : cs[j]? = some (cs[j]) := List.getElem?_eq_getElem hj
    obtain ⟨f, hf, _⟩ := Kids.get hKs hc
    rw [getD_of hc]
    exact viewT hf (hsh _ (List.mem_of_getElem? hc)).1
  cases left with
  | true => obtain ⟨L, hV⟩ := V (i + 1) (by omega); exact lend0L hNd.bx hNd.oc (by omega) (by omega) hV (by have q : ¬ 3 < szT h (cs.getD (i + 1) default) := hl; omega)
  | false => obtain ⟨L, hV⟩ := V i (by omega); exact lend0R hNd.bx hNd.oc (by omega) (by omega) hV (by have q : ¬ 3 < szT h (cs.getD i default) := hl; omega)
theorem mendL {h i j p : Nat} {R W G : Nat → Prop} {kv cv : Value} {K : List DK} {P : List Nat} {cs : List (Tr Int h)} {w : World} (hNd : NodeR kI R w p kv cv K P G W) (hKs : KidsR kI R w h P cs G) (hlen : cs.length = K.length + 1) (hsh : ∀ c ∈ cs, Ok h c ∧ szT h c ≤ 7) (hij : i = j - 1) (hi : i < K.length) (hn : K.length ≤ 7) (hl : 3 < lender h cs i (decide (j = 0))) : Ret Try.prog 88 #[(ptr p 0), (Value.int .i64 ((j : Nat) : Int))] w (fun v' w' => Gr w w' W ∧ v' = .tuple #[] ∧ ∃ W', TreeR kI R w' (h + 1) p (mendsT h ((K.map Prod.snd, cs) : Tr Int (h + 1)) j) W' ∧ NewF w.heap.size W W') := by
 have hKl : P.length = cs.length := Kids.len hKs
 have hb := Gr.refl w W
 refine enter (N := 101) Try.func88 rfl rfl (by simp) fun a0 hN hd hA => ?_
 have s0 : a0.tmps.getD 0 undef = (ptr p 0) := hA 0 (by simp)
 have s1 : a0.tmps.getD 1 undef = (Value.int .i64 ((j : Nat) : Int)) := hA 1 (by simp)
 clear hA
 refine seq_any fun K2 hK2 => one_reg (op_move (ev_base hN rfl s1) (op_sub (r := ((j : Int) - 1)) (ev_hit hN rfl) rfl ((sub64 (by omega)).trans (by omega)) ?_))
 refine op_max (r := ((i : Nat) : Int)) (ev_hit hN rfl) rfl (by split <;> omega) ?_
 refine op_assign (ev_hit hN rfl) (reg_nil (hK2 _ _ (seq_any fun K3 hK3 => seq_any fun K4 hK4 => ?_)))
 refine one_reg (op_move (ev_base hN rfl s0) (op_move (ev_hit hN rfl) (op_move (ev_base hN rfl s1) (op_eql (ev_hit hN rfl) rfl (fun c13 => ?_) (fun c13 => ?_)))))
 ·
  refine op_fn (vs := [(ptr p 0), (Value.int .i64 ((i : Nat) : Int)), (Value.bool true)]) ok120 ⟨(ev_hit hN rfl), ⟨(ev_hit hN rfl), ⟨(ev_hit hN rfl), trivial⟩⟩⟩ (lendsT (left := true) hNd hKs hlen hsh hi hn (by have q := hl; rw [decide_eq_true (show j = 0 by omega)] at q; exact q)) ?_
  rintro _ w5 ⟨E6, rfl, W9, hT9, hN9⟩
  have hb := hb.go E6 (fun _ _ h => h)
  refine reg_nil (hK4 _ _ (wp_cond_true (ev_hit hN rfl) (wp_ret (then_ret ( ?_)))))
  refine ret0 rfl hd  ⟨_, rfl, ?_⟩
  have hd9 := decide_eq_true (show j = 0 by omega)
  have hm9 := mends_lend (ks := K.map Prod.snd) (cs := cs) (i := j) (by rw [← hij]; exact hl)
  rw [hd9, ← hij] at hm9
  rw [hm9]
  exact ⟨hb, rfl, _, hT9, hN9.mono (by omega)⟩
 ·
  refine op_fn (vs := [(ptr p 0), (Value.int .i64 ((i : Nat) : Int)), (Value.bool false)]) ok120 ⟨(ev_hit hN rfl), ⟨(ev_hit hN rfl), ⟨(ev_hit hN rfl), trivial⟩⟩⟩ (lendsT (left := false) hNd hKs hlen hsh hi hn (by have q := hl; rw [decide_eq_false (show ¬ j = 0 by omega)] at q; exact q)) ?_
  rintro _ w7 ⟨E8, rfl, W9, hT9, hN9⟩
  have hb := hb.go E8 (fun _ _ h => h)
  refine reg_nil (hK4 _ _ (wp_cond_true (ev_hit hN rfl) (wp_ret (then_ret ( ?_)))))
  refine ret0 rfl hd  ⟨_, rfl, ?_⟩
  have hd9 := decide_eq_false (show ¬ j = 0 by omega)
  have hm9 := mends_lend (ks := K.map Prod.snd) (cs := cs) (i := j) (by rw [← hij]; exact hl)
  rw [hd9, ← hij] at hm9
  rw [hm9]
  exact ⟨hb, rfl, _, hT9, hN9.mono (by omega)⟩

end Go.Proofs.Ytcpfdfejojghbaa
