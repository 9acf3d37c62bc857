/- Walks, written by a program: what each function of the translation hands back. -/
import Derived.Test.YtcpfdfejojghbaaB5
namespace Go.Proofs.Ytcpfdfejojghbaa
open Go.Gx Go.RowKit
attribute [local irreducible] wpList wpStill Code.wp Calls
open Go.Bt
set_option maxHeartbeats 1000000 in
theorem lendNR {i p : Nat} {R W G f g G0 : Nat → Prop} {kv cv : Value} {K : List DK} {P : List Nat} {w : World} (hNd : NodeR kI R w p kv cv K P G W) (hfg : Dj f g) (hfG : Dj f G0) (hgG : Dj g G0) (hfs : ∀ k, f k → G k) (hgs : ∀ k, g k → G k) (hGs : ∀ k, G0 k → G k) (hPl : P.length = K.length + 1) (hi : i < K.length) (hn : K.length ≤ 7) {h : Nat} {cs : List (Tr Int (h + 1))} {ta tb : List (Tr Int h)} {ka ca kb cb : Value} {Ka Kb : List DK} {Pa Pb : List Nat} {Ga Gb : Nat → Prop} (hA : NodeR kI R w (P.getD i default) ka ca Ka Pa Ga f) (hKa : KidsR kI R w h Pa ta Ga) (hB : NodeR kI R w (P.getD (i + 1) default) kb cb Kb Pb Gb g) (hKb : KidsR kI R w h Pb tb Gb) (hr : KidsR kI R w (h + 1) ((P.eraseIdx i).eraseIdx i) ((cs.eraseIdx i).eraseIdx i) G0) (hPc : P.length = cs.length) (ha : cs[i]? = some ((Ka.map Prod.snd, ta) : Tr Int (h + 1))) (hb9 : cs[i + 1]? = some ((Kb.map Prod.snd, tb) : Tr Int (h + 1))) (hla : ta.length = Ka.length + 1) (hlb : tb.length = Kb.length + 1) (hna : Ka.length ≤ 7) (hnb : Kb.length ≤ 7) (h3 : 3 < Ka.length) : Ret Try.prog 120 #[(ptr p 0), (Value.int .i64 ((i : Nat) : Int)), (Value.bool false)] w (fun v' w' => Gr w w' W ∧ v' = .bool true ∧ ∃ W', TreeR kI R w' (h + 1 + 1) p (lendT (h + 1) (K.map Prod.snd) cs i false) W' ∧ NewF w.heap.size W W') := by
 have h0 : 0 ≤ w.heap.size := Nat.zero_le _
 have hx : Bx w p 115 [.slice none 0 0, kv, cv] := hNd.bx
 have ok := hNd.ok
 have oc : Own w 0 69 1 cv P.length (P.flatMap cN) := hNd.oc
 have ks := hNd.ks
 have hi_p := hx.lt
 have djkG : Dj (Bl kv) G0 := hNd.nk.mono hGs
 have djcG : Dj (Bl cv) G0 := hNd.nc.mono hGs
 have djpG : ¬ G0 p := fun q => hNd.np (hGs p q)
 obtain ⟨G1, G2, hkq1, hkq2, d12, su1, su2⟩ := Kids.split hKa (Ka.length - 1 + 1)
 have hxa : Bx w (P.getD i default) 115 [.slice none 0 0, ka, ca] := hA.bx
 have oka := hA.ok
 have oca : Own w 0 69 1 ca Pa.length (Pa.flatMap cN) := hA.oc
 have kas := hA.ks
 have hxb : Bx w (P.getD (i + 1) default) 115 [.slice none 0 0, kb, cb] := hB.bx
 have okb := hB.ok
 have ocb : Own w 0 69 1 cb Pb.length (Pb.flatMap cN) := hB.oc
 have kbs := hB.ks
 have hi_a := hxa.lt
 have hi_b := hxb.lt
 have hPa : Pa.length = ta.length := hKa.len
 have hPb : Pb.length = tb.length := hKb.len
 have hab : (P.getD i default) ≠ (P.getD (i + 1) default) := fun e => hfg _ hA.wp (e ▸ hB.wp)
 have hpa : p ≠ (P.getD i default) := fun e => hNd.np (e ▸ hfs _ hA.wp)
 have hpb : p ≠ (P.getD (i + 1) default) := fun e => hNd.np (e ▸ hgs _ hB.wp)
 have dk3 : DJ kv ka := fun k h1 h2 => hNd.nk k h1 (hfs k (hA.wk k h2))
 have dk4 : DJ kv kb := fun k h1 h2 => hNd.nk k h1 (hgs k (hB.wk k h2))
 have dk5 : DJ cv ca := fun k h1 h2 => hNd.nc k h1 (hfs k (hA.wc k h2))
 have dk6 : DJ cv cb := fun k h1 h2 => hNd.nc k h1 (hgs k (hB.wc k h2))
 have dk7 : DJ ka kb := fun k h1 h2 => hfg k (hA.wk k h1) (hB.wk k h2)
 have dk8 : DJ ca cb := fun k h1 h2 => hfg k (hA.wc k h1) (hB.wc k h2)
 have dk9 : Dj (Bl ka) G0 := fun k h1 h2 => hfG k (hA.wk k h1) h2
 have dk10 : Dj (Bl ca) G0 := fun k h1 h2 => hfG k (hA.wc k h1) h2
 have dk11 : Dj (Bl kb) G0 := fun k h1 h2 => hgG k (hB.wk k h1) h2
 have dk12 : Dj (Bl cb) G0 := fun k h1 h2 => hgG k (hB.wc k h1) h2
 have dk13 : ¬ G0 (P.getD i default) := hfG _ hA.wp
 have dk14 : ¬ G0 (P.getD (i + 1) default) := hgG _ hB.wp
 have dk15 : Dj (Bl kv) Gb := hNd.nk.mono fun k q => hgs k (hB.wg k ((fun _ q => q) k q))
 have dk16 : Dj (Bl cv) Gb := hNd.nc.mono fun k q => hgs k (hB.wg k ((fun _ q => q) k q))
 have dk17 : ¬ Gb p := fun q => hNd.np (hgs _ (hB.wg _ ((fun _ q => q) _ q)))
 have dk18 : Dj (Bl ka) Gb := fun k h1 h2 => hfg k (hA.wk k h1) (hB.wg k ((fun _ q => q) k h2))
 have dk19 : Dj (Bl ca) Gb := fun k h1 h2 => hfg k (hA.wc k h1) (hB.wg k ((fun _ q => q) k h2))
 have dk20 : Dj (Bl kb) Gb := hB.nk.mono (fun _ q => q)
 have dk21 : Dj (Bl cb) Gb := hB.nc.mono (fun _ q => q)
 have dk22 : ¬ Gb (P.getD i default) := fun q => hfg _ hA.wp (hB.wg _ ((fun _ q => q) _ q))
 have dk23 : ¬ Gb (P.getD (i + 1) default) := fun q => hB.np ((fun _ q => q) _ q)
 have dk24 : Dj Gb G0 := fun k h1 h2 => hgG k (hB.wg k ((fun _ q => q) k h1)) h2
 have dk25 : Dj (Bl kv) G1 := hNd.nk.mono fun k q => hfs k (hA.wg k (su1 k q))
 have dk26 : Dj (Bl cv) G1 := hNd.nc.mono fun k q => hfs k (hA.wg k (su1 k q))
 have dk27 : ¬ G1 p := fun q => hNd.np (hfs _ (hA.wg _ (su1 _ q)))
 have dk28 : Dj (Bl ka) G1 := hA.nk.mono su1
 have dk29 : Dj (Bl ca) G1 := hA.nc.mono su1
 have dk30 : Dj (Bl kb) G1 := fun k h1 h2 => hfg k (hA.wg k (su1 k h2)) (hB.wk k h1)
 have dk31 : Dj (Bl cb) G1 := fun k h1 h2 => hfg k (hA.wg k (su1 k h2)) (hB.wc k h1)
 have dk32 : ¬ G1 (P.getD i default) := fun q => hA.np (su1 _ q)
 have dk33 : ¬ G1 (P.getD (i + 1) default) := fun q => hfg _ (hA.wg _ (su1 _ q)) hB.wp
 have dk34 : Dj G1 G0 := fun k h1 h2 => hfG k (hA.wg k (su1 k h1)) h2
 have dk35 : Dj (Bl kv) G2 := hNd.nk.mono fun k q => hfs k (hA.wg k (su2 k q))
 have dk36 : Dj (Bl cv) G2 := hNd.nc.mono fun k q => hfs k (hA.wg k (su2 k q))
 have dk37 : ¬ G2 p := fun q => hNd.np (hfs _ (hA.wg _ (su2 _ q)))
 have dk38 : Dj (Bl ka) G2 := hA.nk.mono su2
 have dk39 : Dj (Bl ca) G2 := hA.nc.mono su2
 have dk40 : Dj (Bl kb) G2 := fun k h1 h2 => hfg k (hA.wg k (su2 k h2)) (hB.wk k h1)
 have dk41 : Dj (Bl cb) G2 := fun k h1 h2 => hfg k (hA.wg k (su2 k h2)) (hB.wc k h1)
 have dk42 : ¬ G2 (P.getD i default) := fun q => hA.np (su2 _ q)
 have dk43 : ¬ G2 (P.getD (i + 1) default) := fun q => hfg _ (hA.wg _ (su2 _ q)) hB.wp
 have dk44 : Dj G2 G0 := fun k h1 h2 => hfG k (hA.wg k (su2 k h1)) h2
 have dk45 : Dj G1 Gb := fun k h1 h2 => hfg k (hA.wg k (su1 k h1)) (hB.wg k ((fun _ q => q) k h2))
 have dk46 : Dj G2 Gb := fun k h1 h2 => hfg k (hA.wg k (su2 k h1)) (hB.wg k ((fun _ q => q) k h2))
 have hkq1 : KidsR kI R w h (Pa.take (Ka.length - 1 + 1)) (ta.take (Ka.length - 1 + 1)) G1 := hkq1
 have hkq2 : KidsR kI R w h (Pa.drop (Ka.length - 1 + 1)) (ta.drop (Ka.length - 1 + 1)) G2 := hkq2
 obtain ⟨cka, hcka1, hcka2, hcka3⟩ := oka.cap
 obtain ⟨cca, hcca1, hcca2, hcca3⟩ := oca.cap
 have hb := Gr.refl w W
 refine enter (N := 254) Try.func120 rfl rfl (by simp) fun a0 hN hd hA => ?_
 have s0 : a0.tmps.getD 0 undef = (ptr p 0) := hA 0 (by simp)
 have s1 : a0.tmps.getD 1 undef = (Value.int .i64 ((i : Nat) : Int)) := hA 1 (by simp)
 have s2 : a0.tmps.getD 2 undef = (Value.bool false) := hA 2 (by simp)
 clear hA
 refine seq_any fun K248 hK248 => ?_
 refine one_reg ?_
 refine op_assign rfl ?_
 refine reg_nil ?_
 refine hK248 _ _ ?_
 refine seq_any fun K249 hK249 => ?_
 refine reg_still mixed (by kernel_rfl) ?_
 intro w251 E250
 have z_w251 := E250.size
 have hx := hx.keep0 E250
 have ok := ok.keep0 E250
 have oc := oc.keep0 E250
 have ks : ∀ x9 ∈ K, Own w251 0 5 1 x9.1 x9.2.length (x9.2.map u8v) := fun x9 hx9 => (ks x9 hx9).keep0 E250
 have hxa := hxa.keep0 E250
 have hxb := hxb.keep0 E250
 have oka := oka.keep0 E250
 have okb := okb.keep0 E250
 have oca := oca.keep0 E250
 have ocb := ocb.keep0 E250
 have kas : ∀ x9 ∈ Ka, Own w251 0 5 1 x9.1 x9.2.length (x9.2.map u8v) := fun x9 hx9 => (kas x9 hx9).keep0 E250
 have kbs : ∀ x9 ∈ Kb, Own w251 0 5 1 x9.1 x9.2.length (x9.2.map u8v) := fun x9 hx9 => (kbs x9 hx9).keep0 E250
 have hr := hr.keepG (Gr.of0 E250 NoB) (fun _ _ h => h) (NoK.no _)
 have hKb := hKb.keepG (Gr.of0 E250 NoB) (fun _ _ h => h) (NoK.no _)
 have hkq1 := hkq1.keepG (Gr.of0 E250 NoB) (fun _ _ h => h) (NoK.no _)
 have hkq2 := hkq2.keepG (Gr.of0 E250 NoB) (fun _ _ h => h) (NoK.no _)
 have hb := hb.step0 E250
 refine st_step rfl (fun _ h9 => op_move (ev_base hN rfl s0) h9) ?_
 refine st_step rfl (fun _ h9 => op_nil (ev_hit hN rfl) h9) ?_
 refine st_step rfl (fun _ h9 => op_field fld115_2 (ev_hit hN rfl) h9) ?_
 refine st_step rfl (fun _ h9 => op_load1 (v := cv) one113 (ev_hit hN rfl) (hx.cell rfl) h9) ?_
 refine st_step rfl (fun _ h9 => op_move (ev_base hN rfl s1) h9) ?_
 refine st_index_rd slt113 (ev_hit hN rfl) oc.rdw (ev_hit hN rfl) (by omega) (by omega) ?_
 intro b252 o253 h0b252 h1b252 hc254
 refine st_step rfl (fun _ h9 => op_load1 (v := (ptr (P.getD i default) 0)) one69 (ev_hit hN rfl) (by have := hc254 0 (ptr (P.getD i default) 0) (by decide) (el_pn (i := i) (by omega) (by first | omega | (simp only [List.length_drop, List.length_take]; omega))); simpa using this) h9) ?_
 refine st_step rfl (fun _ h9 => op_move (ev_base hN rfl s0) h9) ?_
 refine st_step rfl (fun _ h9 => op_nil (ev_hit hN rfl) h9) ?_
 refine st_step rfl (fun _ h9 => op_field fld115_2 (ev_hit hN rfl) h9) ?_
 refine st_step rfl (fun _ h9 => op_load1 (v := cv) one113 (ev_hit hN rfl) (hx.cell rfl) h9) ?_
 refine st_step rfl (fun _ h9 => op_move (ev_base hN rfl s1) h9) ?_
 refine st_step rfl (fun _ h9 => op_add (ev_hit hN rfl) rfl (add64 (by omega)) h9) ?_
 refine st_index_rd slt113 (ev_hit hN rfl) oc.rdw (ev_hit hN rfl) (by omega) (by omega) ?_
 intro b255 o256 h0b255 h1b255 hc257
 refine st_step rfl (fun _ h9 => op_load1 (v := (ptr (P.getD (i + 1) default) 0)) one69 (ev_hit hN rfl) (by have := hc257 0 (ptr (P.getD (i + 1) default) 0) (by decide) (el_pn (i := (i + 1)) (by omega) (by first | omega | (simp only [List.length_drop, List.length_take]; omega))); simpa using this) h9) ?_
 refine st_step rfl (fun _ h9 => op_assign (ev_hit hN rfl) h9) ?_
 refine st_step rfl (fun _ h9 => op_assign (ev_hit hN rfl) h9) ?_
 refine st_nil ?_
 refine hK249 _ _ ?_
 refine seq_any fun K258 hK258 => ?_
 refine one_reg ?_
 refine op_move (ev_hit hN rfl) ?_
 refine op_assign (ev_hit hN rfl) ?_
 refine reg_nil ?_
 refine hK258 _ _ ?_
 refine seq_any fun K259 hK259 => ?_
 refine seq_any fun K260 hK260 => ?_
 refine one_reg ?_
 refine op_move (ev_base hN rfl s2) ?_
 refine reg_nil ?_
 refine hK260 _ _ ?_
 refine wp_cond_false (ev_hit hN rfl) ?_
 refine wp_skip ?_
 refine hK259 _ _ ?_
 refine seq_any fun K261 hK261 => ?_
 refine seq_any fun K262 hK262 => ?_
 refine one_reg ?_
 refine op_move (ev_hit hN rfl) ?_
 refine op_fn (vs := [(ptr (P.getD i default) 0)]) ok52 ⟨(ev_hit hN rfl), trivial⟩ (Ret.flip (sizeNI hxa oka oca (by omega) (by omega))) ?_
 rintro _ _ ⟨rfl, rfl⟩
 refine op_leq (ev_hit hN rfl) rfl (fun c32 => ?_) (fun c32 => ?_)
 · -- 32T
  exfalso; omega
 · -- 32F
  refine reg_nil ?_
  refine hK262 _ _ ?_
  refine wp_cond_false (ev_hit hN rfl) ?_
  refine wp_skip ?_
  refine hK261 _ _ ?_
  refine seq_any fun K263 hK263 => ?_
  refine wp_block ?_
  refine seq_any fun K264 hK264 => ?_
  refine one_reg ?_
  refine op_move (ev_hit hN rfl) ?_
  refine op_fn (vs := [(ptr (P.getD i default) 0)]) ok81 ⟨(ev_hit hN rfl), trivial⟩ (Ret.flip (leafNI hxa oka oca (by omega) (by omega))) ?_
  rintro _ _ ⟨rfl, rfl⟩
  refine op_move (ev_hit hN rfl) ?_
  refine g_false (j := 2) (dj := 107) (b := true) rfl rfl rfl (ev_hit hN rfl) rfl rfl ?_
  refine op_pick_f (ev_hit hN rfl) rfl ?_
  refine op_assign (ev_hit hN rfl) ?_
  refine reg_nil ?_
  refine hK264 _ _ ?_
  refine wp_cond_false (ev_hit hN rfl) ?_
  refine seq_any fun K265 hK265 => ?_
  refine one_reg ?_
  refine op_move (ev_hit hN rfl) ?_
  refine op_fn (vs := [(ptr (P.getD i default) 0)]) ok81 ⟨(ev_hit hN rfl), trivial⟩ (Ret.flip (leafNI hxa oka oca (by omega) (by omega))) ?_
  rintro _ _ ⟨rfl, rfl⟩
  refine op_assign (ev_hit hN rfl) ?_
  refine reg_nil ?_
  refine hK265 _ _ ?_
  refine wp_cond_false (ev_hit hN rfl) ?_
  refine seq_any fun K266 hK266 => ?_
  refine one_reg ?_
  refine op_move (ev_base hN rfl s2) ?_
  refine op_assign (ev_hit hN rfl) ?_
  refine reg_nil ?_
  refine hK266 _ _ ?_
  refine wp_cond_false (ev_hit hN rfl) ?_
  refine seq_any fun K267 hK267 => ?_
  refine one_reg ?_
  refine op_move (ev_hit hN rfl) ?_
  refine op_nil (ev_hit hN rfl) ?_
  refine op_field fld115_1 (ev_hit hN rfl) ?_
  refine op_load1 (v := ka) one90 (ev_hit hN rfl) (hxa.cell rfl) ?_
  refine op_len_rd Try.underlying90 (ev_hit hN rfl) oka.rdw ?_
  refine op_sub (r := ((Ka.length - 1 : Nat) : Int)) (ev_hit hN rfl) rfl ((sub64 (by omega)).trans (by omega)) ?_
  refine op_assign (ev_hit hN rfl) ?_
  refine reg_nil ?_
  refine hK267 _ _ ?_
  refine seq_join1 (N := 254) (fun az_ w' => ∃ (vk vc : Value), (az_.tmps.getD 0 undef = (ptr p 0)) ∧ (az_.tmps.getD 1 undef = (Value.int .i64 ((i : Nat) : Int))) ∧ (az_.tmps.getD 6 undef = (Value.bool false)) ∧ (az_.tmps.getD 7 undef = (ptr (P.getD i default) 0)) ∧ (az_.tmps.getD 11 undef = (Value.int .i64 ((Ka.length - 1 : Nat) : Int))) ∧ (DJ kv vk) ∧ (DJ ka vk) ∧ (Dj (Bl vk) G0) ∧ (Dj (Bl vk) Gb) ∧ (Dj (Bl vk) G1) ∧ (Dj (Bl vk) G2) ∧ (∀ j, j < w.heap.size → Bl vk j → W j) ∧ (DJ cv vc) ∧ (DJ ca vc) ∧ (Dj (Bl vc) G0) ∧ (Dj (Bl vc) Gb) ∧ (Dj (Bl vc) G1) ∧ (Dj (Bl vc) G2) ∧ (∀ j, j < w.heap.size → Bl vc j → W j) ∧ (Gr w w' W) ∧ (w251.heap.size ≤ w'.heap.size) ∧ (Bx w' p 115 [(Value.slice none 0 0), kv, cv]) ∧ (Own w' 0 27 1 kv K.length (K.flatMap cK)) ∧ (Own w' 0 69 1 cv P.length (P.flatMap cN)) ∧ (∀ x9 ∈ K, Own w' 0 5 1 x9.1 x9.2.length (x9.2.map u8v)) ∧ (Bx w' (P.getD i default) 115 [(Value.slice none 0 0), ka, ca]) ∧ (Own w' 0 27 1 ka Ka.length (Ka.flatMap cK)) ∧ (Own w' 0 69 1 ca Pa.length (Pa.flatMap cN)) ∧ (∀ x9 ∈ Ka, Own w' 0 5 1 x9.1 x9.2.length (x9.2.map u8v)) ∧ (∀ x9 ∈ Kb, Own w' 0 5 1 x9.1 x9.2.length (x9.2.map u8v)) ∧ (KidsR kI R w' (h + 1) ((P.eraseIdx i).eraseIdx i) ((cs.eraseIdx i).eraseIdx i) G0) ∧ (KidsR kI R w' h Pb tb Gb) ∧ (KidsR kI R w' h (Pa.take (Ka.length - 1 + 1)) (ta.take (Ka.length - 1 + 1)) G1) ∧ (KidsR kI R w' h (Pa.drop (Ka.length - 1 + 1)) (ta.drop (Ka.length - 1 + 1)) G2) ∧ (Own w' 0 27 1 vk (Kb.insertIdx 0 ((K.getD i default).1, (K.getD i default).2)).length ((Kb.insertIdx 0 ((K.getD i default).1, (K.getD i default).2)).flatMap cK)) ∧ (Own w' 0 69 1 vc (Pb.insertIdx 0 (Pa.getD (Ka.length - 1 + 1) default)).length ((Pb.insertIdx 0 (Pa.getD (Ka.length - 1 + 1) default)).flatMap cN)) ∧ (Bx w' (P.getD (i + 1) default) 115 [(Value.slice none 0 0), vk, vc])) (fun hJ283 => ?_) ?_
  ·
   refine seq_any fun K286 hK286 => ?_
   obtain ⟨b287, o288, _, hAt289⟩ := ok.atV (i := i) (by omega)
   obtain ⟨b290, o291, _, hAt292⟩ := oca.atV (i := (Ka.length - 1 + 1)) (by omega)
   refine reg_split (hd := [_, _, _, _, _, _, _, _, _, _, _, _, _, _, _, _, _, _, _, _, _, _, _, _, _, _, _, _, _, _, _, _]) (tl := _) 32 mixed (by kernel_rfl) rfl rfl ?_
   refine any_treek (φ := phiV [(fun uz => uz = (ptr (P.getD (i + 1) default) 0)), (fun uz => uz = (ptr (P.getD (i + 1) default) 0)), (fun uz => uz = (ptr (P.getD (i + 1) default) 0)), (fun uz => uz = (ptr (P.getD (i + 1) default) 0)), (fun uz => uz = (ptr (P.getD (i + 1) default) 1)), (fun uz => uz = kb), (fun uz => uz = (ptr p 0)), (fun uz => uz = (ptr p 0)), (fun uz => uz = (ptr p 1)), (fun uz => uz = kv), (fun uz => uz = (Value.int .i64 ((i : Nat) : Int))), (fun uz => uz = (ptr b287 o288)), (fun uz => uz = (K.getD i default).1), (fun _ => True), (fun _ => True), (fun uz => uz = (ptr (P.getD (i + 1) default) 0)), (fun uz => uz = (ptr (P.getD (i + 1) default) 0)), (fun uz => uz = (ptr (P.getD (i + 1) default) 2)), (fun uz => uz = cb), (fun uz => uz = (ptr (P.getD i default) 0)), (fun uz => uz = (ptr (P.getD i default) 0)), (fun uz => uz = (ptr (P.getD i default) 2)), (fun uz => uz = ca), (fun uz => uz = (Value.int .i64 ((Ka.length - 1 : Nat) : Int))), (fun uz => uz = (Value.int .i64 (((Ka.length - 1 : Nat) : Int) + 1))), (fun uz => uz = (ptr b290 o291)), (fun uz => uz = (ptr (Pa.getD (Ka.length - 1 + 1) default) 0)), (fun _ => True), (fun _ => True), (fun uz => uz = (ptr (P.getD (i + 1) default) 0)), (fun uz => uz = (ptr (P.getD (i + 1) default) 1)), (fun _ => True)]) (G := fun t9 w' => 31 ∈ t9 → (Own w' 0 27 1 kv K.length (K.flatMap cK) ∧ Own w' 0 69 1 ca Pa.length (Pa.flatMap cN) ∧ Bx w' (P.getD (i + 1) default) 115 [(Value.slice none 0 0), kb, cb] ∧ Bx w' p 115 [(Value.slice none 0 0), kv, cv] ∧ Bx w' (P.getD i default) 115 [(Value.slice none 0 0), ka, ca])) [13, 14, 27, 28, 31] (by kernel_rfl) (by kernel_rfl) (by kernel_rfl) (by kernel_rfl) (by kernel_rfl) hN (fun _ w1 w2 E h hc9 => by have h := h hc9; obtain ⟨h0, h1, h2, h3, h4⟩ := h; exact ⟨h0.keep0 E, h1.keep0 E, h2.keep0 E, h3.keep0 E, h4.keep0 E⟩) (fun _ => ⟨ok, oca, hxb, hx, hxa⟩) (ObRk9.cons ?_ (ObRk9.cons ?_ (ObRk9.cons ?_ (ObRk9.cons ?_ (ObRk9.cons ?_ (ObRk9.cons ?_ (ObRk9.cons ?_ (ObRk9.cons ?_ (ObRk9.cons ?_ (ObRk9.cons ?_ (ObRk9.cons ?_ (ObRk9.cons ?_ (ObRk9.cons ?_ (ObRk9.pass rfl (ObRk9.pass rfl (ObRk9.cons ?_ (ObRk9.cons ?_ (ObRk9.cons ?_ (ObRk9.cons ?_ (ObRk9.cons ?_ (ObRk9.cons ?_ (ObRk9.cons ?_ (ObRk9.cons ?_ (ObRk9.cons ?_ (ObRk9.cons ?_ (ObRk9.cons ?_ (ObRk9.cons ?_ (ObRk9.pass rfl (ObRk9.pass rfl (ObRk9.cons ?_ (ObRk9.cons ?_ (ObRk9.pass rfl (ObRk9.nil))))))))))))))))))))))))))))))))) (by simp only [putsL_defers]) ?_
   ·
    intro eA tA aA wA hNA hckA hGA hbsA hdpA
    have qA_8 := (hbsA 8 rfl).trans (sl_hit hN rfl)
    refine op_move (ev_base hNA rfl qA_8) ?_
    exact obTk_end rfl rfl
   ·
    intro eA tA aA wA hNA hckA hGA hbsA hdpA
    have qA_8 := (hbsA 8 rfl).trans (sl_hit hN rfl)
    refine op_move (ev_base hNA rfl qA_8) ?_
    exact obTk_end rfl rfl
   ·
    intro eA tA aA wA hNA hckA hGA hbsA hdpA
    have qA_8 := (hbsA 8 rfl).trans (sl_hit hN rfl)
    refine op_move (ev_base hNA rfl qA_8) ?_
    exact obTk_end rfl rfl
   ·
    intro eA tA aA wA hNA hckA hGA hbsA hdpA
    have qA_41 : Sl aA 41 (ptr (P.getD (i + 1) default) 0) := (hdpA 2 _ 41 (by kernel_rfl) rfl rfl).2 rfl
    refine op_nil (ev_base hNA rfl qA_41) ?_
    exact obTk_end rfl rfl
   ·
    intro eA tA aA wA hNA hckA hGA hbsA hdpA
    have qA_42 : Sl aA 42 (ptr (P.getD (i + 1) default) 0) := (hdpA 3 _ 42 (by kernel_rfl) rfl rfl).2 rfl
    refine op_field fld115_1 (ev_base hNA rfl qA_42) ?_
    exact obTk_end rfl rfl
   ·
    intro eA tA aA wA hNA hckA hGA hbsA hdpA
    have qA_43 : Sl aA 43 (ptr (P.getD (i + 1) default) 1) := (hdpA 4 _ 43 (by kernel_rfl) rfl rfl).2 rfl
    have hGA := hGA (hckA 31 rfl (by kernel_rfl))
    obtain ⟨ok, oca, hxb, hx, hxa⟩ := hGA
    refine op_load1 (v := kb) one90 (ev_base hNA rfl qA_43) (hxb.cell rfl) ?_
    exact obTk_end rfl rfl
   ·
    intro eA tA aA wA hNA hckA hGA hbsA hdpA
    have qA_0 := (hbsA 0 rfl).trans (sl_base hN rfl s0)
    refine op_move (ev_base hNA rfl qA_0) ?_
    exact obTk_end rfl rfl
   ·
    intro eA tA aA wA hNA hckA hGA hbsA hdpA
    have qA_45 : Sl aA 45 (ptr p 0) := (hdpA 6 _ 45 (by kernel_rfl) rfl rfl).2 rfl
    refine op_nil (ev_base hNA rfl qA_45) ?_
    exact obTk_end rfl rfl
   ·
    intro eA tA aA wA hNA hckA hGA hbsA hdpA
    have qA_46 : Sl aA 46 (ptr p 0) := (hdpA 7 _ 46 (by kernel_rfl) rfl rfl).2 rfl
    refine op_field fld115_1 (ev_base hNA rfl qA_46) ?_
    exact obTk_end rfl rfl
   ·
    intro eA tA aA wA hNA hckA hGA hbsA hdpA
    have qA_47 : Sl aA 47 (ptr p 1) := (hdpA 8 _ 47 (by kernel_rfl) rfl rfl).2 rfl
    have hGA := hGA (hckA 31 rfl (by kernel_rfl))
    obtain ⟨ok, oca, hxb, hx, hxa⟩ := hGA
    refine op_load1 (v := kv) one90 (ev_base hNA rfl qA_47) (hx.cell rfl) ?_
    exact obTk_end rfl rfl
   ·
    intro eA tA aA wA hNA hckA hGA hbsA hdpA
    have qA_1 := (hbsA 1 rfl).trans (sl_base hN rfl s1)
    refine op_move (ev_base hNA rfl qA_1) ?_
    exact obTk_end rfl rfl
   ·
    intro eA tA aA wA hNA hckA hGA hbsA hdpA
    have qA_48 : Sl aA 48 kv := (hdpA 9 _ 48 (by kernel_rfl) rfl rfl).2 rfl
    have qA_49 : Sl aA 49 (Value.int .i64 ((i : Nat) : Int)) := (hdpA 10 _ 49 (by kernel_rfl) rfl rfl).2 rfl
    refine op_index_at (i := i) slt90 (ev_base hNA rfl qA_48) ok (ev_base hNA rfl qA_49) (by omega) (by omega) hAt289 ?_
    exact obTk_end rfl rfl
   ·
    intro eA tA aA wA hNA hckA hGA hbsA hdpA
    have qA_50 : Sl aA 50 (ptr b287 o288) := (hdpA 11 _ 50 (by kernel_rfl) rfl rfl).2 rfl
    have hGA := hGA (hckA 31 rfl (by kernel_rfl))
    obtain ⟨ok, oca, hxb, hx, hxa⟩ := hGA
    refine op_load1 (v := (K.getD i default).1) one27 (ev_base hNA rfl qA_50) (ok.cellAt hAt289 0 _ (el_kd (e := ((i : Nat) : Int)) (i := i) rfl (by omega))) ?_
    exact obTk_end rfl rfl
   ·
    intro eA tA aA wA hNA hckA hGA hbsA hdpA
    have qA_8 := (hbsA 8 rfl).trans (sl_hit hN rfl)
    refine op_move (ev_base hNA rfl qA_8) ?_
    exact obTk_end rfl rfl
   ·
    intro eA tA aA wA hNA hckA hGA hbsA hdpA
    have qA_54 : Sl aA 54 (ptr (P.getD (i + 1) default) 0) := (hdpA 15 _ 54 (by kernel_rfl) rfl rfl).2 rfl
    refine op_nil (ev_base hNA rfl qA_54) ?_
    exact obTk_end rfl rfl
   ·
    intro eA tA aA wA hNA hckA hGA hbsA hdpA
    have qA_55 : Sl aA 55 (ptr (P.getD (i + 1) default) 0) := (hdpA 16 _ 55 (by kernel_rfl) rfl rfl).2 rfl
    refine op_field fld115_2 (ev_base hNA rfl qA_55) ?_
    exact obTk_end rfl rfl
   ·
    intro eA tA aA wA hNA hckA hGA hbsA hdpA
    have qA_56 : Sl aA 56 (ptr (P.getD (i + 1) default) 2) := (hdpA 17 _ 56 (by kernel_rfl) rfl rfl).2 rfl
    have hGA := hGA (hckA 31 rfl (by kernel_rfl))
    obtain ⟨ok, oca, hxb, hx, hxa⟩ := hGA
    refine op_load1 (v := cb) one113 (ev_base hNA rfl qA_56) (hxb.cell rfl) ?_
    exact obTk_end rfl rfl
   ·
    intro eA tA aA wA hNA hckA hGA hbsA hdpA
    have qA_7 := (hbsA 7 rfl).trans (sl_hit hN rfl)
    refine op_move (ev_base hNA rfl qA_7) ?_
    exact obTk_end rfl rfl
   ·
    intro eA tA aA wA hNA hckA hGA hbsA hdpA
    have qA_58 : Sl aA 58 (ptr (P.getD i default) 0) := (hdpA 19 _ 58 (by kernel_rfl) rfl rfl).2 rfl
    refine op_nil (ev_base hNA rfl qA_58) ?_
    exact obTk_end rfl rfl
   ·
    intro eA tA aA wA hNA hckA hGA hbsA hdpA
    have qA_59 : Sl aA 59 (ptr (P.getD i default) 0) := (hdpA 20 _ 59 (by kernel_rfl) rfl rfl).2 rfl
    refine op_field fld115_2 (ev_base hNA rfl qA_59) ?_
    exact obTk_end rfl rfl
   ·
    intro eA tA aA wA hNA hckA hGA hbsA hdpA
    have qA_60 : Sl aA 60 (ptr (P.getD i default) 2) := (hdpA 21 _ 60 (by kernel_rfl) rfl rfl).2 rfl
    have hGA := hGA (hckA 31 rfl (by kernel_rfl))
    obtain ⟨ok, oca, hxb, hx, hxa⟩ := hGA
    refine op_load1 (v := ca) one113 (ev_base hNA rfl qA_60) (hxa.cell rfl) ?_
    exact obTk_end rfl rfl
   ·
    intro eA tA aA wA hNA hckA hGA hbsA hdpA
    have qA_11 := (hbsA 11 rfl).trans (sl_hit hN rfl)
    refine op_move (ev_base hNA rfl qA_11) ?_
    exact obTk_end rfl rfl
   ·
    intro eA tA aA wA hNA hckA hGA hbsA hdpA
    have qA_62 : Sl aA 62 (Value.int .i64 ((Ka.length - 1 : Nat) : Int)) := (hdpA 23 _ 62 (by kernel_rfl) rfl rfl).2 rfl
    refine op_add (ev_base hNA rfl qA_62) rfl (add64 (by omega)) ?_
    exact obTk_end rfl rfl
   ·
    intro eA tA aA wA hNA hckA hGA hbsA hdpA
    have qA_61 : Sl aA 61 ca := (hdpA 22 _ 61 (by kernel_rfl) rfl rfl).2 rfl
    have qA_63 : Sl aA 63 (Value.int .i64 (((Ka.length - 1 : Nat) : Int) + 1)) := (hdpA 24 _ 63 (by kernel_rfl) rfl rfl).2 rfl
    refine op_index_at (i := (Ka.length - 1 + 1)) slt113 (ev_base hNA rfl qA_61) oca (ev_base hNA rfl qA_63) (by omega) (by omega) hAt292 ?_
    exact obTk_end rfl rfl
   ·
    intro eA tA aA wA hNA hckA hGA hbsA hdpA
    have qA_64 : Sl aA 64 (ptr b290 o291) := (hdpA 25 _ 64 (by kernel_rfl) rfl rfl).2 rfl
    have hGA := hGA (hckA 31 rfl (by kernel_rfl))
    obtain ⟨ok, oca, hxb, hx, hxa⟩ := hGA
    refine op_load1 (v := (ptr (Pa.getD (Ka.length - 1 + 1) default) 0)) one69 (ev_base hNA rfl qA_64) (oca.cellAt hAt292 0 _ (el_pn (e := (((Ka.length - 1 + 1) : Nat) : Int)) (i := (Ka.length - 1 + 1)) rfl (by omega))) ?_
    exact obTk_end rfl rfl
   ·
    intro eA tA aA wA hNA hckA hGA hbsA hdpA
    have qA_39 : Sl aA 39 (ptr (P.getD (i + 1) default) 0) := (hdpA 0 _ 39 (by kernel_rfl) rfl rfl).2 rfl
    refine op_nil (ev_base hNA rfl qA_39) ?_
    exact obTk_end rfl rfl
   ·
    intro eA tA aA wA hNA hckA hGA hbsA hdpA
    have qA_68 : Sl aA 68 (ptr (P.getD (i + 1) default) 0) := (hdpA 29 _ 68 (by kernel_rfl) rfl rfl).2 rfl
    refine op_field fld115_1 (ev_base hNA rfl qA_68) ?_
    exact obTk_end rfl rfl
   ·
    refine ktk_step (rs := [13, 27]) (by kernel_rfl) ?_
    refine more_mem ?_ ?_
    · -- first 13
     intro w294 E294 _ a294 hN294 hbs294 hdp294 o_ ho_; obtain rfl := Option.some.inj ho_
     have z_w294 := E294.size
     have hx := hx.keep0 E294
     have ok := ok.keep0 E294
     have oc := oc.keep0 E294
     have ks : ∀ x9 ∈ K, Own w294 0 5 1 x9.1 x9.2.length (x9.2.map u8v) := fun x9 hx9 => (ks x9 hx9).keep0 E294
     have hxa := hxa.keep0 E294
     have hxb := hxb.keep0 E294
     have oka := oka.keep0 E294
     have okb := okb.keep0 E294
     have oca := oca.keep0 E294
     have ocb := ocb.keep0 E294
     have kas : ∀ x9 ∈ Ka, Own w294 0 5 1 x9.1 x9.2.length (x9.2.map u8v) := fun x9 hx9 => (kas x9 hx9).keep0 E294
     have kbs : ∀ x9 ∈ Kb, Own w294 0 5 1 x9.1 x9.2.length (x9.2.map u8v) := fun x9 hx9 => (kbs x9 hx9).keep0 E294
     have hr := hr.keepG (Gr.of0 E294 NoB) (fun _ _ h => h) (NoK.no _)
     have hKb := hKb.keepG (Gr.of0 E294 NoB) (fun _ _ h => h) (NoK.no _)
     have hkq1 := hkq1.keepG (Gr.of0 E294 NoB) (fun _ _ h => h) (NoK.no _)
     have hkq2 := hkq2.keepG (Gr.of0 E294 NoB) (fun _ _ h => h) (NoK.no _)
     have hb := hb.step0 E294
     have q294_51 : Sl a294 51 (K.getD i default).1 := (hdp294 12 _ 51 (by kernel_rfl) rfl rfl).2 rfl
     refine op_bslice (e := 27) (pv := [(0, (K.getD i default).1)]) (cs := [(K.getD i default).1]) ⟨rfl, (ev_base hN294 rfl q294_51), trivial⟩ (by obtain ⟨_, _, _, hq9⟩ := (show Own _ _ _ _ (K.getD i default).1 (K.getD i default).2.length ((K.getD i default).2.map u8v) from ks (K.getD i default) (getD_mem (by first | omega | (simp only [List.length_drop, List.length_take]; omega)))).sl; rw [hq9]; kernel_rfl) ?_
     intro w295 b296 lo_b296 hi_b296 hB298 E297
     have dj299 : ¬ G0 b296 := fun hf => by have := (hr.lt _ hf).2; omega
     have dj300 : ¬ Gb b296 := fun hf => by have := (hKb.lt _ hf).2; omega
     have dj301 : ¬ G1 b296 := fun hf => by have := (hkq1.lt _ hf).2; omega
     have dj302 : ¬ G2 b296 := fun hf => by have := (hkq2.lt _ hf).2; omega
     have ne_b296_kv : kv.ownBlock ≠ some b296 := fun hh => by have := (ok.lt _ hh).2; omega
     have ne_b296_ka : ka.ownBlock ≠ some b296 := fun hh => by have := (oka.lt _ hh).2; omega
     have ne_b296_kb : kb.ownBlock ≠ some b296 := fun hh => by have := (okb.lt _ hh).2; omega
     have z_w295 := E297.size
     have hx := hx.keep0 E297
     have ok := ok.keep0 E297
     have oc := oc.keep0 E297
     have ks : ∀ x9 ∈ K, Own w295 0 5 1 x9.1 x9.2.length (x9.2.map u8v) := fun x9 hx9 => (ks x9 hx9).keep0 E297
     have hxa := hxa.keep0 E297
     have hxb := hxb.keep0 E297
     have oka := oka.keep0 E297
     have okb := okb.keep0 E297
     have oca := oca.keep0 E297
     have ocb := ocb.keep0 E297
     have kas : ∀ x9 ∈ Ka, Own w295 0 5 1 x9.1 x9.2.length (x9.2.map u8v) := fun x9 hx9 => (kas x9 hx9).keep0 E297
     have kbs : ∀ x9 ∈ Kb, Own w295 0 5 1 x9.1 x9.2.length (x9.2.map u8v) := fun x9 hx9 => (kbs x9 hx9).keep0 E297
     have hr := hr.keepG (Gr.of0 E297 NoB) (fun _ _ h => h) (NoK.no _)
     have hKb := hKb.keepG (Gr.of0 E297 NoB) (fun _ _ h => h) (NoK.no _)
     have hkq1 := hkq1.keepG (Gr.of0 E297 NoB) (fun _ _ h => h) (NoK.no _)
     have hkq2 := hkq2.keepG (Gr.of0 E297 NoB) (fun _ _ h => h) (NoK.no _)
     have hb := hb.step0 E297
     refine ktk_end (G := fun t9 w' => 31 ∈ t9 → (Own w' 0 27 1 kv K.length (K.flatMap cK) ∧ Own w' 0 69 1 ca Pa.length (Pa.flatMap cN) ∧ Bx w' (P.getD (i + 1) default) 115 [(Value.slice none 0 0), kb, cb] ∧ Bx w' p 115 [(Value.slice none 0 0), kv, cv] ∧ Bx w' (P.getD i default) 115 [(Value.slice none 0 0), ka, ca])) (todo := [13, 14, 27, 28, 31]) (i := 13) rfl (fun _ => ⟨ok, oca, hxb, hx, hxa⟩) ?_
     refine ktk_step (rs := [14, 27]) (by kernel_rfl) ?_
     refine more_mem ?_ ?_
     · -- first 14
      intro w304 E304 _ a304 hN304 hbs304 hdp304 o_ ho_; obtain rfl := Option.some.inj ho_
      have z_w304 := E304.size
      have hx := hx.keep0 E304
      have ok := ok.keep0 E304
      have oc := oc.keep0 E304
      have ks : ∀ x9 ∈ K, Own w304 0 5 1 x9.1 x9.2.length (x9.2.map u8v) := fun x9 hx9 => (ks x9 hx9).keep0 E304
      have hxa := hxa.keep0 E304
      have hxb := hxb.keep0 E304
      have oka := oka.keep0 E304
      have okb := okb.keep0 E304
      have oca := oca.keep0 E304
      have ocb := ocb.keep0 E304
      have kas : ∀ x9 ∈ Ka, Own w304 0 5 1 x9.1 x9.2.length (x9.2.map u8v) := fun x9 hx9 => (kas x9 hx9).keep0 E304
      have kbs : ∀ x9 ∈ Kb, Own w304 0 5 1 x9.1 x9.2.length (x9.2.map u8v) := fun x9 hx9 => (kbs x9 hx9).keep0 E304
      have hr := hr.keepG (Gr.of0 E304 NoB) (fun _ _ h => h) (NoK.no _)
      have hKb := hKb.keepG (Gr.of0 E304 NoB) (fun _ _ h => h) (NoK.no _)
      have hkq1 := hkq1.keepG (Gr.of0 E304 NoB) (fun _ _ h => h) (NoK.no _)
      have hkq2 := hkq2.keepG (Gr.of0 E304 NoB) (fun _ _ h => h) (NoK.no _)
      have hB298 := hB298.keep0 E304
      have hb := hb.step0 E304
      have q304_44 : Sl a304 44 kb := (hdp304 5 _ 44 (by kernel_rfl) rfl rfl).2 rfl
      have q304_52 : Sl a304 52 (Value.slice (some ⟨b296, 0, none⟩) 1 1) := (Option.some.inj ((hdp304 13 _ 52 (by kernel_rfl) rfl rfl).1 rfl)).symm
      refine op_fn (vs := [kb, (Value.int .i64 0), (Value.slice (some ⟨b296, 0, none⟩) 1 1)]) ok67 ⟨(ev_base hN304 rfl q304_44), ⟨rfl, ⟨(ev_base hN304 rfl q304_52), trivial⟩⟩⟩ (InsK okb hB298 (one_kd kbs (fun _ h => h)) (by simp only [List.all_cons, List.all_nil, Bool.true_and, Bool.and_true, (own_one (show Own _ _ _ _ (K.getD i default).1 (K.getD i default).2.length ((K.getD i default).2.map u8v) from ks (K.getD i default) (getD_mem (by first | omega | (simp only [List.length_drop, List.length_take]; omega)))))]; try rfl) (by first | omega | (simp only [List.length_insertIdx, List.length_set, List.length_drop, List.length_take]; omega) | (simp; omega)) (by first | omega | (simp only [List.length_insertIdx, List.length_set, List.length_drop, List.length_take]; omega) | (simp; omega)) ne_b296_kb) ?_
      rintro v305 w306 ⟨E307, hO305, hm305⟩
      have dj308 : DJ kv v305 := DJ.step hm305 (fun k hk => (ok.lt k hk).2) dk4
      have dj309 : DJ ka v305 := DJ.step hm305 (fun k hk => (oka.lt k hk).2) dk7
      have dj310 : Dj G0 (Bl v305) := Dj.step hm305 (fun k hk => (hr.lt k hk).2) dk11.symm
      have dj311 : Dj Gb (Bl v305) := Dj.step hm305 (fun k hk => (hKb.lt k hk).2) dk20.symm
      have dj312 : Dj G1 (Bl v305) := Dj.step hm305 (fun k hk => (hkq1.lt k hk).2) dk30.symm
      have dj313 : Dj G2 (Bl v305) := Dj.step hm305 (fun k hk => (hkq2.lt k hk).2) dk40.symm
      have hin314 := inF_step (n := w.heap.size) hm305 (by omega) (fun k _ h => hNd.wg k (hgs k (hB.wk k h)))
      have z_w306 := E307.size
      have hx := hx.keepO okb E307 (by decide)
      have ok := ok.keepD E307 dk4
      have oc := oc.keepT okb E307 (by decide)
      have ks : ∀ x9 ∈ K, Own w306 0 5 1 x9.1 x9.2.length (x9.2.map u8v) := fun x9 hx9 => (ks x9 hx9).keepT okb E307 (by decide)
      have hxa := hxa.keepO okb E307 (by decide)
      have hxb := hxb.keepO okb E307 (by decide)
      have oka := oka.keepD E307 dk7
      have oca := oca.keepT okb E307 (by decide)
      have ocb := ocb.keepT okb E307 (by decide)
      have kas : ∀ x9 ∈ Ka, Own w306 0 5 1 x9.1 x9.2.length (x9.2.map u8v) := fun x9 hx9 => (kas x9 hx9).keepT okb E307 (by decide)
      have kbs : ∀ x9 ∈ Kb, Own w306 0 5 1 x9.1 x9.2.length (x9.2.map u8v) := fun x9 hx9 => (kbs x9 hx9).keepT okb E307 (by decide)
      have hr := hr.keepG (Gr.of E307) dk11.symm (NoK.ofOwn okb (by decide))
      have hKb := hKb.keepG (Gr.of E307) dk20.symm (NoK.ofOwn okb (by decide))
      have hkq1 := hkq1.keepG (Gr.of E307) dk30.symm (NoK.ofOwn okb (by decide))
      have hkq2 := hkq2.keepG (Gr.of E307) dk40.symm (NoK.ofOwn okb (by decide))
      have hB298 := hB298.keep E307 (fun hh => ne_b296_kb hh.symm)
      have hb := hb.stepL E307 (fun k _ h => hNd.wg k (hgs k (hB.wk k h)))
      have hO305 : Own w306 0 27 1 v305 (Kb.insertIdx 0 ((K.getD i default).1, (K.getD i default).2)).length ((Kb.insertIdx 0 ((K.getD i default).1, (K.getD i default).2)).flatMap cK) := hO305.cast (by rw [List.length_insertIdx, if_pos (by first | omega | (simp only [List.length_insertIdx, List.length_set, List.length_drop, List.length_take]; omega) | (simp; omega))]) (flat_ins cK_len ((K.getD i default).1, (K.getD i default).2) (by first | omega | (simp only [List.length_insertIdx, List.length_set, List.length_drop, List.length_take]; omega) | (simp; omega)))
      refine ktk_end (G := fun t9 w' => 31 ∈ t9 → (Own w' 0 27 1 kv K.length (K.flatMap cK) ∧ Own w' 0 69 1 ca Pa.length (Pa.flatMap cN) ∧ Bx w' (P.getD (i + 1) default) 115 [(Value.slice none 0 0), kb, cb] ∧ Bx w' p 115 [(Value.slice none 0 0), kv, cv] ∧ Bx w' (P.getD i default) 115 [(Value.slice none 0 0), ka, ca])) (todo := [14, 27, 28, 31]) (i := 14) rfl (fun _ => ⟨ok, oca, hxb, hx, hxa⟩) ?_
      refine ktk_step (rs := [27]) (by kernel_rfl) ?_
      refine one_mem ?_
      intro w316 E316 _ a316 hN316 hbs316 hdp316 o_ ho_; obtain rfl := Option.some.inj ho_
      have z_w316 := E316.size
      have hx := hx.keep0 E316
      have ok := ok.keep0 E316
      have oc := oc.keep0 E316
      have ks : ∀ x9 ∈ K, Own w316 0 5 1 x9.1 x9.2.length (x9.2.map u8v) := fun x9 hx9 => (ks x9 hx9).keep0 E316
      have hxa := hxa.keep0 E316
      have hxb := hxb.keep0 E316
      have oka := oka.keep0 E316
      have oca := oca.keep0 E316
      have ocb := ocb.keep0 E316
      have kas : ∀ x9 ∈ Ka, Own w316 0 5 1 x9.1 x9.2.length (x9.2.map u8v) := fun x9 hx9 => (kas x9 hx9).keep0 E316
      have kbs : ∀ x9 ∈ Kb, Own w316 0 5 1 x9.1 x9.2.length (x9.2.map u8v) := fun x9 hx9 => (kbs x9 hx9).keep0 E316
      have hr := hr.keepG (Gr.of0 E316 NoB) (fun _ _ h => h) (NoK.no _)
      have hKb := hKb.keepG (Gr.of0 E316 NoB) (fun _ _ h => h) (NoK.no _)
      have hkq1 := hkq1.keepG (Gr.of0 E316 NoB) (fun _ _ h => h) (NoK.no _)
      have hkq2 := hkq2.keepG (Gr.of0 E316 NoB) (fun _ _ h => h) (NoK.no _)
      have hB298 := hB298.keep0 E316
      have hO305 := hO305.keep0 E316
      have hb := hb.step0 E316
      have q316_65 : Sl a316 65 (ptr (Pa.getD (Ka.length - 1 + 1) default) 0) := (hdp316 26 _ 65 (by kernel_rfl) rfl rfl).2 rfl
      refine op_bslice (e := 69) (pv := [(0, (ptr (Pa.getD (Ka.length - 1 + 1) default) 0))]) (cs := [(ptr (Pa.getD (Ka.length - 1 + 1) default) 0)]) ⟨rfl, (ev_base hN316 rfl q316_65), trivial⟩ (by kernel_rfl) ?_
      intro w317 b318 lo_b318 hi_b318 hB320 E319
      have dj321 : ¬ G0 b318 := fun hf => by have := (hr.lt _ hf).2; omega
      have dj322 : ¬ Gb b318 := fun hf => by have := (hKb.lt _ hf).2; omega
      have dj323 : ¬ G1 b318 := fun hf => by have := (hkq1.lt _ hf).2; omega
      have dj324 : ¬ G2 b318 := fun hf => by have := (hkq2.lt _ hf).2; omega
      have ne_b318_cv : cv.ownBlock ≠ some b318 := fun hh => by have := (oc.lt _ hh).2; omega
      have ne_b318_ca : ca.ownBlock ≠ some b318 := fun hh => by have := (oca.lt _ hh).2; omega
      have ne_b318_cb : cb.ownBlock ≠ some b318 := fun hh => by have := (ocb.lt _ hh).2; omega
      have z_w317 := E319.size
      have hx := hx.keep0 E319
      have ok := ok.keep0 E319
      have oc := oc.keep0 E319
      have ks : ∀ x9 ∈ K, Own w317 0 5 1 x9.1 x9.2.length (x9.2.map u8v) := fun x9 hx9 => (ks x9 hx9).keep0 E319
      have hxa := hxa.keep0 E319
      have hxb := hxb.keep0 E319
      have oka := oka.keep0 E319
      have oca := oca.keep0 E319
      have ocb := ocb.keep0 E319
      have kas : ∀ x9 ∈ Ka, Own w317 0 5 1 x9.1 x9.2.length (x9.2.map u8v) := fun x9 hx9 => (kas x9 hx9).keep0 E319
      have kbs : ∀ x9 ∈ Kb, Own w317 0 5 1 x9.1 x9.2.length (x9.2.map u8v) := fun x9 hx9 => (kbs x9 hx9).keep0 E319
      have hr := hr.keepG (Gr.of0 E319 NoB) (fun _ _ h => h) (NoK.no _)
      have hKb := hKb.keepG (Gr.of0 E319 NoB) (fun _ _ h => h) (NoK.no _)
      have hkq1 := hkq1.keepG (Gr.of0 E319 NoB) (fun _ _ h => h) (NoK.no _)
      have hkq2 := hkq2.keepG (Gr.of0 E319 NoB) (fun _ _ h => h) (NoK.no _)
      have hB298 := hB298.keep0 E319
      have hO305 := hO305.keep0 E319
      have hb := hb.step0 E319
      refine ktk_end (G := fun t9 w' => 31 ∈ t9 → (Own w' 0 27 1 kv K.length (K.flatMap cK) ∧ Own w' 0 69 1 ca Pa.length (Pa.flatMap cN) ∧ Bx w' (P.getD (i + 1) default) 115 [(Value.slice none 0 0), kb, cb] ∧ Bx w' p 115 [(Value.slice none 0 0), kv, cv] ∧ Bx w' (P.getD i default) 115 [(Value.slice none 0 0), ka, ca])) (todo := [27, 28, 31]) (i := 27) rfl (fun _ => ⟨ok, oca, hxb, hx, hxa⟩) ?_
      refine ktk_step (rs := [28]) (by kernel_rfl) ?_
      refine one_mem ?_
      intro w326 E326 _ a326 hN326 hbs326 hdp326 o_ ho_; obtain rfl := Option.some.inj ho_
      have z_w326 := E326.size
      have hx := hx.keep0 E326
      have ok := ok.keep0 E326
      have oc := oc.keep0 E326
      have ks : ∀ x9 ∈ K, Own w326 0 5 1 x9.1 x9.2.length (x9.2.map u8v) := fun x9 hx9 => (ks x9 hx9).keep0 E326
      have hxa := hxa.keep0 E326
      have hxb := hxb.keep0 E326
      have oka := oka.keep0 E326
      have oca := oca.keep0 E326
      have ocb := ocb.keep0 E326
      have kas : ∀ x9 ∈ Ka, Own w326 0 5 1 x9.1 x9.2.length (x9.2.map u8v) := fun x9 hx9 => (kas x9 hx9).keep0 E326
      have kbs : ∀ x9 ∈ Kb, Own w326 0 5 1 x9.1 x9.2.length (x9.2.map u8v) := fun x9 hx9 => (kbs x9 hx9).keep0 E326
      have hr := hr.keepG (Gr.of0 E326 NoB) (fun _ _ h => h) (NoK.no _)
      have hKb := hKb.keepG (Gr.of0 E326 NoB) (fun _ _ h => h) (NoK.no _)
      have hkq1 := hkq1.keepG (Gr.of0 E326 NoB) (fun _ _ h => h) (NoK.no _)
      have hkq2 := hkq2.keepG (Gr.of0 E326 NoB) (fun _ _ h => h) (NoK.no _)
      have hB298 := hB298.keep0 E326
      have hO305 := hO305.keep0 E326
      have hB320 := hB320.keep0 E326
      have hb := hb.step0 E326
      have q326_57 : Sl a326 57 cb := (hdp326 18 _ 57 (by kernel_rfl) rfl rfl).2 rfl
      have q326_66 : Sl a326 66 (Value.slice (some ⟨b318, 0, none⟩) 1 1) := (Option.some.inj ((hdp326 27 _ 66 (by kernel_rfl) rfl rfl).1 rfl)).symm
      refine op_fn (vs := [cb, (Value.int .i64 0), (Value.slice (some ⟨b318, 0, none⟩) 1 1)]) ok85 ⟨(ev_base hN326 rfl q326_57), ⟨rfl, ⟨(ev_base hN326 rfl q326_66), trivial⟩⟩⟩ (InsNI ocb hB320 (one_pn _) rfl (by first | omega | (simp only [List.length_insertIdx, List.length_set, List.length_drop, List.length_take]; omega) | (simp; omega)) (by first | omega | (simp only [List.length_insertIdx, List.length_set, List.length_drop, List.length_take]; omega) | (simp; omega)) ne_b318_cb) ?_
      rintro v327 w328 ⟨E329, hO327, hm327⟩
      have dj330 : DJ cv v327 := DJ.step hm327 (fun k hk => (oc.lt k hk).2) dk6
      have dj331 : DJ ca v327 := DJ.step hm327 (fun k hk => (oca.lt k hk).2) dk8
      have dj332 : Dj G0 (Bl v327) := Dj.step hm327 (fun k hk => (hr.lt k hk).2) dk12.symm
      have dj333 : Dj Gb (Bl v327) := Dj.step hm327 (fun k hk => (hKb.lt k hk).2) dk21.symm
      have dj334 : Dj G1 (Bl v327) := Dj.step hm327 (fun k hk => (hkq1.lt k hk).2) dk31.symm
      have dj335 : Dj G2 (Bl v327) := Dj.step hm327 (fun k hk => (hkq2.lt k hk).2) dk41.symm
      have hin336 := inF_step (n := w.heap.size) hm327 (by omega) (fun k _ h => hNd.wg k (hgs k (hB.wc k h)))
      have z_w328 := E329.size
      have hx := hx.keepO ocb E329 (by decide)
      have ok := ok.keepT ocb E329 (by decide)
      have oc := oc.keepD E329 dk6
      have ks : ∀ x9 ∈ K, Own w328 0 5 1 x9.1 x9.2.length (x9.2.map u8v) := fun x9 hx9 => (ks x9 hx9).keepT ocb E329 (by decide)
      have hxa := hxa.keepO ocb E329 (by decide)
      have hxb := hxb.keepO ocb E329 (by decide)
      have oka := oka.keepT ocb E329 (by decide)
      have oca := oca.keepD E329 dk8
      have kas : ∀ x9 ∈ Ka, Own w328 0 5 1 x9.1 x9.2.length (x9.2.map u8v) := fun x9 hx9 => (kas x9 hx9).keepT ocb E329 (by decide)
      have kbs : ∀ x9 ∈ Kb, Own w328 0 5 1 x9.1 x9.2.length (x9.2.map u8v) := fun x9 hx9 => (kbs x9 hx9).keepT ocb E329 (by decide)
      have hr := hr.keepG (Gr.of E329) dk12.symm (NoK.ofOwn ocb (by decide))
      have hKb := hKb.keepG (Gr.of E329) dk21.symm (NoK.ofOwn ocb (by decide))
      have hkq1 := hkq1.keepG (Gr.of E329) dk31.symm (NoK.ofOwn ocb (by decide))
      have hkq2 := hkq2.keepG (Gr.of E329) dk41.symm (NoK.ofOwn ocb (by decide))
      have hB298 := hB298.keepO ocb E329 (by decide)
      have hO305 := hO305.keepT ocb E329 (by decide)
      have hB320 := hB320.keep E329 (fun hh => ne_b318_cb hh.symm)
      have hb := hb.stepL E329 (fun k _ h => hNd.wg k (hgs k (hB.wc k h)))
      have hO327 : Own w328 0 69 1 v327 (Pb.insertIdx 0 (Pa.getD (Ka.length - 1 + 1) default)).length ((Pb.insertIdx 0 (Pa.getD (Ka.length - 1 + 1) default)).flatMap cN) := hO327.cast (by rw [List.length_insertIdx, if_pos (by first | omega | (simp only [List.length_insertIdx, List.length_set, List.length_drop, List.length_take]; omega) | (simp; omega))]) (flat_ins cN_len (Pa.getD (Ka.length - 1 + 1) default) (by first | omega | (simp only [List.length_insertIdx, List.length_set, List.length_drop, List.length_take]; omega) | (simp; omega)))
      refine ktk_end (G := fun t9 w' => 31 ∈ t9 → (Own w' 0 27 1 kv K.length (K.flatMap cK) ∧ Own w' 0 69 1 ca Pa.length (Pa.flatMap cN) ∧ Bx w' (P.getD (i + 1) default) 115 [(Value.slice none 0 0), kb, cb] ∧ Bx w' p 115 [(Value.slice none 0 0), kv, cv] ∧ Bx w' (P.getD i default) 115 [(Value.slice none 0 0), ka, ca])) (todo := [28, 31]) (i := 28) rfl (fun _ => ⟨ok, oca, hxb, hx, hxa⟩) ?_
      refine ktk_step (rs := [31]) (by kernel_rfl) ?_
      refine one_mem ?_
      intro w338 E338 _ a338 hN338 hbs338 hdp338 o_ ho_; obtain rfl := Option.some.inj ho_
      have z_w338 := E338.size
      have hx := hx.keep0 E338
      have ok := ok.keep0 E338
      have oc := oc.keep0 E338
      have ks : ∀ x9 ∈ K, Own w338 0 5 1 x9.1 x9.2.length (x9.2.map u8v) := fun x9 hx9 => (ks x9 hx9).keep0 E338
      have hxa := hxa.keep0 E338
      have hxb := hxb.keep0 E338
      have oka := oka.keep0 E338
      have oca := oca.keep0 E338
      have kas : ∀ x9 ∈ Ka, Own w338 0 5 1 x9.1 x9.2.length (x9.2.map u8v) := fun x9 hx9 => (kas x9 hx9).keep0 E338
      have kbs : ∀ x9 ∈ Kb, Own w338 0 5 1 x9.1 x9.2.length (x9.2.map u8v) := fun x9 hx9 => (kbs x9 hx9).keep0 E338
      have hr := hr.keepG (Gr.of0 E338 NoB) (fun _ _ h => h) (NoK.no _)
      have hKb := hKb.keepG (Gr.of0 E338 NoB) (fun _ _ h => h) (NoK.no _)
      have hkq1 := hkq1.keepG (Gr.of0 E338 NoB) (fun _ _ h => h) (NoK.no _)
      have hkq2 := hkq2.keepG (Gr.of0 E338 NoB) (fun _ _ h => h) (NoK.no _)
      have hB298 := hB298.keep0 E338
      have hO305 := hO305.keep0 E338
      have hB320 := hB320.keep0 E338
      have hO327 := hO327.keep0 E338
      have hb := hb.step0 E338
      have q338_69 : Sl a338 69 (ptr (P.getD (i + 1) default) 1) := (hdp338 30 _ 69 (by kernel_rfl) rfl rfl).2 rfl
      have q338_53 : Sl a338 53 v305 := (Option.some.inj ((hdp338 14 _ 53 (by kernel_rfl) rfl rfl).1 rfl)).symm
      have hxb_old := hxb
      refine op_store (vs := [v305]) (cs' := [(Value.slice none 0 0), v305, cb]) size90 (ev_base hN338 rfl q338_69) (ev_base hN338 rfl q338_53) hO305.cl rfl (by simp only [List.all_cons, List.all_nil, Bool.true_and, Bool.and_true, hO305.one]; try rfl) hxb (Nat.le_of_ble_eq_true rfl) rfl ?_
      intro w341 hxb E342
      have z_w341 := E342.size
      have hx := hx.keep E342 (by simp only [ne_eq, Option.some.injEq]; omega)
      have ok := ok.keepX hxb_old E342 (by decide)
      have oc := oc.keepX hxb_old E342 (by decide)
      have ks : ∀ x9 ∈ K, Own w341 0 5 1 x9.1 x9.2.length (x9.2.map u8v) := fun x9 hx9 => (ks x9 hx9).keepX hxb_old E342 (by decide)
      have hxa := hxa.keep E342 (by simp only [ne_eq, Option.some.injEq]; omega)
      have oka := oka.keepX hxb_old E342 (by decide)
      have oca := oca.keepX hxb_old E342 (by decide)
      have kas : ∀ x9 ∈ Ka, Own w341 0 5 1 x9.1 x9.2.length (x9.2.map u8v) := fun x9 hx9 => (kas x9 hx9).keepX hxb_old E342 (by decide)
      have kbs : ∀ x9 ∈ Kb, Own w341 0 5 1 x9.1 x9.2.length (x9.2.map u8v) := fun x9 hx9 => (kbs x9 hx9).keepX hxb_old E342 (by decide)
      have hr := hr.keepG (Gr.of E342) (Dj.one dk14) (NoK.ofBx hxb_old (by decide))
      have hKb := hKb.keepG (Gr.of E342) (Dj.one dk23) (NoK.ofBx hxb_old (by decide))
      have hkq1 := hkq1.keepG (Gr.of E342) (Dj.one dk33) (NoK.ofBx hxb_old (by decide))
      have hkq2 := hkq2.keepG (Gr.of E342) (Dj.one dk43) (NoK.ofBx hxb_old (by decide))
      have hB298 := hB298.keep E342 (fun hh => hB298.ne hxb_old (by decide) (Option.some.inj hh))
      have hO305 := hO305.keepX hxb_old E342 (by decide)
      have hB320 := hB320.keep E342 (fun hh => hB320.ne hxb_old (by decide) (Option.some.inj hh))
      have hO327 := hO327.keepX hxb_old E342 (by decide)
      have hb := hb.stepB E342 (hNd.wg _ (hgs _ hB.wp))
      refine ktk_end0 (G := fun t9 w' => 31 ∈ t9 → (Own w' 0 27 1 kv K.length (K.flatMap cK) ∧ Own w' 0 69 1 ca Pa.length (Pa.flatMap cN) ∧ Bx w' (P.getD (i + 1) default) 115 [(Value.slice none 0 0), kb, cb] ∧ Bx w' p 115 [(Value.slice none 0 0), kv, cv] ∧ Bx w' (P.getD i default) 115 [(Value.slice none 0 0), ka, ca])) (todo := [31]) (i := 31) rfl (fun h => absurd h (by decide)) ?_
      intro w343 E343 a343 hN343 hd343 hbs343 hph343
      have hd343 := hd343.trans ((by simp only [putsL_defers] : _ = _).trans hd)
      have z_w343 := E343.size
      have hx := hx.keep0 E343
      have ok := ok.keep0 E343
      have oc := oc.keep0 E343
      have ks : ∀ x9 ∈ K, Own w343 0 5 1 x9.1 x9.2.length (x9.2.map u8v) := fun x9 hx9 => (ks x9 hx9).keep0 E343
      have hxa := hxa.keep0 E343
      have oka := oka.keep0 E343
      have oca := oca.keep0 E343
      have kas : ∀ x9 ∈ Ka, Own w343 0 5 1 x9.1 x9.2.length (x9.2.map u8v) := fun x9 hx9 => (kas x9 hx9).keep0 E343
      have kbs : ∀ x9 ∈ Kb, Own w343 0 5 1 x9.1 x9.2.length (x9.2.map u8v) := fun x9 hx9 => (kbs x9 hx9).keep0 E343
      have hr := hr.keepG (Gr.of0 E343 NoB) (fun _ _ h => h) (NoK.no _)
      have hKb := hKb.keepG (Gr.of0 E343 NoB) (fun _ _ h => h) (NoK.no _)
      have hkq1 := hkq1.keepG (Gr.of0 E343 NoB) (fun _ _ h => h) (NoK.no _)
      have hkq2 := hkq2.keepG (Gr.of0 E343 NoB) (fun _ _ h => h) (NoK.no _)
      have hB298 := hB298.keep0 E343
      have hO305 := hO305.keep0 E343
      have hB320 := hB320.keep0 E343
      have hO327 := hO327.keep0 E343
      have hxb := hxb.keep0 E343
      have hb := hb.step0 E343
      have s343_0 := (hbs343 0 rfl).trans (sl_base hN rfl s0)
      have s343_1 := (hbs343 1 rfl).trans (sl_base hN rfl s1)
      have s343_6 := (hbs343 6 rfl).trans (sl_hit hN rfl)
      have s343_7 := (hbs343 7 rfl).trans (sl_hit hN rfl)
      have s343_11 := (hbs343 11 rfl).trans (sl_hit hN rfl)
      have s343_40 : Sl a343 40 (ptr (P.getD (i + 1) default) 0) := (hph343 1 _ 40 rfl rfl).2 rfl
      have s343_67 : Sl a343 67 v327 := (Option.some.inj ((hph343 28 _ 67 rfl rfl).1 rfl)).symm
      refine split_end ?_
      refine from_seq (tl := [_, _, _]) (by decide) (by kernel_rfl) rfl ?_
      refine op_nil (ev_base hN343 rfl s343_40) ?_
      refine op_field fld115_2 (ev_hit hN343 rfl) ?_
      have hxb_old := hxb
      refine op_store (vs := [v327]) (cs' := [(Value.slice none 0 0), v305, v327]) size113 (ev_hit hN343 rfl) (ev_base hN343 rfl s343_67) hO327.cl rfl (by simp only [List.all_cons, List.all_nil, Bool.true_and, Bool.and_true, hO327.one]; try rfl) hxb (Nat.le_of_ble_eq_true rfl) rfl ?_
      intro w346 hxb E347
      have z_w346 := E347.size
      have hx := hx.keep E347 (by simp only [ne_eq, Option.some.injEq]; omega)
      have ok := ok.keepX hxb_old E347 (by decide)
      have oc := oc.keepX hxb_old E347 (by decide)
      have ks : ∀ x9 ∈ K, Own w346 0 5 1 x9.1 x9.2.length (x9.2.map u8v) := fun x9 hx9 => (ks x9 hx9).keepX hxb_old E347 (by decide)
      have hxa := hxa.keep E347 (by simp only [ne_eq, Option.some.injEq]; omega)
      have oka := oka.keepX hxb_old E347 (by decide)
      have oca := oca.keepX hxb_old E347 (by decide)
      have kas : ∀ x9 ∈ Ka, Own w346 0 5 1 x9.1 x9.2.length (x9.2.map u8v) := fun x9 hx9 => (kas x9 hx9).keepX hxb_old E347 (by decide)
      have kbs : ∀ x9 ∈ Kb, Own w346 0 5 1 x9.1 x9.2.length (x9.2.map u8v) := fun x9 hx9 => (kbs x9 hx9).keepX hxb_old E347 (by decide)
      have hr := hr.keepG (Gr.of E347) (Dj.one dk14) (NoK.ofBx hxb_old (by decide))
      have hKb := hKb.keepG (Gr.of E347) (Dj.one dk23) (NoK.ofBx hxb_old (by decide))
      have hkq1 := hkq1.keepG (Gr.of E347) (Dj.one dk33) (NoK.ofBx hxb_old (by decide))
      have hkq2 := hkq2.keepG (Gr.of E347) (Dj.one dk43) (NoK.ofBx hxb_old (by decide))
      have hB298 := hB298.keep E347 (fun hh => hB298.ne hxb_old (by decide) (Option.some.inj hh))
      have hO305 := hO305.keepX hxb_old E347 (by decide)
      have hB320 := hB320.keep E347 (fun hh => hB320.ne hxb_old (by decide) (Option.some.inj hh))
      have hO327 := hO327.keepX hxb_old E347 (by decide)
      have hb := hb.stepB E347 (hNd.wg _ (hgs _ hB.wp))
      refine reg_nil ?_
      refine hK286 _ _ ?_
      exact hJ283 _ _ _ hN343 hd343 ⟨v305, v327, (sl_base hN343 rfl s343_0), (sl_base hN343 rfl s343_1), (sl_base hN343 rfl s343_6), (sl_base hN343 rfl s343_7), (sl_base hN343 rfl s343_11), dj308, dj309, dj310.symm, dj311.symm, dj312.symm, dj313.symm, hin314, dj330, dj331, dj332.symm, dj333.symm, dj334.symm, dj335.symm, hin336, hb, (by omega), hx, ok, oc, ks, hxa, oka, oca, kas, kbs, hr, hKb, hkq1, hkq2, (hO305.cast (n' := (Kb.insertIdx 0 ((K.getD i default).1, (K.getD i default).2)).length) (cs' := (Kb.insertIdx 0 ((K.getD i default).1, (K.getD i default).2)).flatMap cK) (by first | rfl | (simp; done) | (simp only [List.length_append, List.length_cons, List.length_nil]; omega)) (by first | rfl | simp [cK, cN, cI])), (hO327.cast (n' := (Pb.insertIdx 0 (Pa.getD (Ka.length - 1 + 1) default)).length) (cs' := (Pb.insertIdx 0 (Pa.getD (Ka.length - 1 + 1) default)).flatMap cN) (by first | rfl | (simp; done) | (simp only [List.length_append, List.length_cons, List.length_nil]; omega)) (by first | rfl | simp [cK, cN, cI])), hxb⟩
     refine one_mem ?_
     intro w348 E348 _ a348 hN348 hbs348 hdp348 o_ ho_; obtain rfl := Option.some.inj ho_
     have z_w348 := E348.size
     have hx := hx.keep0 E348
     have ok := ok.keep0 E348
     have oc := oc.keep0 E348
     have ks : ∀ x9 ∈ K, Own w348 0 5 1 x9.1 x9.2.length (x9.2.map u8v) := fun x9 hx9 => (ks x9 hx9).keep0 E348
     have hxa := hxa.keep0 E348
     have hxb := hxb.keep0 E348
     have oka := oka.keep0 E348
     have okb := okb.keep0 E348
     have oca := oca.keep0 E348
     have ocb := ocb.keep0 E348
     have kas : ∀ x9 ∈ Ka, Own w348 0 5 1 x9.1 x9.2.length (x9.2.map u8v) := fun x9 hx9 => (kas x9 hx9).keep0 E348
     have kbs : ∀ x9 ∈ Kb, Own w348 0 5 1 x9.1 x9.2.length (x9.2.map u8v) := fun x9 hx9 => (kbs x9 hx9).keep0 E348
     have hr := hr.keepG (Gr.of0 E348 NoB) (fun _ _ h => h) (NoK.no _)
     have hKb := hKb.keepG (Gr.of0 E348 NoB) (fun _ _ h => h) (NoK.no _)
     have hkq1 := hkq1.keepG (Gr.of0 E348 NoB) (fun _ _ h => h) (NoK.no _)
     have hkq2 := hkq2.keepG (Gr.of0 E348 NoB) (fun _ _ h => h) (NoK.no _)
     have hB298 := hB298.keep0 E348
     have hb := hb.step0 E348
     have q348_65 : Sl a348 65 (ptr (Pa.getD (Ka.length - 1 + 1) default) 0) := (hdp348 26 _ 65 (by kernel_rfl) rfl rfl).2 rfl
     refine op_bslice (e := 69) (pv := [(0, (ptr (Pa.getD (Ka.length - 1 + 1) default) 0))]) (cs := [(ptr (Pa.getD (Ka.length - 1 + 1) default) 0)]) ⟨rfl, (ev_base hN348 rfl q348_65), trivial⟩ (by kernel_rfl) ?_
     intro w349 b350 lo_b350 hi_b350 hB352 E351
     have dj353 : ¬ G0 b350 := fun hf => by have := (hr.lt _ hf).2; omega
     have dj354 : ¬ Gb b350 := fun hf => by have := (hKb.lt _ hf).2; omega
     have dj355 : ¬ G1 b350 := fun hf => by have := (hkq1.lt _ hf).2; omega
     have dj356 : ¬ G2 b350 := fun hf => by have := (hkq2.lt _ hf).2; omega
     have ne_b350_cv : cv.ownBlock ≠ some b350 := fun hh => by have := (oc.lt _ hh).2; omega
     have ne_b350_ca : ca.ownBlock ≠ some b350 := fun hh => by have := (oca.lt _ hh).2; omega
     have ne_b350_cb : cb.ownBlock ≠ some b350 := fun hh => by have := (ocb.lt _ hh).2; omega
     have z_w349 := E351.size
     have hx := hx.keep0 E351
     have ok := ok.keep0 E351
     have oc := oc.keep0 E351
     have ks : ∀ x9 ∈ K, Own w349 0 5 1 x9.1 x9.2.length (x9.2.map u8v) := fun x9 hx9 => (ks x9 hx9).keep0 E351
     have hxa := hxa.keep0 E351
     have hxb := hxb.keep0 E351
     have oka := oka.keep0 E351
     have okb := okb.keep0 E351
     have oca := oca.keep0 E351
     have ocb := ocb.keep0 E351
     have kas : ∀ x9 ∈ Ka, Own w349 0 5 1 x9.1 x9.2.length (x9.2.map u8v) := fun x9 hx9 => (kas x9 hx9).keep0 E351
     have kbs : ∀ x9 ∈ Kb, Own w349 0 5 1 x9.1 x9.2.length (x9.2.map u8v) := fun x9 hx9 => (kbs x9 hx9).keep0 E351
     have hr := hr.keepG (Gr.of0 E351 NoB) (fun _ _ h => h) (NoK.no _)
     have hKb := hKb.keepG (Gr.of0 E351 NoB) (fun _ _ h => h) (NoK.no _)
     have hkq1 := hkq1.keepG (Gr.of0 E351 NoB) (fun _ _ h => h) (NoK.no _)
     have hkq2 := hkq2.keepG (Gr.of0 E351 NoB) (fun _ _ h => h) (NoK.no _)
     have hB298 := hB298.keep0 E351
     have hb := hb.step0 E351
     refine ktk_end (G := fun t9 w' => 31 ∈ t9 → (Own w' 0 27 1 kv K.length (K.flatMap cK) ∧ Own w' 0 69 1 ca Pa.length (Pa.flatMap cN) ∧ Bx w' (P.getD (i + 1) default) 115 [(Value.slice none 0 0), kb, cb] ∧ Bx w' p 115 [(Value.slice none 0 0), kv, cv] ∧ Bx w' (P.getD i default) 115 [(Value.slice none 0 0), ka, ca])) (todo := [14, 27, 28, 31]) (i := 27) rfl (fun _ => ⟨ok, oca, hxb, hx, hxa⟩) ?_
     refine ktk_step (rs := [14]) (by kernel_rfl) ?_
     refine one_mem ?_
     intro w358 E358 _ a358 hN358 hbs358 hdp358 o_ ho_; obtain rfl := Option.some.inj ho_
     have z_w358 := E358.size
     have hx := hx.keep0 E358
     have ok := ok.keep0 E358
     have oc := oc.keep0 E358
     have ks : ∀ x9 ∈ K, Own w358 0 5 1 x9.1 x9.2.length (x9.2.map u8v) := fun x9 hx9 => (ks x9 hx9).keep0 E358
     have hxa := hxa.keep0 E358
     have hxb := hxb.keep0 E358
     have oka := oka.keep0 E358
     have okb := okb.keep0 E358
     have oca := oca.keep0 E358
     have ocb := ocb.keep0 E358
     have kas : ∀ x9 ∈ Ka, Own w358 0 5 1 x9.1 x9.2.length (x9.2.map u8v) := fun x9 hx9 => (kas x9 hx9).keep0 E358
     have kbs : ∀ x9 ∈ Kb, Own w358 0 5 1 x9.1 x9.2.length (x9.2.map u8v) := fun x9 hx9 => (kbs x9 hx9).keep0 E358
     have hr := hr.keepG (Gr.of0 E358 NoB) (fun _ _ h => h) (NoK.no _)
     have hKb := hKb.keepG (Gr.of0 E358 NoB) (fun _ _ h => h) (NoK.no _)
     have hkq1 := hkq1.keepG (Gr.of0 E358 NoB) (fun _ _ h => h) (NoK.no _)
     have hkq2 := hkq2.keepG (Gr.of0 E358 NoB) (fun _ _ h => h) (NoK.no _)
     have hB298 := hB298.keep0 E358
     have hB352 := hB352.keep0 E358
     have hb := hb.step0 E358
     have q358_44 : Sl a358 44 kb := (hdp358 5 _ 44 (by kernel_rfl) rfl rfl).2 rfl
     have q358_52 : Sl a358 52 (Value.slice (some ⟨b296, 0, none⟩) 1 1) := (Option.some.inj ((hdp358 13 _ 52 (by kernel_rfl) rfl rfl).1 rfl)).symm
     refine op_fn (vs := [kb, (Value.int .i64 0), (Value.slice (some ⟨b296, 0, none⟩) 1 1)]) ok67 ⟨(ev_base hN358 rfl q358_44), ⟨rfl, ⟨(ev_base hN358 rfl q358_52), trivial⟩⟩⟩ (InsK okb hB298 (one_kd kbs (fun _ h => h)) (by simp only [List.all_cons, List.all_nil, Bool.true_and, Bool.and_true, (own_one (show Own _ _ _ _ (K.getD i default).1 (K.getD i default).2.length ((K.getD i default).2.map u8v) from ks (K.getD i default) (getD_mem (by first | omega | (simp only [List.length_drop, List.length_take]; omega)))))]; try rfl) (by first | omega | (simp only [List.length_insertIdx, List.length_set, List.length_drop, List.length_take]; omega) | (simp; omega)) (by first | omega | (simp only [List.length_insertIdx, List.length_set, List.length_drop, List.length_take]; omega) | (simp; omega)) ne_b296_kb) ?_
     rintro v359 w360 ⟨E361, hO359, hm359⟩
     have dj362 : DJ kv v359 := DJ.step hm359 (fun k hk => (ok.lt k hk).2) dk4
     have dj363 : DJ ka v359 := DJ.step hm359 (fun k hk => (oka.lt k hk).2) dk7
     have dj364 : Dj G0 (Bl v359) := Dj.step hm359 (fun k hk => (hr.lt k hk).2) dk11.symm
     have dj365 : Dj Gb (Bl v359) := Dj.step hm359 (fun k hk => (hKb.lt k hk).2) dk20.symm
     have dj366 : Dj G1 (Bl v359) := Dj.step hm359 (fun k hk => (hkq1.lt k hk).2) dk30.symm
     have dj367 : Dj G2 (Bl v359) := Dj.step hm359 (fun k hk => (hkq2.lt k hk).2) dk40.symm
     have hin368 := inF_step (n := w.heap.size) hm359 (by omega) (fun k _ h => hNd.wg k (hgs k (hB.wk k h)))
     have z_w360 := E361.size
     have hx := hx.keepO okb E361 (by decide)
     have ok := ok.keepD E361 dk4
     have oc := oc.keepT okb E361 (by decide)
     have ks : ∀ x9 ∈ K, Own w360 0 5 1 x9.1 x9.2.length (x9.2.map u8v) := fun x9 hx9 => (ks x9 hx9).keepT okb E361 (by decide)
     have hxa := hxa.keepO okb E361 (by decide)
     have hxb := hxb.keepO okb E361 (by decide)
     have oka := oka.keepD E361 dk7
     have oca := oca.keepT okb E361 (by decide)
     have ocb := ocb.keepT okb E361 (by decide)
     have kas : ∀ x9 ∈ Ka, Own w360 0 5 1 x9.1 x9.2.length (x9.2.map u8v) := fun x9 hx9 => (kas x9 hx9).keepT okb E361 (by decide)
     have kbs : ∀ x9 ∈ Kb, Own w360 0 5 1 x9.1 x9.2.length (x9.2.map u8v) := fun x9 hx9 => (kbs x9 hx9).keepT okb E361 (by decide)
     have hr := hr.keepG (Gr.of E361) dk11.symm (NoK.ofOwn okb (by decide))
     have hKb := hKb.keepG (Gr.of E361) dk20.symm (NoK.ofOwn okb (by decide))
     have hkq1 := hkq1.keepG (Gr.of E361) dk30.symm (NoK.ofOwn okb (by decide))
     have hkq2 := hkq2.keepG (Gr.of E361) dk40.symm (NoK.ofOwn okb (by decide))
     have hB298 := hB298.keep E361 (fun hh => ne_b296_kb hh.symm)
     have hB352 := hB352.keepO okb E361 (by decide)
     have hb := hb.stepL E361 (fun k _ h => hNd.wg k (hgs k (hB.wk k h)))
     have hO359 : Own w360 0 27 1 v359 (Kb.insertIdx 0 ((K.getD i default).1, (K.getD i default).2)).length ((Kb.insertIdx 0 ((K.getD i default).1, (K.getD i default).2)).flatMap cK) := hO359.cast (by rw [List.length_insertIdx, if_pos (by first | omega | (simp only [List.length_insertIdx, List.length_set, List.length_drop, List.length_take]; omega) | (simp; omega))]) (flat_ins cK_len ((K.getD i default).1, (K.getD i default).2) (by first | omega | (simp only [List.length_insertIdx, List.length_set, List.length_drop, List.length_take]; omega) | (simp; omega)))
     refine ktk_end (G := fun t9 w' => 31 ∈ t9 → (Own w' 0 27 1 kv K.length (K.flatMap cK) ∧ Own w' 0 69 1 ca Pa.length (Pa.flatMap cN) ∧ Bx w' (P.getD (i + 1) default) 115 [(Value.slice none 0 0), kb, cb] ∧ Bx w' p 115 [(Value.slice none 0 0), kv, cv] ∧ Bx w' (P.getD i default) 115 [(Value.slice none 0 0), ka, ca])) (todo := [14, 28, 31]) (i := 14) rfl (fun _ => ⟨ok, oca, hxb, hx, hxa⟩) ?_
     refine ktk_step (rs := [28]) (by kernel_rfl) ?_
     refine one_mem ?_
     intro w370 E370 _ a370 hN370 hbs370 hdp370 o_ ho_; obtain rfl := Option.some.inj ho_
     have z_w370 := E370.size
     have hx := hx.keep0 E370
     have ok := ok.keep0 E370
     have oc := oc.keep0 E370
     have ks : ∀ x9 ∈ K, Own w370 0 5 1 x9.1 x9.2.length (x9.2.map u8v) := fun x9 hx9 => (ks x9 hx9).keep0 E370
     have hxa := hxa.keep0 E370
     have hxb := hxb.keep0 E370
     have oka := oka.keep0 E370
     have oca := oca.keep0 E370
     have ocb := ocb.keep0 E370
     have kas : ∀ x9 ∈ Ka, Own w370 0 5 1 x9.1 x9.2.length (x9.2.map u8v) := fun x9 hx9 => (kas x9 hx9).keep0 E370
     have kbs : ∀ x9 ∈ Kb, Own w370 0 5 1 x9.1 x9.2.length (x9.2.map u8v) := fun x9 hx9 => (kbs x9 hx9).keep0 E370
     have hr := hr.keepG (Gr.of0 E370 NoB) (fun _ _ h => h) (NoK.no _)
     have hKb := hKb.keepG (Gr.of0 E370 NoB) (fun _ _ h => h) (NoK.no _)
     have hkq1 := hkq1.keepG (Gr.of0 E370 NoB) (fun _ _ h => h) (NoK.no _)
     have hkq2 := hkq2.keepG (Gr.of0 E370 NoB) (fun _ _ h => h) (NoK.no _)
     have hB298 := hB298.keep0 E370
     have hB352 := hB352.keep0 E370
     have hO359 := hO359.keep0 E370
     have hb := hb.step0 E370
     have q370_57 : Sl a370 57 cb := (hdp370 18 _ 57 (by kernel_rfl) rfl rfl).2 rfl
     have q370_66 : Sl a370 66 (Value.slice (some ⟨b350, 0, none⟩) 1 1) := (Option.some.inj ((hdp370 27 _ 66 (by kernel_rfl) rfl rfl).1 rfl)).symm
     refine op_fn (vs := [cb, (Value.int .i64 0), (Value.slice (some ⟨b350, 0, none⟩) 1 1)]) ok85 ⟨(ev_base hN370 rfl q370_57), ⟨rfl, ⟨(ev_base hN370 rfl q370_66), trivial⟩⟩⟩ (InsNI ocb hB352 (one_pn _) rfl (by first | omega | (simp only [List.length_insertIdx, List.length_set, List.length_drop, List.length_take]; omega) | (simp; omega)) (by first | omega | (simp only [List.length_insertIdx, List.length_set, List.length_drop, List.length_take]; omega) | (simp; omega)) ne_b350_cb) ?_
     rintro v371 w372 ⟨E373, hO371, hm371⟩
     have dj374 : DJ cv v371 := DJ.step hm371 (fun k hk => (oc.lt k hk).2) dk6
     have dj375 : DJ ca v371 := DJ.step hm371 (fun k hk => (oca.lt k hk).2) dk8
     have dj376 : Dj G0 (Bl v371) := Dj.step hm371 (fun k hk => (hr.lt k hk).2) dk12.symm
     have dj377 : Dj Gb (Bl v371) := Dj.step hm371 (fun k hk => (hKb.lt k hk).2) dk21.symm
     have dj378 : Dj G1 (Bl v371) := Dj.step hm371 (fun k hk => (hkq1.lt k hk).2) dk31.symm
     have dj379 : Dj G2 (Bl v371) := Dj.step hm371 (fun k hk => (hkq2.lt k hk).2) dk41.symm
     have hin380 := inF_step (n := w.heap.size) hm371 (by omega) (fun k _ h => hNd.wg k (hgs k (hB.wc k h)))
     have z_w372 := E373.size
     have hx := hx.keepO ocb E373 (by decide)
     have ok := ok.keepT ocb E373 (by decide)
     have oc := oc.keepD E373 dk6
     have ks : ∀ x9 ∈ K, Own w372 0 5 1 x9.1 x9.2.length (x9.2.map u8v) := fun x9 hx9 => (ks x9 hx9).keepT ocb E373 (by decide)
     have hxa := hxa.keepO ocb E373 (by decide)
     have hxb := hxb.keepO ocb E373 (by decide)
     have oka := oka.keepT ocb E373 (by decide)
     have oca := oca.keepD E373 dk8
     have kas : ∀ x9 ∈ Ka, Own w372 0 5 1 x9.1 x9.2.length (x9.2.map u8v) := fun x9 hx9 => (kas x9 hx9).keepT ocb E373 (by decide)
     have kbs : ∀ x9 ∈ Kb, Own w372 0 5 1 x9.1 x9.2.length (x9.2.map u8v) := fun x9 hx9 => (kbs x9 hx9).keepT ocb E373 (by decide)
     have hr := hr.keepG (Gr.of E373) dk12.symm (NoK.ofOwn ocb (by decide))
     have hKb := hKb.keepG (Gr.of E373) dk21.symm (NoK.ofOwn ocb (by decide))
     have hkq1 := hkq1.keepG (Gr.of E373) dk31.symm (NoK.ofOwn ocb (by decide))
     have hkq2 := hkq2.keepG (Gr.of E373) dk41.symm (NoK.ofOwn ocb (by decide))
     have hB298 := hB298.keepO ocb E373 (by decide)
     have hB352 := hB352.keep E373 (fun hh => ne_b350_cb hh.symm)
     have hO359 := hO359.keepT ocb E373 (by decide)
     have hb := hb.stepL E373 (fun k _ h => hNd.wg k (hgs k (hB.wc k h)))
     have hO371 : Own w372 0 69 1 v371 (Pb.insertIdx 0 (Pa.getD (Ka.length - 1 + 1) default)).length ((Pb.insertIdx 0 (Pa.getD (Ka.length - 1 + 1) default)).flatMap cN) := hO371.cast (by rw [List.length_insertIdx, if_pos (by first | omega | (simp only [List.length_insertIdx, List.length_set, List.length_drop, List.length_take]; omega) | (simp; omega))]) (flat_ins cN_len (Pa.getD (Ka.length - 1 + 1) default) (by first | omega | (simp only [List.length_insertIdx, List.length_set, List.length_drop, List.length_take]; omega) | (simp; omega)))
     refine ktk_end (G := fun t9 w' => 31 ∈ t9 → (Own w' 0 27 1 kv K.length (K.flatMap cK) ∧ Own w' 0 69 1 ca Pa.length (Pa.flatMap cN) ∧ Bx w' (P.getD (i + 1) default) 115 [(Value.slice none 0 0), kb, cb] ∧ Bx w' p 115 [(Value.slice none 0 0), kv, cv] ∧ Bx w' (P.getD i default) 115 [(Value.slice none 0 0), ka, ca])) (todo := [28, 31]) (i := 28) rfl (fun _ => ⟨ok, oca, hxb, hx, hxa⟩) ?_
     refine ktk_step (rs := [31]) (by kernel_rfl) ?_
     refine one_mem ?_
     intro w382 E382 _ a382 hN382 hbs382 hdp382 o_ ho_; obtain rfl := Option.some.inj ho_
     have z_w382 := E382.size
     have hx := hx.keep0 E382
     have ok := ok.keep0 E382
     have oc := oc.keep0 E382
     have ks : ∀ x9 ∈ K, Own w382 0 5 1 x9.1 x9.2.length (x9.2.map u8v) := fun x9 hx9 => (ks x9 hx9).keep0 E382
     have hxa := hxa.keep0 E382
     have hxb := hxb.keep0 E382
     have oka := oka.keep0 E382
     have oca := oca.keep0 E382
     have kas : ∀ x9 ∈ Ka, Own w382 0 5 1 x9.1 x9.2.length (x9.2.map u8v) := fun x9 hx9 => (kas x9 hx9).keep0 E382
     have kbs : ∀ x9 ∈ Kb, Own w382 0 5 1 x9.1 x9.2.length (x9.2.map u8v) := fun x9 hx9 => (kbs x9 hx9).keep0 E382
     have hr := hr.keepG (Gr.of0 E382 NoB) (fun _ _ h => h) (NoK.no _)
     have hKb := hKb.keepG (Gr.of0 E382 NoB) (fun _ _ h => h) (NoK.no _)
     have hkq1 := hkq1.keepG (Gr.of0 E382 NoB) (fun _ _ h => h) (NoK.no _)
     have hkq2 := hkq2.keepG (Gr.of0 E382 NoB) (fun _ _ h => h) (NoK.no _)
     have hB298 := hB298.keep0 E382
     have hB352 := hB352.keep0 E382
     have hO359 := hO359.keep0 E382
     have hO371 := hO371.keep0 E382
     have hb := hb.step0 E382
     have q382_69 : Sl a382 69 (ptr (P.getD (i + 1) default) 1) := (hdp382 30 _ 69 (by kernel_rfl) rfl rfl).2 rfl
     have q382_53 : Sl a382 53 v359 := (Option.some.inj ((hdp382 14 _ 53 (by kernel_rfl) rfl rfl).1 rfl)).symm
     have hxb_old := hxb
     refine op_store (vs := [v359]) (cs' := [(Value.slice none 0 0), v359, cb]) size90 (ev_base hN382 rfl q382_69) (ev_base hN382 rfl q382_53) hO359.cl rfl (by simp only [List.all_cons, List.all_nil, Bool.true_and, Bool.and_true, hO359.one]; try rfl) hxb (Nat.le_of_ble_eq_true rfl) rfl ?_
     intro w385 hxb E386
     have z_w385 := E386.size
     have hx := hx.keep E386 (by simp only [ne_eq, Option.some.injEq]; omega)
     have ok := ok.keepX hxb_old E386 (by decide)
     have oc := oc.keepX hxb_old E386 (by decide)
     have ks : ∀ x9 ∈ K, Own w385 0 5 1 x9.1 x9.2.length (x9.2.map u8v) := fun x9 hx9 => (ks x9 hx9).keepX hxb_old E386 (by decide)
     have hxa := hxa.keep E386 (by simp only [ne_eq, Option.some.injEq]; omega)
     have oka := oka.keepX hxb_old E386 (by decide)
     have oca := oca.keepX hxb_old E386 (by decide)
     have kas : ∀ x9 ∈ Ka, Own w385 0 5 1 x9.1 x9.2.length (x9.2.map u8v) := fun x9 hx9 => (kas x9 hx9).keepX hxb_old E386 (by decide)
     have kbs : ∀ x9 ∈ Kb, Own w385 0 5 1 x9.1 x9.2.length (x9.2.map u8v) := fun x9 hx9 => (kbs x9 hx9).keepX hxb_old E386 (by decide)
     have hr := hr.keepG (Gr.of E386) (Dj.one dk14) (NoK.ofBx hxb_old (by decide))
     have hKb := hKb.keepG (Gr.of E386) (Dj.one dk23) (NoK.ofBx hxb_old (by decide))
     have hkq1 := hkq1.keepG (Gr.of E386) (Dj.one dk33) (NoK.ofBx hxb_old (by decide))
     have hkq2 := hkq2.keepG (Gr.of E386) (Dj.one dk43) (NoK.ofBx hxb_old (by decide))
     have hB298 := hB298.keep E386 (fun hh => hB298.ne hxb_old (by decide) (Option.some.inj hh))
     have hB352 := hB352.keep E386 (fun hh => hB352.ne hxb_old (by decide) (Option.some.inj hh))
     have hO359 := hO359.keepX hxb_old E386 (by decide)
     have hO371 := hO371.keepX hxb_old E386 (by decide)
     have hb := hb.stepB E386 (hNd.wg _ (hgs _ hB.wp))
     refine ktk_end0 (G := fun t9 w' => 31 ∈ t9 → (Own w' 0 27 1 kv K.length (K.flatMap cK) ∧ Own w' 0 69 1 ca Pa.length (Pa.flatMap cN) ∧ Bx w' (P.getD (i + 1) default) 115 [(Value.slice none 0 0), kb, cb] ∧ Bx w' p 115 [(Value.slice none 0 0), kv, cv] ∧ Bx w' (P.getD i default) 115 [(Value.slice none 0 0), ka, ca])) (todo := [31]) (i := 31) rfl (fun h => absurd h (by decide)) ?_
     intro w387 E387 a387 hN387 hd387 hbs387 hph387
     have hd387 := hd387.trans ((by simp only [putsL_defers] : _ = _).trans hd)
     have z_w387 := E387.size
     have hx := hx.keep0 E387
     have ok := ok.keep0 E387
     have oc := oc.keep0 E387
     have ks : ∀ x9 ∈ K, Own w387 0 5 1 x9.1 x9.2.length (x9.2.map u8v) := fun x9 hx9 => (ks x9 hx9).keep0 E387
     have hxa := hxa.keep0 E387
     have oka := oka.keep0 E387
     have oca := oca.keep0 E387
     have kas : ∀ x9 ∈ Ka, Own w387 0 5 1 x9.1 x9.2.length (x9.2.map u8v) := fun x9 hx9 => (kas x9 hx9).keep0 E387
     have kbs : ∀ x9 ∈ Kb, Own w387 0 5 1 x9.1 x9.2.length (x9.2.map u8v) := fun x9 hx9 => (kbs x9 hx9).keep0 E387
     have hr := hr.keepG (Gr.of0 E387 NoB) (fun _ _ h => h) (NoK.no _)
     have hKb := hKb.keepG (Gr.of0 E387 NoB) (fun _ _ h => h) (NoK.no _)
     have hkq1 := hkq1.keepG (Gr.of0 E387 NoB) (fun _ _ h => h) (NoK.no _)
     have hkq2 := hkq2.keepG (Gr.of0 E387 NoB) (fun _ _ h => h) (NoK.no _)
     have hB298 := hB298.keep0 E387
     have hB352 := hB352.keep0 E387
     have hO359 := hO359.keep0 E387
     have hO371 := hO371.keep0 E387
     have hxb := hxb.keep0 E387
     have hb := hb.step0 E387
     have s387_0 := (hbs387 0 rfl).trans (sl_base hN rfl s0)
     have s387_1 := (hbs387 1 rfl).trans (sl_base hN rfl s1)
     have s387_6 := (hbs387 6 rfl).trans (sl_hit hN rfl)
     have s387_7 := (hbs387 7 rfl).trans (sl_hit hN rfl)
     have s387_11 := (hbs387 11 rfl).trans (sl_hit hN rfl)
     have s387_40 : Sl a387 40 (ptr (P.getD (i + 1) default) 0) := (hph387 1 _ 40 rfl rfl).2 rfl
     have s387_67 : Sl a387 67 v371 := (Option.some.inj ((hph387 28 _ 67 rfl rfl).1 rfl)).symm
     refine split_end ?_
     refine from_seq (tl := [_, _, _]) (by decide) (by kernel_rfl) rfl ?_
     refine op_nil (ev_base hN387 rfl s387_40) ?_
     refine op_field fld115_2 (ev_hit hN387 rfl) ?_
     have hxb_old := hxb
     refine op_store (vs := [v371]) (cs' := [(Value.slice none 0 0), v359, v371]) size113 (ev_hit hN387 rfl) (ev_base hN387 rfl s387_67) hO371.cl rfl (by simp only [List.all_cons, List.all_nil, Bool.true_and, Bool.and_true, hO371.one]; try rfl) hxb (Nat.le_of_ble_eq_true rfl) rfl ?_
     intro w390 hxb E391
     have z_w390 := E391.size
     have hx := hx.keep E391 (by simp only [ne_eq, Option.some.injEq]; omega)
     have ok := ok.keepX hxb_old E391 (by decide)
     have oc := oc.keepX hxb_old E391 (by decide)
     have ks : ∀ x9 ∈ K, Own w390 0 5 1 x9.1 x9.2.length (x9.2.map u8v) := fun x9 hx9 => (ks x9 hx9).keepX hxb_old E391 (by decide)
     have hxa := hxa.keep E391 (by simp only [ne_eq, Option.some.injEq]; omega)
     have oka := oka.keepX hxb_old E391 (by decide)
     have oca := oca.keepX hxb_old E391 (by decide)
     have kas : ∀ x9 ∈ Ka, Own w390 0 5 1 x9.1 x9.2.length (x9.2.map u8v) := fun x9 hx9 => (kas x9 hx9).keepX hxb_old E391 (by decide)
     have kbs : ∀ x9 ∈ Kb, Own w390 0 5 1 x9.1 x9.2.length (x9.2.map u8v) := fun x9 hx9 => (kbs x9 hx9).keepX hxb_old E391 (by decide)
     have hr := hr.keepG (Gr.of E391) (Dj.one dk14) (NoK.ofBx hxb_old (by decide))
     have hKb := hKb.keepG (Gr.of E391) (Dj.one dk23) (NoK.ofBx hxb_old (by decide))
     have hkq1 := hkq1.keepG (Gr.of E391) (Dj.one dk33) (NoK.ofBx hxb_old (by decide))
     have hkq2 := hkq2.keepG (Gr.of E391) (Dj.one dk43) (NoK.ofBx hxb_old (by decide))
     have hB298 := hB298.keep E391 (fun hh => hB298.ne hxb_old (by decide) (Option.some.inj hh))
     have hB352 := hB352.keep E391 (fun hh => hB352.ne hxb_old (by decide) (Option.some.inj hh))
     have hO359 := hO359.keepX hxb_old E391 (by decide)
     have hO371 := hO371.keepX hxb_old E391 (by decide)
     have hb := hb.stepB E391 (hNd.wg _ (hgs _ hB.wp))
     refine reg_nil ?_
     refine hK286 _ _ ?_
     exact hJ283 _ _ _ hN387 hd387 ⟨v359, v371, (sl_base hN387 rfl s387_0), (sl_base hN387 rfl s387_1), (sl_base hN387 rfl s387_6), (sl_base hN387 rfl s387_7), (sl_base hN387 rfl s387_11), dj362, dj363, dj364.symm, dj365.symm, dj366.symm, dj367.symm, hin368, dj374, dj375, dj376.symm, dj377.symm, dj378.symm, dj379.symm, hin380, hb, (by omega), hx, ok, oc, ks, hxa, oka, oca, kas, kbs, hr, hKb, hkq1, hkq2, (hO359.cast (n' := (Kb.insertIdx 0 ((K.getD i default).1, (K.getD i default).2)).length) (cs' := (Kb.insertIdx 0 ((K.getD i default).1, (K.getD i default).2)).flatMap cK) (by first | rfl | (simp; done) | (simp only [List.length_append, List.length_cons, List.length_nil]; omega)) (by first | rfl | simp [cK, cN, cI])), (hO371.cast (n' := (Pb.insertIdx 0 (Pa.getD (Ka.length - 1 + 1) default)).length) (cs' := (Pb.insertIdx 0 (Pa.getD (Ka.length - 1 + 1) default)).flatMap cN) (by first | rfl | (simp; done) | (simp only [List.length_append, List.length_cons, List.length_nil]; omega)) (by first | rfl | simp [cK, cN, cI])), hxb⟩
    refine one_mem ?_
    intro w392 E392 _ a392 hN392 hbs392 hdp392 o_ ho_; obtain rfl := Option.some.inj ho_
    have z_w392 := E392.size
    have hx := hx.keep0 E392
    have ok := ok.keep0 E392
    have oc := oc.keep0 E392
    have ks : ∀ x9 ∈ K, Own w392 0 5 1 x9.1 x9.2.length (x9.2.map u8v) := fun x9 hx9 => (ks x9 hx9).keep0 E392
    have hxa := hxa.keep0 E392
    have hxb := hxb.keep0 E392
    have oka := oka.keep0 E392
    have okb := okb.keep0 E392
    have oca := oca.keep0 E392
    have ocb := ocb.keep0 E392
    have kas : ∀ x9 ∈ Ka, Own w392 0 5 1 x9.1 x9.2.length (x9.2.map u8v) := fun x9 hx9 => (kas x9 hx9).keep0 E392
    have kbs : ∀ x9 ∈ Kb, Own w392 0 5 1 x9.1 x9.2.length (x9.2.map u8v) := fun x9 hx9 => (kbs x9 hx9).keep0 E392
    have hr := hr.keepG (Gr.of0 E392 NoB) (fun _ _ h => h) (NoK.no _)
    have hKb := hKb.keepG (Gr.of0 E392 NoB) (fun _ _ h => h) (NoK.no _)
    have hkq1 := hkq1.keepG (Gr.of0 E392 NoB) (fun _ _ h => h) (NoK.no _)
    have hkq2 := hkq2.keepG (Gr.of0 E392 NoB) (fun _ _ h => h) (NoK.no _)
    have hb := hb.step0 E392
    have q392_65 : Sl a392 65 (ptr (Pa.getD (Ka.length - 1 + 1) default) 0) := (hdp392 26 _ 65 (by kernel_rfl) rfl rfl).2 rfl
    refine op_bslice (e := 69) (pv := [(0, (ptr (Pa.getD (Ka.length - 1 + 1) default) 0))]) (cs := [(ptr (Pa.getD (Ka.length - 1 + 1) default) 0)]) ⟨rfl, (ev_base hN392 rfl q392_65), trivial⟩ (by kernel_rfl) ?_
    intro w393 b394 lo_b394 hi_b394 hB396 E395
    have dj397 : ¬ G0 b394 := fun hf => by have := (hr.lt _ hf).2; omega
    have dj398 : ¬ Gb b394 := fun hf => by have := (hKb.lt _ hf).2; omega
    have dj399 : ¬ G1 b394 := fun hf => by have := (hkq1.lt _ hf).2; omega
    have dj400 : ¬ G2 b394 := fun hf => by have := (hkq2.lt _ hf).2; omega
    have ne_b394_cv : cv.ownBlock ≠ some b394 := fun hh => by have := (oc.lt _ hh).2; omega
    have ne_b394_ca : ca.ownBlock ≠ some b394 := fun hh => by have := (oca.lt _ hh).2; omega
    have ne_b394_cb : cb.ownBlock ≠ some b394 := fun hh => by have := (ocb.lt _ hh).2; omega
    have z_w393 := E395.size
    have hx := hx.keep0 E395
    have ok := ok.keep0 E395
    have oc := oc.keep0 E395
    have ks : ∀ x9 ∈ K, Own w393 0 5 1 x9.1 x9.2.length (x9.2.map u8v) := fun x9 hx9 => (ks x9 hx9).keep0 E395
    have hxa := hxa.keep0 E395
    have hxb := hxb.keep0 E395
    have oka := oka.keep0 E395
    have okb := okb.keep0 E395
    have oca := oca.keep0 E395
    have ocb := ocb.keep0 E395
    have kas : ∀ x9 ∈ Ka, Own w393 0 5 1 x9.1 x9.2.length (x9.2.map u8v) := fun x9 hx9 => (kas x9 hx9).keep0 E395
    have kbs : ∀ x9 ∈ Kb, Own w393 0 5 1 x9.1 x9.2.length (x9.2.map u8v) := fun x9 hx9 => (kbs x9 hx9).keep0 E395
    have hr := hr.keepG (Gr.of0 E395 NoB) (fun _ _ h => h) (NoK.no _)
    have hKb := hKb.keepG (Gr.of0 E395 NoB) (fun _ _ h => h) (NoK.no _)
    have hkq1 := hkq1.keepG (Gr.of0 E395 NoB) (fun _ _ h => h) (NoK.no _)
    have hkq2 := hkq2.keepG (Gr.of0 E395 NoB) (fun _ _ h => h) (NoK.no _)
    have hb := hb.step0 E395
    refine ktk_end (G := fun t9 w' => 31 ∈ t9 → (Own w' 0 27 1 kv K.length (K.flatMap cK) ∧ Own w' 0 69 1 ca Pa.length (Pa.flatMap cN) ∧ Bx w' (P.getD (i + 1) default) 115 [(Value.slice none 0 0), kb, cb] ∧ Bx w' p 115 [(Value.slice none 0 0), kv, cv] ∧ Bx w' (P.getD i default) 115 [(Value.slice none 0 0), ka, ca])) (todo := [13, 14, 27, 28, 31]) (i := 27) rfl (fun _ => ⟨ok, oca, hxb, hx, hxa⟩) ?_
    refine ktk_step (rs := [13]) (by kernel_rfl) ?_
    refine one_mem ?_
    intro w402 E402 _ a402 hN402 hbs402 hdp402 o_ ho_; obtain rfl := Option.some.inj ho_
    have z_w402 := E402.size
    have hx := hx.keep0 E402
    have ok := ok.keep0 E402
    have oc := oc.keep0 E402
    have ks : ∀ x9 ∈ K, Own w402 0 5 1 x9.1 x9.2.length (x9.2.map u8v) := fun x9 hx9 => (ks x9 hx9).keep0 E402
    have hxa := hxa.keep0 E402
    have hxb := hxb.keep0 E402
    have oka := oka.keep0 E402
    have okb := okb.keep0 E402
    have oca := oca.keep0 E402
    have ocb := ocb.keep0 E402
    have kas : ∀ x9 ∈ Ka, Own w402 0 5 1 x9.1 x9.2.length (x9.2.map u8v) := fun x9 hx9 => (kas x9 hx9).keep0 E402
    have kbs : ∀ x9 ∈ Kb, Own w402 0 5 1 x9.1 x9.2.length (x9.2.map u8v) := fun x9 hx9 => (kbs x9 hx9).keep0 E402
    have hr := hr.keepG (Gr.of0 E402 NoB) (fun _ _ h => h) (NoK.no _)
    have hKb := hKb.keepG (Gr.of0 E402 NoB) (fun _ _ h => h) (NoK.no _)
    have hkq1 := hkq1.keepG (Gr.of0 E402 NoB) (fun _ _ h => h) (NoK.no _)
    have hkq2 := hkq2.keepG (Gr.of0 E402 NoB) (fun _ _ h => h) (NoK.no _)
    have hB396 := hB396.keep0 E402
    have hb := hb.step0 E402
    have q402_51 : Sl a402 51 (K.getD i default).1 := (hdp402 12 _ 51 (by kernel_rfl) rfl rfl).2 rfl
    refine op_bslice (e := 27) (pv := [(0, (K.getD i default).1)]) (cs := [(K.getD i default).1]) ⟨rfl, (ev_base hN402 rfl q402_51), trivial⟩ (by obtain ⟨_, _, _, hq9⟩ := (show Own _ _ _ _ (K.getD i default).1 (K.getD i default).2.length ((K.getD i default).2.map u8v) from ks (K.getD i default) (getD_mem (by first | omega | (simp only [List.length_drop, List.length_take]; omega)))).sl; rw [hq9]; kernel_rfl) ?_
    intro w403 b404 lo_b404 hi_b404 hB406 E405
    have dj407 : ¬ G0 b404 := fun hf => by have := (hr.lt _ hf).2; omega
    have dj408 : ¬ Gb b404 := fun hf => by have := (hKb.lt _ hf).2; omega
    have dj409 : ¬ G1 b404 := fun hf => by have := (hkq1.lt _ hf).2; omega
    have dj410 : ¬ G2 b404 := fun hf => by have := (hkq2.lt _ hf).2; omega
    have ne_b404_kv : kv.ownBlock ≠ some b404 := fun hh => by have := (ok.lt _ hh).2; omega
    have ne_b404_ka : ka.ownBlock ≠ some b404 := fun hh => by have := (oka.lt _ hh).2; omega
    have ne_b404_kb : kb.ownBlock ≠ some b404 := fun hh => by have := (okb.lt _ hh).2; omega
    have z_w403 := E405.size
    have hx := hx.keep0 E405
    have ok := ok.keep0 E405
    have oc := oc.keep0 E405
    have ks : ∀ x9 ∈ K, Own w403 0 5 1 x9.1 x9.2.length (x9.2.map u8v) := fun x9 hx9 => (ks x9 hx9).keep0 E405
    have hxa := hxa.keep0 E405
    have hxb := hxb.keep0 E405
    have oka := oka.keep0 E405
    have okb := okb.keep0 E405
    have oca := oca.keep0 E405
    have ocb := ocb.keep0 E405
    have kas : ∀ x9 ∈ Ka, Own w403 0 5 1 x9.1 x9.2.length (x9.2.map u8v) := fun x9 hx9 => (kas x9 hx9).keep0 E405
    have kbs : ∀ x9 ∈ Kb, Own w403 0 5 1 x9.1 x9.2.length (x9.2.map u8v) := fun x9 hx9 => (kbs x9 hx9).keep0 E405
    have hr := hr.keepG (Gr.of0 E405 NoB) (fun _ _ h => h) (NoK.no _)
    have hKb := hKb.keepG (Gr.of0 E405 NoB) (fun _ _ h => h) (NoK.no _)
    have hkq1 := hkq1.keepG (Gr.of0 E405 NoB) (fun _ _ h => h) (NoK.no _)
    have hkq2 := hkq2.keepG (Gr.of0 E405 NoB) (fun _ _ h => h) (NoK.no _)
    have hB396 := hB396.keep0 E405
    have hb := hb.step0 E405
    refine ktk_end (G := fun t9 w' => 31 ∈ t9 → (Own w' 0 27 1 kv K.length (K.flatMap cK) ∧ Own w' 0 69 1 ca Pa.length (Pa.flatMap cN) ∧ Bx w' (P.getD (i + 1) default) 115 [(Value.slice none 0 0), kb, cb] ∧ Bx w' p 115 [(Value.slice none 0 0), kv, cv] ∧ Bx w' (P.getD i default) 115 [(Value.slice none 0 0), ka, ca])) (todo := [13, 14, 28, 31]) (i := 13) rfl (fun _ => ⟨ok, oca, hxb, hx, hxa⟩) ?_
    refine ktk_step (rs := [14]) (by kernel_rfl) ?_
    refine one_mem ?_
    intro w412 E412 _ a412 hN412 hbs412 hdp412 o_ ho_; obtain rfl := Option.some.inj ho_
    have z_w412 := E412.size
    have hx := hx.keep0 E412
    have ok := ok.keep0 E412
    have oc := oc.keep0 E412
    have ks : ∀ x9 ∈ K, Own w412 0 5 1 x9.1 x9.2.length (x9.2.map u8v) := fun x9 hx9 => (ks x9 hx9).keep0 E412
    have hxa := hxa.keep0 E412
    have hxb := hxb.keep0 E412
    have oka := oka.keep0 E412
    have okb := okb.keep0 E412
    have oca := oca.keep0 E412
    have ocb := ocb.keep0 E412
    have kas : ∀ x9 ∈ Ka, Own w412 0 5 1 x9.1 x9.2.length (x9.2.map u8v) := fun x9 hx9 => (kas x9 hx9).keep0 E412
    have kbs : ∀ x9 ∈ Kb, Own w412 0 5 1 x9.1 x9.2.length (x9.2.map u8v) := fun x9 hx9 => (kbs x9 hx9).keep0 E412
    have hr := hr.keepG (Gr.of0 E412 NoB) (fun _ _ h => h) (NoK.no _)
    have hKb := hKb.keepG (Gr.of0 E412 NoB) (fun _ _ h => h) (NoK.no _)
    have hkq1 := hkq1.keepG (Gr.of0 E412 NoB) (fun _ _ h => h) (NoK.no _)
    have hkq2 := hkq2.keepG (Gr.of0 E412 NoB) (fun _ _ h => h) (NoK.no _)
    have hB396 := hB396.keep0 E412
    have hB406 := hB406.keep0 E412
    have hb := hb.step0 E412
    have q412_44 : Sl a412 44 kb := (hdp412 5 _ 44 (by kernel_rfl) rfl rfl).2 rfl
    have q412_52 : Sl a412 52 (Value.slice (some ⟨b404, 0, none⟩) 1 1) := (Option.some.inj ((hdp412 13 _ 52 (by kernel_rfl) rfl rfl).1 rfl)).symm
    refine op_fn (vs := [kb, (Value.int .i64 0), (Value.slice (some ⟨b404, 0, none⟩) 1 1)]) ok67 ⟨(ev_base hN412 rfl q412_44), ⟨rfl, ⟨(ev_base hN412 rfl q412_52), trivial⟩⟩⟩ (InsK okb hB406 (one_kd kbs (fun _ h => h)) (by simp only [List.all_cons, List.all_nil, Bool.true_and, Bool.and_true, (own_one (show Own _ _ _ _ (K.getD i default).1 (K.getD i default).2.length ((K.getD i default).2.map u8v) from ks (K.getD i default) (getD_mem (by first | omega | (simp only [List.length_drop, List.length_take]; omega)))))]; try rfl) (by first | omega | (simp only [List.length_insertIdx, List.length_set, List.length_drop, List.length_take]; omega) | (simp; omega)) (by first | omega | (simp only [List.length_insertIdx, List.length_set, List.length_drop, List.length_take]; omega) | (simp; omega)) ne_b404_kb) ?_
    rintro v413 w414 ⟨E415, hO413, hm413⟩
    have dj416 : DJ kv v413 := DJ.step hm413 (fun k hk => (ok.lt k hk).2) dk4
    have dj417 : DJ ka v413 := DJ.step hm413 (fun k hk => (oka.lt k hk).2) dk7
    have dj418 : Dj G0 (Bl v413) := Dj.step hm413 (fun k hk => (hr.lt k hk).2) dk11.symm
    have dj419 : Dj Gb (Bl v413) := Dj.step hm413 (fun k hk => (hKb.lt k hk).2) dk20.symm
    have dj420 : Dj G1 (Bl v413) := Dj.step hm413 (fun k hk => (hkq1.lt k hk).2) dk30.symm
    have dj421 : Dj G2 (Bl v413) := Dj.step hm413 (fun k hk => (hkq2.lt k hk).2) dk40.symm
    have hin422 := inF_step (n := w.heap.size) hm413 (by omega) (fun k _ h => hNd.wg k (hgs k (hB.wk k h)))
    have z_w414 := E415.size
    have hx := hx.keepO okb E415 (by decide)
    have ok := ok.keepD E415 dk4
    have oc := oc.keepT okb E415 (by decide)
    have ks : ∀ x9 ∈ K, Own w414 0 5 1 x9.1 x9.2.length (x9.2.map u8v) := fun x9 hx9 => (ks x9 hx9).keepT okb E415 (by decide)
    have hxa := hxa.keepO okb E415 (by decide)
    have hxb := hxb.keepO okb E415 (by decide)
    have oka := oka.keepD E415 dk7
    have oca := oca.keepT okb E415 (by decide)
    have ocb := ocb.keepT okb E415 (by decide)
    have kas : ∀ x9 ∈ Ka, Own w414 0 5 1 x9.1 x9.2.length (x9.2.map u8v) := fun x9 hx9 => (kas x9 hx9).keepT okb E415 (by decide)
    have kbs : ∀ x9 ∈ Kb, Own w414 0 5 1 x9.1 x9.2.length (x9.2.map u8v) := fun x9 hx9 => (kbs x9 hx9).keepT okb E415 (by decide)
    have hr := hr.keepG (Gr.of E415) dk11.symm (NoK.ofOwn okb (by decide))
    have hKb := hKb.keepG (Gr.of E415) dk20.symm (NoK.ofOwn okb (by decide))
    have hkq1 := hkq1.keepG (Gr.of E415) dk30.symm (NoK.ofOwn okb (by decide))
    have hkq2 := hkq2.keepG (Gr.of E415) dk40.symm (NoK.ofOwn okb (by decide))
    have hB396 := hB396.keepO okb E415 (by decide)
    have hB406 := hB406.keep E415 (fun hh => ne_b404_kb hh.symm)
    have hb := hb.stepL E415 (fun k _ h => hNd.wg k (hgs k (hB.wk k h)))
    have hO413 : Own w414 0 27 1 v413 (Kb.insertIdx 0 ((K.getD i default).1, (K.getD i default).2)).length ((Kb.insertIdx 0 ((K.getD i default).1, (K.getD i default).2)).flatMap cK) := hO413.cast (by rw [List.length_insertIdx, if_pos (by first | omega | (simp only [List.length_insertIdx, List.length_set, List.length_drop, List.length_take]; omega) | (simp; omega))]) (flat_ins cK_len ((K.getD i default).1, (K.getD i default).2) (by first | omega | (simp only [List.length_insertIdx, List.length_set, List.length_drop, List.length_take]; omega) | (simp; omega)))
    refine ktk_end (G := fun t9 w' => 31 ∈ t9 → (Own w' 0 27 1 kv K.length (K.flatMap cK) ∧ Own w' 0 69 1 ca Pa.length (Pa.flatMap cN) ∧ Bx w' (P.getD (i + 1) default) 115 [(Value.slice none 0 0), kb, cb] ∧ Bx w' p 115 [(Value.slice none 0 0), kv, cv] ∧ Bx w' (P.getD i default) 115 [(Value.slice none 0 0), ka, ca])) (todo := [14, 28, 31]) (i := 14) rfl (fun _ => ⟨ok, oca, hxb, hx, hxa⟩) ?_
    refine ktk_step (rs := [28]) (by kernel_rfl) ?_
    refine one_mem ?_
    intro w424 E424 _ a424 hN424 hbs424 hdp424 o_ ho_; obtain rfl := Option.some.inj ho_
    have z_w424 := E424.size
    have hx := hx.keep0 E424
    have ok := ok.keep0 E424
    have oc := oc.keep0 E424
    have ks : ∀ x9 ∈ K, Own w424 0 5 1 x9.1 x9.2.length (x9.2.map u8v) := fun x9 hx9 => (ks x9 hx9).keep0 E424
    have hxa := hxa.keep0 E424
    have hxb := hxb.keep0 E424
    have oka := oka.keep0 E424
    have oca := oca.keep0 E424
    have ocb := ocb.keep0 E424
    have kas : ∀ x9 ∈ Ka, Own w424 0 5 1 x9.1 x9.2.length (x9.2.map u8v) := fun x9 hx9 => (kas x9 hx9).keep0 E424
    have kbs : ∀ x9 ∈ Kb, Own w424 0 5 1 x9.1 x9.2.length (x9.2.map u8v) := fun x9 hx9 => (kbs x9 hx9).keep0 E424
    have hr := hr.keepG (Gr.of0 E424 NoB) (fun _ _ h => h) (NoK.no _)
    have hKb := hKb.keepG (Gr.of0 E424 NoB) (fun _ _ h => h) (NoK.no _)
    have hkq1 := hkq1.keepG (Gr.of0 E424 NoB) (fun _ _ h => h) (NoK.no _)
    have hkq2 := hkq2.keepG (Gr.of0 E424 NoB) (fun _ _ h => h) (NoK.no _)
    have hB396 := hB396.keep0 E424
    have hB406 := hB406.keep0 E424
    have hO413 := hO413.keep0 E424
    have hb := hb.step0 E424
    have q424_57 : Sl a424 57 cb := (hdp424 18 _ 57 (by kernel_rfl) rfl rfl).2 rfl
    have q424_66 : Sl a424 66 (Value.slice (some ⟨b394, 0, none⟩) 1 1) := (Option.some.inj ((hdp424 27 _ 66 (by kernel_rfl) rfl rfl).1 rfl)).symm
    refine op_fn (vs := [cb, (Value.int .i64 0), (Value.slice (some ⟨b394, 0, none⟩) 1 1)]) ok85 ⟨(ev_base hN424 rfl q424_57), ⟨rfl, ⟨(ev_base hN424 rfl q424_66), trivial⟩⟩⟩ (InsNI ocb hB396 (one_pn _) rfl (by first | omega | (simp only [List.length_insertIdx, List.length_set, List.length_drop, List.length_take]; omega) | (simp; omega)) (by first | omega | (simp only [List.length_insertIdx, List.length_set, List.length_drop, List.length_take]; omega) | (simp; omega)) ne_b394_cb) ?_
    rintro v425 w426 ⟨E427, hO425, hm425⟩
    have dj428 : DJ cv v425 := DJ.step hm425 (fun k hk => (oc.lt k hk).2) dk6
    have dj429 : DJ ca v425 := DJ.step hm425 (fun k hk => (oca.lt k hk).2) dk8
    have dj430 : Dj G0 (Bl v425) := Dj.step hm425 (fun k hk => (hr.lt k hk).2) dk12.symm
    have dj431 : Dj Gb (Bl v425) := Dj.step hm425 (fun k hk => (hKb.lt k hk).2) dk21.symm
    have dj432 : Dj G1 (Bl v425) := Dj.step hm425 (fun k hk => (hkq1.lt k hk).2) dk31.symm
    have dj433 : Dj G2 (Bl v425) := Dj.step hm425 (fun k hk => (hkq2.lt k hk).2) dk41.symm
    have hin434 := inF_step (n := w.heap.size) hm425 (by omega) (fun k _ h => hNd.wg k (hgs k (hB.wc k h)))
    have z_w426 := E427.size
    have hx := hx.keepO ocb E427 (by decide)
    have ok := ok.keepT ocb E427 (by decide)
    have oc := oc.keepD E427 dk6
    have ks : ∀ x9 ∈ K, Own w426 0 5 1 x9.1 x9.2.length (x9.2.map u8v) := fun x9 hx9 => (ks x9 hx9).keepT ocb E427 (by decide)
    have hxa := hxa.keepO ocb E427 (by decide)
    have hxb := hxb.keepO ocb E427 (by decide)
    have oka := oka.keepT ocb E427 (by decide)
    have oca := oca.keepD E427 dk8
    have kas : ∀ x9 ∈ Ka, Own w426 0 5 1 x9.1 x9.2.length (x9.2.map u8v) := fun x9 hx9 => (kas x9 hx9).keepT ocb E427 (by decide)
    have kbs : ∀ x9 ∈ Kb, Own w426 0 5 1 x9.1 x9.2.length (x9.2.map u8v) := fun x9 hx9 => (kbs x9 hx9).keepT ocb E427 (by decide)
    have hr := hr.keepG (Gr.of E427) dk12.symm (NoK.ofOwn ocb (by decide))
    have hKb := hKb.keepG (Gr.of E427) dk21.symm (NoK.ofOwn ocb (by decide))
    have hkq1 := hkq1.keepG (Gr.of E427) dk31.symm (NoK.ofOwn ocb (by decide))
    have hkq2 := hkq2.keepG (Gr.of E427) dk41.symm (NoK.ofOwn ocb (by decide))
    have hB396 := hB396.keep E427 (fun hh => ne_b394_cb hh.symm)
    have hB406 := hB406.keepO ocb E427 (by decide)
    have hO413 := hO413.keepT ocb E427 (by decide)
    have hb := hb.stepL E427 (fun k _ h => hNd.wg k (hgs k (hB.wc k h)))
    have hO425 : Own w426 0 69 1 v425 (Pb.insertIdx 0 (Pa.getD (Ka.length - 1 + 1) default)).length ((Pb.insertIdx 0 (Pa.getD (Ka.length - 1 + 1) default)).flatMap cN) := hO425.cast (by rw [List.length_insertIdx, if_pos (by first | omega | (simp only [List.length_insertIdx, List.length_set, List.length_drop, List.length_take]; omega) | (simp; omega))]) (flat_ins cN_len (Pa.getD (Ka.length - 1 + 1) default) (by first | omega | (simp only [List.length_insertIdx, List.length_set, List.length_drop, List.length_take]; omega) | (simp; omega)))
    refine ktk_end (G := fun t9 w' => 31 ∈ t9 → (Own w' 0 27 1 kv K.length (K.flatMap cK) ∧ Own w' 0 69 1 ca Pa.length (Pa.flatMap cN) ∧ Bx w' (P.getD (i + 1) default) 115 [(Value.slice none 0 0), kb, cb] ∧ Bx w' p 115 [(Value.slice none 0 0), kv, cv] ∧ Bx w' (P.getD i default) 115 [(Value.slice none 0 0), ka, ca])) (todo := [28, 31]) (i := 28) rfl (fun _ => ⟨ok, oca, hxb, hx, hxa⟩) ?_
    refine ktk_step (rs := [31]) (by kernel_rfl) ?_
    refine one_mem ?_
    intro w436 E436 _ a436 hN436 hbs436 hdp436 o_ ho_; obtain rfl := Option.some.inj ho_
    have z_w436 := E436.size
    have hx := hx.keep0 E436
    have ok := ok.keep0 E436
    have oc := oc.keep0 E436
    have ks : ∀ x9 ∈ K, Own w436 0 5 1 x9.1 x9.2.length (x9.2.map u8v) := fun x9 hx9 => (ks x9 hx9).keep0 E436
    have hxa := hxa.keep0 E436
    have hxb := hxb.keep0 E436
    have oka := oka.keep0 E436
    have oca := oca.keep0 E436
    have kas : ∀ x9 ∈ Ka, Own w436 0 5 1 x9.1 x9.2.length (x9.2.map u8v) := fun x9 hx9 => (kas x9 hx9).keep0 E436
    have kbs : ∀ x9 ∈ Kb, Own w436 0 5 1 x9.1 x9.2.length (x9.2.map u8v) := fun x9 hx9 => (kbs x9 hx9).keep0 E436
    have hr := hr.keepG (Gr.of0 E436 NoB) (fun _ _ h => h) (NoK.no _)
    have hKb := hKb.keepG (Gr.of0 E436 NoB) (fun _ _ h => h) (NoK.no _)
    have hkq1 := hkq1.keepG (Gr.of0 E436 NoB) (fun _ _ h => h) (NoK.no _)
    have hkq2 := hkq2.keepG (Gr.of0 E436 NoB) (fun _ _ h => h) (NoK.no _)
    have hB396 := hB396.keep0 E436
    have hB406 := hB406.keep0 E436
    have hO413 := hO413.keep0 E436
    have hO425 := hO425.keep0 E436
    have hb := hb.step0 E436
    have q436_69 : Sl a436 69 (ptr (P.getD (i + 1) default) 1) := (hdp436 30 _ 69 (by kernel_rfl) rfl rfl).2 rfl
    have q436_53 : Sl a436 53 v413 := (Option.some.inj ((hdp436 14 _ 53 (by kernel_rfl) rfl rfl).1 rfl)).symm
    have hxb_old := hxb
    refine op_store (vs := [v413]) (cs' := [(Value.slice none 0 0), v413, cb]) size90 (ev_base hN436 rfl q436_69) (ev_base hN436 rfl q436_53) hO413.cl rfl (by simp only [List.all_cons, List.all_nil, Bool.true_and, Bool.and_true, hO413.one]; try rfl) hxb (Nat.le_of_ble_eq_true rfl) rfl ?_
    intro w439 hxb E440
    have z_w439 := E440.size
    have hx := hx.keep E440 (by simp only [ne_eq, Option.some.injEq]; omega)
    have ok := ok.keepX hxb_old E440 (by decide)
    have oc := oc.keepX hxb_old E440 (by decide)
    have ks : ∀ x9 ∈ K, Own w439 0 5 1 x9.1 x9.2.length (x9.2.map u8v) := fun x9 hx9 => (ks x9 hx9).keepX hxb_old E440 (by decide)
    have hxa := hxa.keep E440 (by simp only [ne_eq, Option.some.injEq]; omega)
    have oka := oka.keepX hxb_old E440 (by decide)
    have oca := oca.keepX hxb_old E440 (by decide)
    have kas : ∀ x9 ∈ Ka, Own w439 0 5 1 x9.1 x9.2.length (x9.2.map u8v) := fun x9 hx9 => (kas x9 hx9).keepX hxb_old E440 (by decide)
    have kbs : ∀ x9 ∈ Kb, Own w439 0 5 1 x9.1 x9.2.length (x9.2.map u8v) := fun x9 hx9 => (kbs x9 hx9).keepX hxb_old E440 (by decide)
    have hr := hr.keepG (Gr.of E440) (Dj.one dk14) (NoK.ofBx hxb_old (by decide))
    have hKb := hKb.keepG (Gr.of E440) (Dj.one dk23) (NoK.ofBx hxb_old (by decide))
    have hkq1 := hkq1.keepG (Gr.of E440) (Dj.one dk33) (NoK.ofBx hxb_old (by decide))
    have hkq2 := hkq2.keepG (Gr.of E440) (Dj.one dk43) (NoK.ofBx hxb_old (by decide))
    have hB396 := hB396.keep E440 (fun hh => hB396.ne hxb_old (by decide) (Option.some.inj hh))
    have hB406 := hB406.keep E440 (fun hh => hB406.ne hxb_old (by decide) (Option.some.inj hh))
    have hO413 := hO413.keepX hxb_old E440 (by decide)
    have hO425 := hO425.keepX hxb_old E440 (by decide)
    have hb := hb.stepB E440 (hNd.wg _ (hgs _ hB.wp))
    refine ktk_end0 (G := fun t9 w' => 31 ∈ t9 → (Own w' 0 27 1 kv K.length (K.flatMap cK) ∧ Own w' 0 69 1 ca Pa.length (Pa.flatMap cN) ∧ Bx w' (P.getD (i + 1) default) 115 [(Value.slice none 0 0), kb, cb] ∧ Bx w' p 115 [(Value.slice none 0 0), kv, cv] ∧ Bx w' (P.getD i default) 115 [(Value.slice none 0 0), ka, ca])) (todo := [31]) (i := 31) rfl (fun h => absurd h (by decide)) ?_
    intro w441 E441 a441 hN441 hd441 hbs441 hph441
    have hd441 := hd441.trans ((by simp only [putsL_defers] : _ = _).trans hd)
    have z_w441 := E441.size
    have hx := hx.keep0 E441
    have ok := ok.keep0 E441
    have oc := oc.keep0 E441
    have ks : ∀ x9 ∈ K, Own w441 0 5 1 x9.1 x9.2.length (x9.2.map u8v) := fun x9 hx9 => (ks x9 hx9).keep0 E441
    have hxa := hxa.keep0 E441
    have oka := oka.keep0 E441
    have oca := oca.keep0 E441
    have kas : ∀ x9 ∈ Ka, Own w441 0 5 1 x9.1 x9.2.length (x9.2.map u8v) := fun x9 hx9 => (kas x9 hx9).keep0 E441
    have kbs : ∀ x9 ∈ Kb, Own w441 0 5 1 x9.1 x9.2.length (x9.2.map u8v) := fun x9 hx9 => (kbs x9 hx9).keep0 E441
    have hr := hr.keepG (Gr.of0 E441 NoB) (fun _ _ h => h) (NoK.no _)
    have hKb := hKb.keepG (Gr.of0 E441 NoB) (fun _ _ h => h) (NoK.no _)
    have hkq1 := hkq1.keepG (Gr.of0 E441 NoB) (fun _ _ h => h) (NoK.no _)
    have hkq2 := hkq2.keepG (Gr.of0 E441 NoB) (fun _ _ h => h) (NoK.no _)
    have hB396 := hB396.keep0 E441
    have hB406 := hB406.keep0 E441
    have hO413 := hO413.keep0 E441
    have hO425 := hO425.keep0 E441
    have hxb := hxb.keep0 E441
    have hb := hb.step0 E441
    have s441_0 := (hbs441 0 rfl).trans (sl_base hN rfl s0)
    have s441_1 := (hbs441 1 rfl).trans (sl_base hN rfl s1)
    have s441_6 := (hbs441 6 rfl).trans (sl_hit hN rfl)
    have s441_7 := (hbs441 7 rfl).trans (sl_hit hN rfl)
    have s441_11 := (hbs441 11 rfl).trans (sl_hit hN rfl)
    have s441_40 : Sl a441 40 (ptr (P.getD (i + 1) default) 0) := (hph441 1 _ 40 rfl rfl).2 rfl
    have s441_67 : Sl a441 67 v425 := (Option.some.inj ((hph441 28 _ 67 rfl rfl).1 rfl)).symm
    refine split_end ?_
    refine from_seq (tl := [_, _, _]) (by decide) (by kernel_rfl) rfl ?_
    refine op_nil (ev_base hN441 rfl s441_40) ?_
    refine op_field fld115_2 (ev_hit hN441 rfl) ?_
    have hxb_old := hxb
    refine op_store (vs := [v425]) (cs' := [(Value.slice none 0 0), v413, v425]) size113 (ev_hit hN441 rfl) (ev_base hN441 rfl s441_67) hO425.cl rfl (by simp only [List.all_cons, List.all_nil, Bool.true_and, Bool.and_true, hO425.one]; try rfl) hxb (Nat.le_of_ble_eq_true rfl) rfl ?_
    intro w444 hxb E445
    have z_w444 := E445.size
    have hx := hx.keep E445 (by simp only [ne_eq, Option.some.injEq]; omega)
    have ok := ok.keepX hxb_old E445 (by decide)
    have oc := oc.keepX hxb_old E445 (by decide)
    have ks : ∀ x9 ∈ K, Own w444 0 5 1 x9.1 x9.2.length (x9.2.map u8v) := fun x9 hx9 => (ks x9 hx9).keepX hxb_old E445 (by decide)
    have hxa := hxa.keep E445 (by simp only [ne_eq, Option.some.injEq]; omega)
    have oka := oka.keepX hxb_old E445 (by decide)
    have oca := oca.keepX hxb_old E445 (by decide)
    have kas : ∀ x9 ∈ Ka, Own w444 0 5 1 x9.1 x9.2.length (x9.2.map u8v) := fun x9 hx9 => (kas x9 hx9).keepX hxb_old E445 (by decide)
    have kbs : ∀ x9 ∈ Kb, Own w444 0 5 1 x9.1 x9.2.length (x9.2.map u8v) := fun x9 hx9 => (kbs x9 hx9).keepX hxb_old E445 (by decide)
    have hr := hr.keepG (Gr.of E445) (Dj.one dk14) (NoK.ofBx hxb_old (by decide))
    have hKb := hKb.keepG (Gr.of E445) (Dj.one dk23) (NoK.ofBx hxb_old (by decide))
    have hkq1 := hkq1.keepG (Gr.of E445) (Dj.one dk33) (NoK.ofBx hxb_old (by decide))
    have hkq2 := hkq2.keepG (Gr.of E445) (Dj.one dk43) (NoK.ofBx hxb_old (by decide))
    have hB396 := hB396.keep E445 (fun hh => hB396.ne hxb_old (by decide) (Option.some.inj hh))
    have hB406 := hB406.keep E445 (fun hh => hB406.ne hxb_old (by decide) (Option.some.inj hh))
    have hO413 := hO413.keepX hxb_old E445 (by decide)
    have hO425 := hO425.keepX hxb_old E445 (by decide)
    have hb := hb.stepB E445 (hNd.wg _ (hgs _ hB.wp))
    refine reg_nil ?_
    refine hK286 _ _ ?_
    exact hJ283 _ _ _ hN441 hd441 ⟨v413, v425, (sl_base hN441 rfl s441_0), (sl_base hN441 rfl s441_1), (sl_base hN441 rfl s441_6), (sl_base hN441 rfl s441_7), (sl_base hN441 rfl s441_11), dj416, dj417, dj418.symm, dj419.symm, dj420.symm, dj421.symm, hin422, dj428, dj429, dj430.symm, dj431.symm, dj432.symm, dj433.symm, hin434, hb, (by omega), hx, ok, oc, ks, hxa, oka, oca, kas, kbs, hr, hKb, hkq1, hkq2, (hO413.cast (n' := (Kb.insertIdx 0 ((K.getD i default).1, (K.getD i default).2)).length) (cs' := (Kb.insertIdx 0 ((K.getD i default).1, (K.getD i default).2)).flatMap cK) (by first | rfl | (simp; done) | (simp only [List.length_append, List.length_cons, List.length_nil]; omega)) (by first | rfl | simp [cK, cN, cI])), (hO425.cast (n' := (Pb.insertIdx 0 (Pa.getD (Ka.length - 1 + 1) default)).length) (cs' := (Pb.insertIdx 0 (Pa.getD (Ka.length - 1 + 1) default)).flatMap cN) (by first | rfl | (simp; done) | (simp only [List.length_append, List.length_cons, List.length_nil]; omega)) (by first | rfl | simp [cK, cN, cI])), hxb⟩
  ·
   rintro a283 w283 hN283 hd283 ⟨vk, vc, s283_0, s283_1, s283_6, s283_7, s283_11, dj268, dj269, dj270, dj271, dj272, dj273, hin274, dj275, dj276, dj277, dj278, dj279, dj280, hin281, hb, zl_w283, hx, ok, oc, ks, hxa, oka, oca, kas, kbs, hr, hKb, hkq1, hkq2, hO284, hO285, hbj282⟩
   have z_w283 := hb.size
   refine seq_any fun K446 hK446 => ?_
   refine reg_from mixed ?_
   intro w448 E447
   have z_w448 := E447.size
   have hx := hx.keep0 E447
   have ok := ok.keep0 E447
   have oc := oc.keep0 E447
   have ks : ∀ x9 ∈ K, Own w448 0 5 1 x9.1 x9.2.length (x9.2.map u8v) := fun x9 hx9 => (ks x9 hx9).keep0 E447
   have hxa := hxa.keep0 E447
   have oka := oka.keep0 E447
   have oca := oca.keep0 E447
   have kas : ∀ x9 ∈ Ka, Own w448 0 5 1 x9.1 x9.2.length (x9.2.map u8v) := fun x9 hx9 => (kas x9 hx9).keep0 E447
   have kbs : ∀ x9 ∈ Kb, Own w448 0 5 1 x9.1 x9.2.length (x9.2.map u8v) := fun x9 hx9 => (kbs x9 hx9).keep0 E447
   have hr := hr.keepG (Gr.of0 E447 NoB) (fun _ _ h => h) (NoK.no _)
   have hKb := hKb.keepG (Gr.of0 E447 NoB) (fun _ _ h => h) (NoK.no _)
   have hkq1 := hkq1.keepG (Gr.of0 E447 NoB) (fun _ _ h => h) (NoK.no _)
   have hkq2 := hkq2.keepG (Gr.of0 E447 NoB) (fun _ _ h => h) (NoK.no _)
   have hO284 := hO284.keep0 E447
   have hO285 := hO285.keep0 E447
   have hbj282 := hbj282.keep0 E447
   have hb := hb.step0 E447
   refine from_still (m := 13) 13 (hd := [_, _, _, _, _, _, _, _, _, _, _, _, _]) (by kernel_rfl) rfl rfl ?_
   refine st_step rfl (fun _ h9 => op_move (ev_base hN283 rfl s283_0) h9) ?_
   refine st_step rfl (fun _ h9 => op_nil (ev_hit hN283 rfl) h9) ?_
   refine st_step rfl (fun _ h9 => op_field fld115_1 (ev_hit hN283 rfl) h9) ?_
   refine st_step rfl (fun _ h9 => op_load1 (v := kv) one90 (ev_hit hN283 rfl) (hx.cell rfl) h9) ?_
   refine st_step rfl (fun _ h9 => op_move (ev_base hN283 rfl s283_1) h9) ?_
   refine st_step rfl (fun _ h9 => op_move (ev_base hN283 rfl s283_7) h9) ?_
   refine st_step rfl (fun _ h9 => op_nil (ev_hit hN283 rfl) h9) ?_
   refine st_step rfl (fun _ h9 => op_field fld115_1 (ev_hit hN283 rfl) h9) ?_
   refine st_step rfl (fun _ h9 => op_load1 (v := ka) one90 (ev_hit hN283 rfl) (hxa.cell rfl) h9) ?_
   refine st_step rfl (fun _ h9 => op_move (ev_base hN283 rfl s283_11) h9) ?_
   refine st_index_rd slt90 (ev_hit hN283 rfl) oka.rdw (ev_hit hN283 rfl) (by omega) (by omega) ?_
   intro b449 o450 h0b449 h1b449 hc451
   refine st_step rfl (fun _ h9 => op_load1 (v := (Ka.getD (Ka.length - 1) default).1) one27 (ev_hit hN283 rfl) (by have := hc451 0 (Ka.getD (Ka.length - 1) default).1 (by decide) (el_kd (i := (Ka.length - 1)) (by omega) (by first | omega | (simp only [List.length_drop, List.length_take]; omega))); simpa using this) h9) ?_
   refine st_index_own (i := i) slt90 (ev_hit hN283 rfl) ok (ev_hit hN283 rfl) (by omega) (by omega) ?_
   intro b452 o453 lo_b452 hA454
   have hA454 : AtV kv (i) b452 o453 := by simpa using hA454
   refine st_nil ?_
   refine from_seq (tl := [_]) (by decide) (by kernel_rfl) rfl ?_
   have hP457 := ok
   refine op_store_own (vs := [(Ka.getD (Ka.length - 1) default).1]) size27 (ev_hit hN283 rfl) (ev_hit hN283 rfl) (own_cl (show Own _ _ _ _ (Ka.getD (Ka.length - 1) default).1 (Ka.getD (Ka.length - 1) default).2.length ((Ka.getD (Ka.length - 1) default).2.map u8v) from kas (Ka.getD (Ka.length - 1) default) (getD_mem (by first | omega | (simp only [List.length_drop, List.length_take]; omega))))) rfl (by simp only [List.all_cons, List.all_nil, Bool.true_and, Bool.and_true, (own_one (show Own _ _ _ _ (Ka.getD (Ka.length - 1) default).1 (Ka.getD (Ka.length - 1) default).2.length ((Ka.getD (Ka.length - 1) default).2.map u8v) from kas (Ka.getD (Ka.length - 1) default) (getD_mem (by first | omega | (simp only [List.length_drop, List.length_take]; omega)))))]; try rfl) hP457 hA454 (by rw [hP457.1]; simp only [List.length_cons, List.length_nil]; omega) ?_
   intro w455 hO458 E456
   have z_w455 := E456.size
   have hx := hx.keepO hP457 E456 (by decide)
   have oc := oc.keepT hP457 E456 (by decide)
   have ks : ∀ x9 ∈ K, Own w455 0 5 1 x9.1 x9.2.length (x9.2.map u8v) := fun x9 hx9 => (ks x9 hx9).keepT hP457 E456 (by decide)
   have hxa := hxa.keepO hP457 E456 (by decide)
   have oka := oka.keepD E456 dk3.symm
   have oca := oca.keepT hP457 E456 (by decide)
   have kas : ∀ x9 ∈ Ka, Own w455 0 5 1 x9.1 x9.2.length (x9.2.map u8v) := fun x9 hx9 => (kas x9 hx9).keepT hP457 E456 (by decide)
   have kbs : ∀ x9 ∈ Kb, Own w455 0 5 1 x9.1 x9.2.length (x9.2.map u8v) := fun x9 hx9 => (kbs x9 hx9).keepT hP457 E456 (by decide)
   have hr := hr.keepG (Gr.of E456) djkG.symm (NoK.ofOwn hP457 (by decide))
   have hKb := hKb.keepG (Gr.of E456) dk15.symm (NoK.ofOwn hP457 (by decide))
   have hkq1 := hkq1.keepG (Gr.of E456) dk25.symm (NoK.ofOwn hP457 (by decide))
   have hkq2 := hkq2.keepG (Gr.of E456) dk35.symm (NoK.ofOwn hP457 (by decide))
   have hO284 := hO284.keepD E456 dj268.symm
   have hO285 := hO285.keepT hP457 E456 (by decide)
   have hbj282 := hbj282.keepO hP457 E456 (by decide)
   have hb := hb.stepL E456 (fun k _ h => hNd.wk k h)
   have hO458 : Own w455 0 27 1 kv K.length (((K.set i (Ka.getD (Ka.length - 1) default))).flatMap cK) := by exact hO458.cast rfl (set_K (d := Ka.getD (Ka.length - 1) default) (by omega))
   refine reg_nil ?_
   refine hK446 _ _ ?_
   refine reg_split (hd := [_, _, _, _, _, _, _, _, _, _, _, _, _, _, _, _, _, _]) (tl := _) 18 mixed (by kernel_rfl) rfl rfl ?_
   refine any_envk (φ := phiV [(fun uz => uz = (ptr (P.getD i default) 0)), (fun uz => uz = (ptr (P.getD i default) 0)), (fun uz => uz = (ptr (P.getD i default) 0)), (fun uz => uz = (ptr (P.getD i default) 0)), (fun uz => uz = (ptr (P.getD i default) 1)), (fun uz => uz = ka), (fun uz => uz = (Value.int .i64 ((Ka.length - 1 : Nat) : Int))), (fun uz => uz = (hiV ka (Ka.length - 1))), (fun uz => uz = (ptr (P.getD i default) 0)), (fun uz => uz = (ptr (P.getD i default) 0)), (fun uz => uz = (ptr (P.getD i default) 2)), (fun uz => uz = ca), (fun uz => uz = (Value.int .i64 ((Ka.length - 1 : Nat) : Int))), (fun uz => uz = (Value.int .i64 (((Ka.length - 1 : Nat) : Int) + 1))), (fun uz => uz = (hiV ca (Ka.length - 1 + 1))), (fun uz => uz = (ptr (P.getD i default) 0)), (fun uz => uz = (ptr (P.getD i default) 1)), (fun _ => True)]) (G := fun c9 w' => c9 ≤ 0 → (Bx w' (P.getD i default) 115 [(Value.slice none 0 0), ka, ca])) [17] (by kernel_rfl) (by kernel_rfl) (by kernel_rfl) (by kernel_rfl) hN283 (fun _ w1 w2 E h hc9 => (h hc9).keep0 E) (fun _ => hxa) (ObKs.cons ?_ (ObKs.cons ?_ (ObKs.cons ?_ (ObKs.cons ?_ (ObKs.cons ?_ (ObKs.cons ?_ (ObKs.cons ?_ (ObKs.cons ?_ (ObKs.cons ?_ (ObKs.cons ?_ (ObKs.cons ?_ (ObKs.cons ?_ (ObKs.cons ?_ (ObKs.cons ?_ (ObKs.cons ?_ (ObKs.cons ?_ (ObKs.cons ?_ (ObKs.pass rfl (ObKs.nil))))))))))))))))))) (by simp only [putsL_defers]) ?_
   ·
    intro eA aA wA hNA hckA hGA hbsA hdpA
    have qA_7 := (hbsA 7 rfl).trans (sl_base hN283 rfl s283_7)
    refine op_move (ev_base hNA rfl qA_7) ?_
    exact obK_end rfl rfl rfl
   ·
    intro eA aA wA hNA hckA hGA hbsA hdpA
    have qA_7 := (hbsA 7 rfl).trans (sl_base hN283 rfl s283_7)
    refine op_move (ev_base hNA rfl qA_7) ?_
    exact obK_end rfl rfl rfl
   ·
    intro eA aA wA hNA hckA hGA hbsA hdpA
    have qA_7 := (hbsA 7 rfl).trans (sl_base hN283 rfl s283_7)
    refine op_move (ev_base hNA rfl qA_7) ?_
    exact obK_end rfl rfl rfl
   ·
    intro eA aA wA hNA hckA hGA hbsA hdpA
    have qA_87 : Sl aA 87 (ptr (P.getD i default) 0) := (hdpA 2 _ 87 (by kernel_rfl) rfl rfl).2 rfl
    refine op_nil (ev_base hNA rfl qA_87) ?_
    exact obK_end rfl rfl rfl
   ·
    intro eA aA wA hNA hckA hGA hbsA hdpA
    have qA_88 : Sl aA 88 (ptr (P.getD i default) 0) := (hdpA 3 _ 88 (by kernel_rfl) rfl rfl).2 rfl
    refine op_field fld115_1 (ev_base hNA rfl qA_88) ?_
    exact obK_end rfl rfl rfl
   ·
    intro eA aA wA hNA hckA hGA hbsA hdpA
    have qA_89 : Sl aA 89 (ptr (P.getD i default) 1) := (hdpA 4 _ 89 (by kernel_rfl) rfl rfl).2 rfl
    have hGA := hGA (hckA 0 17 rfl (by kernel_rfl))
    refine op_load1 (v := ka) one90 (ev_base hNA rfl qA_89) (hGA.cell rfl) ?_
    exact obK_end rfl rfl rfl
   ·
    intro eA aA wA hNA hckA hGA hbsA hdpA
    have qA_11 := (hbsA 11 rfl).trans (sl_base hN283 rfl s283_11)
    refine op_move (ev_base hNA rfl qA_11) ?_
    exact obK_end rfl rfl rfl
   ·
    intro eA aA wA hNA hckA hGA hbsA hdpA
    have qA_90 : Sl aA 90 ka := (hdpA 5 _ 90 (by kernel_rfl) rfl rfl).2 rfl
    have qA_91 : Sl aA 91 (Value.int .i64 ((Ka.length - 1 : Nat) : Int)) := (hdpA 6 _ 91 (by kernel_rfl) rfl rfl).2 rfl
    refine op_slice_hiC (m := (Ka.length - 1)) slt90 (ev_base hNA rfl qA_90) hcka3 (ev_base hNA rfl qA_91) (by omega) (by omega) ?_
    exact obK_end rfl rfl rfl
   ·
    intro eA aA wA hNA hckA hGA hbsA hdpA
    have qA_7 := (hbsA 7 rfl).trans (sl_base hN283 rfl s283_7)
    refine op_move (ev_base hNA rfl qA_7) ?_
    exact obK_end rfl rfl rfl
   ·
    intro eA aA wA hNA hckA hGA hbsA hdpA
    have qA_93 : Sl aA 93 (ptr (P.getD i default) 0) := (hdpA 8 _ 93 (by kernel_rfl) rfl rfl).2 rfl
    refine op_nil (ev_base hNA rfl qA_93) ?_
    exact obK_end rfl rfl rfl
   ·
    intro eA aA wA hNA hckA hGA hbsA hdpA
    have qA_94 : Sl aA 94 (ptr (P.getD i default) 0) := (hdpA 9 _ 94 (by kernel_rfl) rfl rfl).2 rfl
    refine op_field fld115_2 (ev_base hNA rfl qA_94) ?_
    exact obK_end rfl rfl rfl
   ·
    intro eA aA wA hNA hckA hGA hbsA hdpA
    have qA_95 : Sl aA 95 (ptr (P.getD i default) 2) := (hdpA 10 _ 95 (by kernel_rfl) rfl rfl).2 rfl
    have hGA := hGA (hckA 0 17 rfl (by kernel_rfl))
    refine op_load1 (v := ca) one113 (ev_base hNA rfl qA_95) (hGA.cell rfl) ?_
    exact obK_end rfl rfl rfl
   ·
    intro eA aA wA hNA hckA hGA hbsA hdpA
    have qA_11 := (hbsA 11 rfl).trans (sl_base hN283 rfl s283_11)
    refine op_move (ev_base hNA rfl qA_11) ?_
    exact obK_end rfl rfl rfl
   ·
    intro eA aA wA hNA hckA hGA hbsA hdpA
    have qA_97 : Sl aA 97 (Value.int .i64 ((Ka.length - 1 : Nat) : Int)) := (hdpA 12 _ 97 (by kernel_rfl) rfl rfl).2 rfl
    refine op_add (ev_base hNA rfl qA_97) rfl (add64 (by omega)) ?_
    exact obK_end rfl rfl rfl
   ·
    intro eA aA wA hNA hckA hGA hbsA hdpA
    have qA_96 : Sl aA 96 ca := (hdpA 11 _ 96 (by kernel_rfl) rfl rfl).2 rfl
    have qA_98 : Sl aA 98 (Value.int .i64 (((Ka.length - 1 : Nat) : Int) + 1)) := (hdpA 13 _ 98 (by kernel_rfl) rfl rfl).2 rfl
    refine op_slice_hiC (m := (Ka.length - 1 + 1)) slt113 (ev_base hNA rfl qA_96) hcca3 (ev_base hNA rfl qA_98) (by omega) (by omega) ?_
    exact obK_end rfl rfl rfl
   ·
    intro eA aA wA hNA hckA hGA hbsA hdpA
    have qA_85 : Sl aA 85 (ptr (P.getD i default) 0) := (hdpA 0 _ 85 (by kernel_rfl) rfl rfl).2 rfl
    refine op_nil (ev_base hNA rfl qA_85) ?_
    exact obK_end rfl rfl rfl
   ·
    intro eA aA wA hNA hckA hGA hbsA hdpA
    have qA_100 : Sl aA 100 (ptr (P.getD i default) 0) := (hdpA 15 _ 100 (by kernel_rfl) rfl rfl).2 rfl
    refine op_field fld115_1 (ev_base hNA rfl qA_100) ?_
    exact obK_end rfl rfl rfl
   ·
    intro w459 E459 _ a459 hN459 hbs459 hdp459 o_ ho_; obtain rfl := Option.some.inj ho_
    have z_w459 := E459.size
    have hx := hx.keep0 E459
    have oc := oc.keep0 E459
    have ks : ∀ x9 ∈ K, Own w459 0 5 1 x9.1 x9.2.length (x9.2.map u8v) := fun x9 hx9 => (ks x9 hx9).keep0 E459
    have hxa := hxa.keep0 E459
    have oka := oka.keep0 E459
    have oca := oca.keep0 E459
    have kas : ∀ x9 ∈ Ka, Own w459 0 5 1 x9.1 x9.2.length (x9.2.map u8v) := fun x9 hx9 => (kas x9 hx9).keep0 E459
    have kbs : ∀ x9 ∈ Kb, Own w459 0 5 1 x9.1 x9.2.length (x9.2.map u8v) := fun x9 hx9 => (kbs x9 hx9).keep0 E459
    have hr := hr.keepG (Gr.of0 E459 NoB) (fun _ _ h => h) (NoK.no _)
    have hKb := hKb.keepG (Gr.of0 E459 NoB) (fun _ _ h => h) (NoK.no _)
    have hkq1 := hkq1.keepG (Gr.of0 E459 NoB) (fun _ _ h => h) (NoK.no _)
    have hkq2 := hkq2.keepG (Gr.of0 E459 NoB) (fun _ _ h => h) (NoK.no _)
    have hO284 := hO284.keep0 E459
    have hO285 := hO285.keep0 E459
    have hbj282 := hbj282.keep0 E459
    have hO458 := hO458.keep0 E459
    have hb := hb.step0 E459
    have q459_101 : Sl a459 101 (ptr (P.getD i default) 1) := (hdp459 16 _ 101 (by kernel_rfl) rfl rfl).2 rfl
    have q459_92 : Sl a459 92 (hiV ka (Ka.length - 1)) := (hdp459 7 _ 92 (by kernel_rfl) rfl rfl).2 rfl
    have hxa_old := hxa
    refine op_store (vs := [(hiV ka (Ka.length - 1))]) (cs' := [(Value.slice none 0 0), (hiV ka (Ka.length - 1)), ca]) size90 (ev_base hN459 rfl q459_101) (ev_base hN459 rfl q459_92) (own_cl (oka.hiCut (k := (Ka.length - 1)) (by omega))) rfl (by simp only [List.all_cons, List.all_nil, Bool.true_and, Bool.and_true, (own_one (oka.hiCut (k := (Ka.length - 1)) (by omega)))]; try rfl) hxa (Nat.le_of_ble_eq_true rfl) rfl ?_
    intro w462 hxa E463
    have z_w462 := E463.size
    have hx := hx.keep E463 (by simp only [ne_eq, Option.some.injEq]; omega)
    have oc := oc.keepX hxa_old E463 (by decide)
    have ks : ∀ x9 ∈ K, Own w462 0 5 1 x9.1 x9.2.length (x9.2.map u8v) := fun x9 hx9 => (ks x9 hx9).keepX hxa_old E463 (by decide)
    have oka := oka.keepX hxa_old E463 (by decide)
    have oca := oca.keepX hxa_old E463 (by decide)
    have kas : ∀ x9 ∈ Ka, Own w462 0 5 1 x9.1 x9.2.length (x9.2.map u8v) := fun x9 hx9 => (kas x9 hx9).keepX hxa_old E463 (by decide)
    have kbs : ∀ x9 ∈ Kb, Own w462 0 5 1 x9.1 x9.2.length (x9.2.map u8v) := fun x9 hx9 => (kbs x9 hx9).keepX hxa_old E463 (by decide)
    have hr := hr.keepG (Gr.of E463) (Dj.one dk13) (NoK.ofBx hxa_old (by decide))
    have hKb := hKb.keepG (Gr.of E463) (Dj.one dk22) (NoK.ofBx hxa_old (by decide))
    have hkq1 := hkq1.keepG (Gr.of E463) (Dj.one dk32) (NoK.ofBx hxa_old (by decide))
    have hkq2 := hkq2.keepG (Gr.of E463) (Dj.one dk42) (NoK.ofBx hxa_old (by decide))
    have hO284 := hO284.keepX hxa_old E463 (by decide)
    have hO285 := hO285.keepX hxa_old E463 (by decide)
    have hbj282 := hbj282.keep E463 (by simp only [ne_eq, Option.some.injEq]; omega)
    have hO458 := hO458.keepX hxa_old E463 (by decide)
    have hb := hb.stepB E463 (hNd.wg _ (hfs _ hA.wp))
    refine kk_end0 rfl (fun h => absurd h (by simp)) ?_
    intro w464 E464 a464 hN464 hd464 hbs464 hph464
    have hd464 := hd464.trans ((by simp only [putsL_defers] : _ = _).trans hd283)
    have z_w464 := E464.size
    have hx := hx.keep0 E464
    have oc := oc.keep0 E464
    have ks : ∀ x9 ∈ K, Own w464 0 5 1 x9.1 x9.2.length (x9.2.map u8v) := fun x9 hx9 => (ks x9 hx9).keep0 E464
    have oka := oka.keep0 E464
    have oca := oca.keep0 E464
    have kas : ∀ x9 ∈ Ka, Own w464 0 5 1 x9.1 x9.2.length (x9.2.map u8v) := fun x9 hx9 => (kas x9 hx9).keep0 E464
    have kbs : ∀ x9 ∈ Kb, Own w464 0 5 1 x9.1 x9.2.length (x9.2.map u8v) := fun x9 hx9 => (kbs x9 hx9).keep0 E464
    have hr := hr.keepG (Gr.of0 E464 NoB) (fun _ _ h => h) (NoK.no _)
    have hKb := hKb.keepG (Gr.of0 E464 NoB) (fun _ _ h => h) (NoK.no _)
    have hkq1 := hkq1.keepG (Gr.of0 E464 NoB) (fun _ _ h => h) (NoK.no _)
    have hkq2 := hkq2.keepG (Gr.of0 E464 NoB) (fun _ _ h => h) (NoK.no _)
    have hO284 := hO284.keep0 E464
    have hO285 := hO285.keep0 E464
    have hbj282 := hbj282.keep0 E464
    have hO458 := hO458.keep0 E464
    have hxa := hxa.keep0 E464
    have hb := hb.step0 E464
    have s464_6 := (hbs464 6 rfl).trans (sl_base hN283 rfl s283_6)
    have s464_86 : Sl a464 86 (ptr (P.getD i default) 0) := (hph464 1 _ 86 rfl rfl).2 rfl
    have s464_99 : Sl a464 99 (hiV ca (Ka.length - 1 + 1)) := (hph464 14 _ 99 rfl rfl).2 rfl
    refine split_end ?_
    refine from_seq (tl := [_, _, _]) (by decide) (by kernel_rfl) rfl ?_
    refine op_nil (ev_base hN464 rfl s464_86) ?_
    refine op_field fld115_2 (ev_hit hN464 rfl) ?_
    have hxa_old := hxa
    refine op_store (vs := [(hiV ca (Ka.length - 1 + 1))]) (cs' := [(Value.slice none 0 0), (hiV ka (Ka.length - 1)), (hiV ca (Ka.length - 1 + 1))]) size113 (ev_hit hN464 rfl) (ev_base hN464 rfl s464_99) (own_cl (oca.hiCut (k := (Ka.length - 1 + 1)) (by omega))) rfl (by simp only [List.all_cons, List.all_nil, Bool.true_and, Bool.and_true, (own_one (oca.hiCut (k := (Ka.length - 1 + 1)) (by omega)))]; try rfl) hxa (Nat.le_of_ble_eq_true rfl) rfl ?_
    intro w467 hxa E468
    have z_w467 := E468.size
    have hx := hx.keep E468 (by simp only [ne_eq, Option.some.injEq]; omega)
    have oc := oc.keepX hxa_old E468 (by decide)
    have ks : ∀ x9 ∈ K, Own w467 0 5 1 x9.1 x9.2.length (x9.2.map u8v) := fun x9 hx9 => (ks x9 hx9).keepX hxa_old E468 (by decide)
    have oka := oka.keepX hxa_old E468 (by decide)
    have oca := oca.keepX hxa_old E468 (by decide)
    have kas : ∀ x9 ∈ Ka, Own w467 0 5 1 x9.1 x9.2.length (x9.2.map u8v) := fun x9 hx9 => (kas x9 hx9).keepX hxa_old E468 (by decide)
    have kbs : ∀ x9 ∈ Kb, Own w467 0 5 1 x9.1 x9.2.length (x9.2.map u8v) := fun x9 hx9 => (kbs x9 hx9).keepX hxa_old E468 (by decide)
    have hr := hr.keepG (Gr.of E468) (Dj.one dk13) (NoK.ofBx hxa_old (by decide))
    have hKb := hKb.keepG (Gr.of E468) (Dj.one dk22) (NoK.ofBx hxa_old (by decide))
    have hkq1 := hkq1.keepG (Gr.of E468) (Dj.one dk32) (NoK.ofBx hxa_old (by decide))
    have hkq2 := hkq2.keepG (Gr.of E468) (Dj.one dk42) (NoK.ofBx hxa_old (by decide))
    have hO284 := hO284.keepX hxa_old E468 (by decide)
    have hO285 := hO285.keepX hxa_old E468 (by decide)
    have hbj282 := hbj282.keep E468 (by simp only [ne_eq, Option.some.injEq]; omega)
    have hO458 := hO458.keepX hxa_old E468 (by decide)
    have hb := hb.stepB E468 (hNd.wg _ (hfs _ hA.wp))
    refine reg_nil ?_
    refine hK263 _ _ ?_
    refine seq_any fun K469 hK469 => ?_
    refine one_reg ?_
    refine op_assign rfl ?_
    refine reg_nil ?_
    refine hK469 _ _ ?_
    refine wp_ret ?_
    refine ret1 rfl hd464 (ev_hit hN464 rfl) ⟨_, rfl, ?_⟩
    -- path 32F
    have hcv470 : Own w467 0 27 1 (hiV ka (Ka.length - 1)) (Ka.take (Ka.length - 1)).length ((Ka.take (Ka.length - 1)).flatMap cK) := (oka.hiCut (k := (Ka.length - 1)) (by omega)).cast (by rw [List.length_take]; omega) (flat_take cK_len _ _)
    have dj471 : Dj G0 (Bl (hiV ka (Ka.length - 1))) := fun k hk hg => dk9.symm k hk ((hiV_ob ka (Ka.length - 1)).symm.trans hg)
    have dj472 : Dj Gb (Bl (hiV ka (Ka.length - 1))) := fun k hk hg => dk18.symm k hk ((hiV_ob ka (Ka.length - 1)).symm.trans hg)
    have dj473 : Dj G1 (Bl (hiV ka (Ka.length - 1))) := fun k hk hg => dk28.symm k hk ((hiV_ob ka (Ka.length - 1)).symm.trans hg)
    have dj474 : Dj G2 (Bl (hiV ka (Ka.length - 1))) := fun k hk hg => dk38.symm k hk ((hiV_ob ka (Ka.length - 1)).symm.trans hg)
    have dj475 : DJ vk (hiV ka (Ka.length - 1)) := fun k hk hg => dj269.symm k hk ((hiV_ob ka (Ka.length - 1)).symm.trans hg)
    have dj476 : DJ kv (hiV ka (Ka.length - 1)) := fun k hk hg => dk3 k hk ((hiV_ob ka (Ka.length - 1)).symm.trans hg)
    have hcv477 : Own w467 0 69 1 (hiV ca (Ka.length - 1 + 1)) (Pa.take (Ka.length - 1 + 1)).length ((Pa.take (Ka.length - 1 + 1)).flatMap cN) := (oca.hiCut (k := (Ka.length - 1 + 1)) (by omega)).cast (by rw [List.length_take]; omega) (flat_take cN_len _ _)
    have dj478 : DJ cv (hiV ca (Ka.length - 1 + 1)) := fun k hk hg => dk5 k hk ((hiV_ob ca (Ka.length - 1 + 1)).symm.trans hg)
    have dj479 : Dj G0 (Bl (hiV ca (Ka.length - 1 + 1))) := fun k hk hg => dk10.symm k hk ((hiV_ob ca (Ka.length - 1 + 1)).symm.trans hg)
    have dj480 : Dj Gb (Bl (hiV ca (Ka.length - 1 + 1))) := fun k hk hg => dk19.symm k hk ((hiV_ob ca (Ka.length - 1 + 1)).symm.trans hg)
    have dj481 : Dj G1 (Bl (hiV ca (Ka.length - 1 + 1))) := fun k hk hg => dk29.symm k hk ((hiV_ob ca (Ka.length - 1 + 1)).symm.trans hg)
    have dj482 : Dj G2 (Bl (hiV ca (Ka.length - 1 + 1))) := fun k hk hg => dk39.symm k hk ((hiV_ob ca (Ka.length - 1 + 1)).symm.trans hg)
    have dj483 : DJ vc (hiV ca (Ka.length - 1 + 1)) := fun k hk hg => dj276.symm k hk ((hiV_ob ca (Ka.length - 1 + 1)).symm.trans hg)
    obtain ⟨G3, hkq3, hG3⟩ := Kids.app hkq2 hKb dk46
    rw [drop1 (d := default) (show Pa.length = (Ka.length - 1 + 1) + 1 by omega), drop1 (d := default) (show ta.length = (Ka.length - 1 + 1) + 1 by omega)] at hkq3
    have hkq3 : KidsR kI R w467 h (Pb.insertIdx 0 (Pa.getD (Ka.length - 1 + 1) default)) (tb.insertIdx 0 (ta.getD (Ka.length - 1 + 1) default)) G3 := hkq3
    have hTA := (mkNode (κ := kI) (K := (Ka.take (Ka.length - 1))) (P := (Pa.take (Ka.length - 1 + 1))) hxa hcv470 hcv477 (kks_sub kas (fun _ h => List.mem_of_mem_take h)) (kks_sub hA.kr (fun _ h => List.mem_of_mem_take h)) hkq1 (fun h1 => dk32 h1) (fun j h1 h2 => dj473.symm _ h1 h2) (fun j h1 h2 => dj481.symm _ h1 h2))
    have hTB := (mkNode (κ := kI) (K := (Kb.insertIdx 0 ((K.getD i default).1, (K.getD i default).2))) (P := (Pb.insertIdx 0 (Pa.getD (Ka.length - 1 + 1) default))) hbj282 hO284 hO285 (kks_ins (d := ((K.getD i default).1, (K.getD i default).2)) kbs (ks _ (getD_mem (l := K) (i := i) (by omega))) (Nat.zero_le _)) (kks_ins (d := ((K.getD i default).1, (K.getD i default).2)) hB.kr (hNd.kr _ (getD_mem (l := K) (i := i) (by omega))) (Nat.zero_le _)) hkq3 (fun h1 => ((hG3 _ h1)).elim (fun y0 => dk43 y0) (fun z0 => dk23 z0)) (fun j h1 h2 => ((hG3 _ h2)).elim (fun y20 => dj273 _ h1 y20) (fun z20 => dj271 _ h1 z20)) (fun j h1 h2 => ((hG3 _ h2)).elim (fun y20 => dj280 _ h1 y20) (fun z20 => dj278 _ h1 z20)))
    have hT9 := mkNode (κ := kI) (K := (K.set i (Ka.getD (Ka.length - 1) default))) hx (hO458.cast (by simp) rfl) oc (kks_set ks (kas _ (getD_mem (l := Ka) (i := (Ka.length - 1)) (by omega)))) (kks_set hNd.kr (hA.kr _ (getD_mem (l := Ka) (i := (Ka.length - 1)) (by omega)))) (Kids.back2 hr hPc (by omega) hTA hTB (fun j h1 h2 => (h1).elim (fun y0 => (h2).elim (fun y20 => hab (y0.symm.trans y20)) (fun z20 => (z20).elim (fun y21 => bx_own_ne hxa hO284 (by decide) (y0 ▸ y21)) (fun z21 => (z21).elim (fun y22 => bx_own_ne hxa hO285 (by decide) (y0 ▸ y22)) (fun z22 => ((hG3 _ z22)).elim (fun y23 => dk42 (y0 ▸ y23)) (fun z23 => dk22 (y0 ▸ z23)))))) (fun z0 => (z0).elim (fun y1 => (h2).elim (fun y20 => bx_own_ne hbj282 hcv470 (by decide) (y20 ▸ y1)) (fun z20 => (z20).elim (fun y21 => dj475.symm _ y1 y21) (fun z21 => (z21).elim (fun y22 => own_own_dj hcv470 hO285 (by decide) _ y1 y22) (fun z22 => ((hG3 _ z22)).elim (fun y23 => dj474.symm _ y1 y23) (fun z23 => dj472.symm _ y1 z23))))) (fun z1 => (z1).elim (fun y2 => (h2).elim (fun y20 => bx_own_ne hbj282 hcv477 (by decide) (y20 ▸ y2)) (fun z20 => (z20).elim (fun y21 => own_own_dj hcv477 hO284 (by decide) _ y2 y21) (fun z21 => (z21).elim (fun y22 => dj483.symm _ y2 y22) (fun z22 => ((hG3 _ z22)).elim (fun y23 => dj482.symm _ y2 y23) (fun z23 => dj480.symm _ y2 z23))))) (fun z2 => (h2).elim (fun y20 => dk33 (y20 ▸ z2)) (fun z20 => (z20).elim (fun y21 => dj272 _ y21 z2) (fun z21 => (z21).elim (fun y22 => dj279 _ y22 z2) (fun z22 => ((hG3 _ z22)).elim (fun y23 => d12 _ z2 y23) (fun z23 => dk45 _ z2 z23)))))))) (fun j h1 h2 => (h1).elim (fun y0 => dk13 (y0 ▸ h2)) (fun z0 => (z0).elim (fun y1 => dj471.symm _ y1 h2) (fun z1 => (z1).elim (fun y2 => dj479.symm _ y2 h2) (fun z2 => dk34 _ z2 h2)))) (fun j h1 h2 => (h1).elim (fun y0 => dk14 (y0 ▸ h2)) (fun z0 => (z0).elim (fun y1 => dj270 _ y1 h2) (fun z1 => (z1).elim (fun y2 => dj277 _ y2 h2) (fun z2 => ((hG3 _ z2)).elim (fun y3 => dk44 _ y3 h2) (fun z3 => dk24 _ z3 h2)))))) (fun h1 => (h1).elim (fun y0 => (y0).elim (fun y1 => hpa y1) (fun z1 => (z1).elim (fun y2 => bx_own_ne hx hcv470 (by decide) y2) (fun z2 => (z2).elim (fun y3 => bx_own_ne hx hcv477 (by decide) y3) (fun z3 => dk27 z3)))) (fun z0 => (z0).elim (fun y1 => (y1).elim (fun y2 => hpb y2) (fun z2 => (z2).elim (fun y3 => bx_own_ne hx hO284 (by decide) y3) (fun z3 => (z3).elim (fun y4 => bx_own_ne hx hO285 (by decide) y4) (fun z4 => ((hG3 _ z4)).elim (fun y5 => dk37 y5) (fun z5 => dk17 z5))))) (fun z1 => djpG z1))) (fun j h1 h2 => (h2).elim (fun y20 => (y20).elim (fun y21 => bx_own_ne hxa hO458 (by decide) (y21 ▸ h1)) (fun z21 => (z21).elim (fun y22 => dj476 _ h1 y22) (fun z22 => (z22).elim (fun y23 => own_own_dj hO458 hcv477 (by decide) _ h1 y23) (fun z23 => dk25 _ h1 z23)))) (fun z20 => (z20).elim (fun y21 => (y21).elim (fun y22 => bx_own_ne hbj282 hO458 (by decide) (y22 ▸ h1)) (fun z22 => (z22).elim (fun y23 => dj268 _ h1 y23) (fun z23 => (z23).elim (fun y24 => own_own_dj hO458 hO285 (by decide) _ h1 y24) (fun z24 => ((hG3 _ z24)).elim (fun y25 => dk35 _ h1 y25) (fun z25 => dk15 _ h1 z25))))) (fun z21 => djkG _ h1 z21))) (fun j h1 h2 => (h2).elim (fun y20 => (y20).elim (fun y21 => bx_own_ne hxa oc (by decide) (y21 ▸ h1)) (fun z21 => (z21).elim (fun y22 => own_own_dj oc hcv470 (by decide) _ h1 y22) (fun z22 => (z22).elim (fun y23 => dj478 _ h1 y23) (fun z23 => dk26 _ h1 z23)))) (fun z20 => (z20).elim (fun y21 => (y21).elim (fun y22 => bx_own_ne hbj282 oc (by decide) (y22 ▸ h1)) (fun z22 => (z22).elim (fun y23 => own_own_dj oc hO284 (by decide) _ h1 y23) (fun z23 => (z23).elim (fun y24 => dj275 _ h1 y24) (fun z24 => ((hG3 _ z24)).elim (fun y25 => dk36 _ h1 y25) (fun z25 => dk16 _ h1 z25))))) (fun z21 => djcG _ h1 z21)))
    rw [lend_NR ha hb9 hi (by omega) (by omega)]
    exact ⟨hb, rfl, _, hT9, (newF_in (fun j hj h1 => (h1).elim (fun y0 => (y0 ▸ hNd.wp)) (fun z0 => (z0).elim (fun y1 => (fun k _ h => hNd.wk k h) j hj y1) (fun z1 => (z1).elim (fun y2 => (fun k _ h => hNd.wc k h) j hj y2) (fun z2 => (z2).elim (fun y3 => (y3).elim (fun y4 => (y4 ▸ (hNd.wg _ (hfs _ hA.wp)))) (fun z4 => (z4).elim (fun y5 => (fun k hk h => (fun k _ h => hNd.wg k (hfs k (hA.wk k h))) k hk ((hiV_ob ka (Ka.length - 1)).symm.trans h)) j hj y5) (fun z5 => (z5).elim (fun y6 => (fun k hk h => (fun k _ h => hNd.wg k (hfs k (hA.wc k h))) k hk ((hiV_ob ca (Ka.length - 1 + 1)).symm.trans h)) j hj y6) (fun z6 => (fun j q => hNd.wg j (hfs j (hA.wg j (su1 j q)))) j z6)))) (fun z3 => (z3).elim (fun y4 => (y4).elim (fun y5 => (y5 ▸ (hNd.wg _ (hgs _ hB.wp)))) (fun z5 => (z5).elim (fun y6 => hin274 j hj y6) (fun z6 => (z6).elim (fun y7 => hin281 j hj y7) (fun z7 => ((hG3 _ z7)).elim (fun y8 => (fun j q => hNd.wg j (hfs j (hA.wg j (su2 j q)))) j y8) (fun z8 => (fun j q => hNd.wg j (hgs j (hB.wg j q))) j z8))))) (fun z4 => (fun j q => hNd.wg j (hGs j q)) j z4)))))))⟩

end Go.Proofs.Ytcpfdfejojghbaa

/- Walks, written by a program: what each function of the translation hands back. -/
namespace Go.Proofs.Ytcpfdfejojghbaa
open Go.Gx Go.RowKit
attribute [local irreducible] wpList wpStill Code.wp Calls
open Go.Bt
theorem lend0L {i p n : Nat} {kv cv : Value} {P L : List Nat} {w : World} (hx : Bx w p 115 [.slice none 0 0, kv, cv]) (oc : Own w 0 69 1 cv P.length (P.flatMap cN)) (hi : i + 1 < P.length) (hn : P.length ≤ 100) (hV : NodeV kI w.heap.size w (P.getD (i + 1) default) n L) (h3 : n ≤ 3) : Ret Try.prog 120 #[(ptr p 0), (Value.int .i64 ((i : Nat) : Int)), (Value.bool true)] w (fun v' w' => Below w.heap.size w w' ∧ v' = .bool false) := by
 obtain ⟨hpB, pv2, kv2, cv2, a2, b2, ca2, cb2, hx2, h22, h32, h42, h52⟩ := hV
 have hb := Below.refl w.heap.size w
 refine enter (N := 254) Try.func120 rfl rfl (by simp) fun a0 hN hd hA => ?_
 have s0 : a0.tmps.getD 0 undef = (ptr p 0) := hA 0 (by simp)
 have s1 : a0.tmps.getD 1 undef = (Value.int .i64 ((i : Nat) : Int)) := hA 1 (by simp)
 have s2 : a0.tmps.getD 2 undef = (Value.bool true) := hA 2 (by simp)
 clear hA
 refine seq_any fun K4402 hK4402 => ?_
 refine one_reg ?_
 refine op_assign rfl ?_
 refine reg_nil ?_
 refine hK4402 _ _ ?_
 refine seq_any fun K4403 hK4403 => ?_
 refine reg_still mixed (by kernel_rfl) ?_
 intro w4405 E4404
 have z_w4405 := E4404.size
 have hx := hx.keep0 E4404
 have oc := oc.keep0 E4404
 have hx2 := hx2.keep0 E4404
 have h22 := h22.keep0 E4404
 have h32 := h32.keep0 E4404
 have h42 := h42.keep0 E4404
 have hb := below_step0 hb E4404 hb.size
 refine st_step rfl (fun _ h9 => op_move (ev_base hN rfl s0) h9) ?_
 refine st_step rfl (fun _ h9 => op_nil (ev_hit hN rfl) h9) ?_
 refine st_step rfl (fun _ h9 => op_field fld115_2 (ev_hit hN rfl) h9) ?_
 refine st_step rfl (fun _ h9 => op_load1 (v := cv) one113 (ev_hit hN rfl) (hx.cell rfl) h9) ?_
 refine st_step rfl (fun _ h9 => op_move (ev_base hN rfl s1) h9) ?_
 refine st_index_rd slt113 (ev_hit hN rfl) oc.rdw (ev_hit hN rfl) (by omega) (by omega) ?_
 intro b4406 o4407 h0b4406 h1b4406 hc4408
 refine st_step rfl (fun _ h9 => op_load1 (v := (ptr (P.getD i default) 0)) one69 (ev_hit hN rfl) (by have := hc4408 0 (ptr (P.getD i default) 0) (by decide) (el_pn (i := i) (by omega) (by first | omega | (simp only [List.length_drop, List.length_take]; omega))); simpa using this) h9) ?_
 refine st_step rfl (fun _ h9 => op_move (ev_base hN rfl s0) h9) ?_
 refine st_step rfl (fun _ h9 => op_nil (ev_hit hN rfl) h9) ?_
 refine st_step rfl (fun _ h9 => op_field fld115_2 (ev_hit hN rfl) h9) ?_
 refine st_step rfl (fun _ h9 => op_load1 (v := cv) one113 (ev_hit hN rfl) (hx.cell rfl) h9) ?_
 refine st_step rfl (fun _ h9 => op_move (ev_base hN rfl s1) h9) ?_
 refine st_step rfl (fun _ h9 => op_add (ev_hit hN rfl) rfl (add64 (by omega)) h9) ?_
 refine st_index_rd slt113 (ev_hit hN rfl) oc.rdw (ev_hit hN rfl) (by omega) (by omega) ?_
 intro b4409 o4410 h0b4409 h1b4409 hc4411
 refine st_step rfl (fun _ h9 => op_load1 (v := (ptr (P.getD (i + 1) default) 0)) one69 (ev_hit hN rfl) (by have := hc4411 0 (ptr (P.getD (i + 1) default) 0) (by decide) (el_pn (i := (i + 1)) (by omega) (by first | omega | (simp only [List.length_drop, List.length_take]; omega))); simpa using this) h9) ?_
 refine st_step rfl (fun _ h9 => op_assign (ev_hit hN rfl) h9) ?_
 refine st_step rfl (fun _ h9 => op_assign (ev_hit hN rfl) h9) ?_
 refine st_nil ?_
 refine hK4403 _ _ ?_
 refine seq_any fun K4412 hK4412 => ?_
 refine one_reg ?_
 refine op_move (ev_hit hN rfl) ?_
 refine op_assign (ev_hit hN rfl) ?_
 refine reg_nil ?_
 refine hK4412 _ _ ?_
 refine seq_any fun K4413 hK4413 => ?_
 refine seq_any fun K4414 hK4414 => ?_
 refine one_reg ?_
 refine op_move (ev_base hN rfl s2) ?_
 refine reg_nil ?_
 refine hK4414 _ _ ?_
 refine wp_cond_true (ev_hit hN rfl) ?_
 refine one_reg ?_
 refine op_move (ev_hit hN rfl) ?_
 refine op_assign (ev_hit hN rfl) ?_
 refine reg_nil ?_
 refine hK4413 _ _ ?_
 refine seq_any fun K4415 hK4415 => ?_
 refine seq_any fun K4416 hK4416 => ?_
 refine one_reg ?_
 refine op_move (ev_hit hN rfl) ?_
 refine op_fn (vs := [(ptr (P.getD (i + 1) default) 0)]) ok52 ⟨(ev_hit hN rfl), trivial⟩ (Ret.flip (sizeUI hx2 h22 h32 h42 h52)) ?_
 rintro _ _ ⟨rfl, rfl⟩
 refine op_leq (ev_hit hN rfl) rfl (fun c32 => ?_) (fun c32 => ?_)
 · -- 32T
  refine reg_nil ?_
  refine hK4416 _ _ ?_
  refine wp_cond_true (ev_hit hN rfl) ?_
  refine seq_any fun K4417 hK4417 => ?_
  refine one_reg ?_
  refine op_assign rfl ?_
  refine reg_nil ?_
  refine hK4417 _ _ ?_
  refine wp_ret (then_ret ( ?_))
  refine ret1 rfl hd (ev_hit hN rfl) ⟨_, rfl, ?_⟩
  -- path 32T
  exact ⟨hb, rfl⟩
 · -- 32F
  exfalso; omega

theorem lend0R {i p n : Nat} {kv cv : Value} {P L : List Nat} {w : World} (hx : Bx w p 115 [.slice none 0 0, kv, cv]) (oc : Own w 0 69 1 cv P.length (P.flatMap cN)) (hi : i + 1 < P.length) (hn : P.length ≤ 100) (hV : NodeV kI w.heap.size w (P.getD i default) n L) (h3 : n ≤ 3) : Ret Try.prog 120 #[(ptr p 0), (Value.int .i64 ((i : Nat) : Int)), (Value.bool false)] w (fun v' w' => Below w.heap.size w w' ∧ v' = .bool false) := by
 obtain ⟨hpB, pv2, kv2, cv2, a2, b2, ca2, cb2, hx2, h22, h32, h42, h52⟩ := hV
 have hb := Below.refl w.heap.size w
 refine enter (N := 254) Try.func120 rfl rfl (by simp) fun a0 hN hd hA => ?_
 have s0 : a0.tmps.getD 0 undef = (ptr p 0) := hA 0 (by simp)
 have s1 : a0.tmps.getD 1 undef = (Value.int .i64 ((i : Nat) : Int)) := hA 1 (by simp)
 have s2 : a0.tmps.getD 2 undef = (Value.bool false) := hA 2 (by simp)
 clear hA
 refine seq_any fun K4418 hK4418 => ?_
 refine one_reg ?_
 refine op_assign rfl ?_
 refine reg_nil ?_
 refine hK4418 _ _ ?_
 refine seq_any fun K4419 hK4419 => ?_
 refine reg_still mixed (by kernel_rfl) ?_
 intro w4421 E4420
 have z_w4421 := E4420.size
 have hx := hx.keep0 E4420
 have oc := oc.keep0 E4420
 have hx2 := hx2.keep0 E4420
 have h22 := h22.keep0 E4420
 have h32 := h32.keep0 E4420
 have h42 := h42.keep0 E4420
 have hb := below_step0 hb E4420 hb.size
 refine st_step rfl (fun _ h9 => op_move (ev_base hN rfl s0) h9) ?_
 refine st_step rfl (fun _ h9 => op_nil (ev_hit hN rfl) h9) ?_
 refine st_step rfl (fun _ h9 => op_field fld115_2 (ev_hit hN rfl) h9) ?_
 refine st_step rfl (fun _ h9 => op_load1 (v := cv) one113 (ev_hit hN rfl) (hx.cell rfl) h9) ?_
 refine st_step rfl (fun _ h9 => op_move (ev_base hN rfl s1) h9) ?_
 refine st_index_rd slt113 (ev_hit hN rfl) oc.rdw (ev_hit hN rfl) (by omega) (by omega) ?_
 intro b4422 o4423 h0b4422 h1b4422 hc4424
 refine st_step rfl (fun _ h9 => op_load1 (v := (ptr (P.getD i default) 0)) one69 (ev_hit hN rfl) (by have := hc4424 0 (ptr (P.getD i default) 0) (by decide) (el_pn (i := i) (by omega) (by first | omega | (simp only [List.length_drop, List.length_take]; omega))); simpa using this) h9) ?_
 refine st_step rfl (fun _ h9 => op_move (ev_base hN rfl s0) h9) ?_
 refine st_step rfl (fun _ h9 => op_nil (ev_hit hN rfl) h9) ?_
 refine st_step rfl (fun _ h9 => op_field fld115_2 (ev_hit hN rfl) h9) ?_
 refine st_step rfl (fun _ h9 => op_load1 (v := cv) one113 (ev_hit hN rfl) (hx.cell rfl) h9) ?_
 refine st_step rfl (fun _ h9 => op_move (ev_base hN rfl s1) h9) ?_
 refine st_step rfl (fun _ h9 => op_add (ev_hit hN rfl) rfl (add64 (by omega)) h9) ?_
 refine st_index_rd slt113 (ev_hit hN rfl) oc.rdw (ev_hit hN rfl) (by omega) (by omega) ?_
 intro b4425 o4426 h0b4425 h1b4425 hc4427
 refine st_step rfl (fun _ h9 => op_load1 (v := (ptr (P.getD (i + 1) default) 0)) one69 (ev_hit hN rfl) (by have := hc4427 0 (ptr (P.getD (i + 1) default) 0) (by decide) (el_pn (i := (i + 1)) (by omega) (by first | omega | (simp only [List.length_drop, List.length_take]; omega))); simpa using this) h9) ?_
 refine st_step rfl (fun _ h9 => op_assign (ev_hit hN rfl) h9) ?_
 refine st_step rfl (fun _ h9 => op_assign (ev_hit hN rfl) h9) ?_
 refine st_nil ?_
 refine hK4419 _ _ ?_
 refine seq_any fun K4428 hK4428 => ?_
 refine one_reg ?_
 refine op_move (ev_hit hN rfl) ?_
 refine op_assign (ev_hit hN rfl) ?_
 refine reg_nil ?_
 refine hK4428 _ _ ?_
 refine seq_any fun K4429 hK4429 => ?_
 refine seq_any fun K4430 hK4430 => ?_
 refine one_reg ?_
 refine op_move (ev_base hN rfl s2) ?_
 refine reg_nil ?_
 refine hK4430 _ _ ?_
 refine wp_cond_false (ev_hit hN rfl) ?_
 refine wp_skip ?_
 refine hK4429 _ _ ?_
 refine seq_any fun K4431 hK4431 => ?_
 refine seq_any fun K4432 hK4432 => ?_
 refine one_reg ?_
 refine op_move (ev_hit hN rfl) ?_
 refine op_fn (vs := [(ptr (P.getD i default) 0)]) ok52 ⟨(ev_hit hN rfl), trivial⟩ (Ret.flip (sizeUI hx2 h22 h32 h42 h52)) ?_
 rintro _ _ ⟨rfl, rfl⟩
 refine op_leq (ev_hit hN rfl) rfl (fun c32 => ?_) (fun c32 => ?_)
 · -- 32T
  refine reg_nil ?_
  refine hK4432 _ _ ?_
  refine wp_cond_true (ev_hit hN rfl) ?_
  refine seq_any fun K4433 hK4433 => ?_
  refine one_reg ?_
  refine op_assign rfl ?_
  refine reg_nil ?_
  refine hK4433 _ _ ?_
  refine wp_ret (then_ret ( ?_))
  refine ret1 rfl hd (ev_hit hN rfl) ⟨_, rfl, ?_⟩
  -- path 32T
  exact ⟨hb, rfl⟩
 · -- 32F
  exfalso; omega

end Go.Proofs.Ytcpfdfejojghbaa

/- Walks, written by a program: what each function of the translation hands back. -/
namespace Go.Proofs.Ytcpfdfejojghbaa
open Go.Gx Go.RowKit
attribute [local irreducible] wpList wpStill Code.wp Calls
open Go.Bt
theorem lendsT {h i p : Nat} {R W G : Nat → Prop} {kv cv : Value} {K : List DK} {P : List Nat} {cs : List (Tr Int h)} {w : World} {left : Bool} (hNd : NodeR kI R w p kv cv K P G W) (hKs : KidsR kI R w h P cs G) (hlen : cs.length = K.length + 1) (hsh : ∀ c ∈ cs, Ok h c ∧ szT h c ≤ 7) (hi : i < K.length) (hn : K.length ≤ 7) (hl : 3 < lender h cs i left) :
    Ret Try.prog 120 #[ptr p 0, .int .i64 ((i : Nat) : Int), .bool left] w (fun v' w' => Gr w w' W ∧ v' = .bool true ∧ ∃ W', TreeR kI R w' (h + 1) p (lendT h (K.map Prod.snd) cs i left) W' ∧ NewF w.heap.size W W') := by
  have hPc : P.length = cs.length := Kids.len hKs
  obtain ⟨a, ha⟩ : ∃ a, cs[i]? = some a := ⟨_, List.getElem?_eq_getElem (by omega)⟩
  obtain ⟨b, hb9⟩ : ∃ b, cs[i + 1]? = some b := ⟨_, List.getElem?_eq_getElem (by omega)⟩
  obtain ⟨f, g, G0, hA, hB, hr, d1, d2, d3, s1, s2, s3⟩ := Kids.cut2 hKs ha hb9
  obtain ⟨oa, za⟩ := hsh a (List.mem_of_getElem? ha)
  obtain ⟨ob, zb⟩ := hsh b (List.mem_of_getElem? hb9)
  have ga : cs.getD i default = a := getD_of ha
  have gb : cs.getD (i + 1) default = b := getD_of hb9
  cases h with
  | zero =>
    obtain ⟨av, Da, hLa, ea⟩ := hA
    obtain ⟨bv, Db, hLb, eb⟩ := hB
    have ea' : ((Da.map Prod.snd : List (Ky × Int)) : Tr Int 0) = a := ea
    have eb' : ((Db.map Prod.snd : List (Ky × Int)) : Tr Int 0) = b := eb
    subst ea'; subst eb'
    have za' : Da.length ≤ 7 := by have q : (Da.map Prod.snd).length ≤ 7 := za; simpa using q
    have zb' : Db.length ≤ 7 := by have q : (Db.map Prod.snd).length ≤ 7 := zb; simpa using q
    cases left with
    | true => exact lendLL hNd d1 d2 d3 s1 s2 s3 (by omega) hi hn hLa hLb hr hPc ha hb9 za' zb' (by have q : 3 < szT 0 (cs.getD (i + 1) default) := hl; rw [gb] at q; have q : 3 < (Db.map Prod.snd).length := q; simpa using q)
    | false => exact lendLR hNd d1 d2 d3 s1 s2 s3 (by omega) hi hn hLa hLb hr hPc ha hb9 za' zb' (by have q : 3 < szT 0 (cs.getD i default) := hl; rw [ga] at q; have q : 3 < (Da.map Prod.snd).length := q; simpa using q)
  | succ h =>
    obtain ⟨ka, ca, Ka, Pa, Ga, hNa, hKa, ea⟩ := hA
    obtain ⟨kb, cb, Kb, Pb, Gb, hNb, hKb, eb⟩ := hB
    obtain ⟨kla, ta⟩ := a
    obtain ⟨klb, tb⟩ := b
    have ea' : Ka.map Prod.snd = kla := ea
    have eb' : Kb.map Prod.snd = klb := eb
    subst ea'; subst eb'
    have la : ta.length = Ka.length + 1 := by have q := (ok_node.1 oa).1.1; simpa using q
    have lb : tb.length = Kb.length + 1 := by have q := (ok_node.1 ob).1.1; simpa using q
    have za' : Ka.length ≤ 7 := by have q : (Ka.map Prod.snd).length ≤ 7 := za; simpa using q
    have zb' : Kb.length ≤ 7 := by have q : (Kb.map Prod.snd).length ≤ 7 := zb; simpa using q
    cases left with
    | true => exact lendNL hNd d1 d2 d3 s1 s2 s3 (by omega) hi hn hNa hKa hNb hKb hr hPc ha hb9 la lb za' zb' (by have q : 3 < szT (h + 1) (cs.getD (i + 1) default) := hl; rw [gb] at q; have q : 3 < (Kb.map Prod.snd).length := q; simpa using q)
    | false => exact lendNR hNd d1 d2 d3 s1 s2 s3 (by omega) hi hn hNa hKa hNb hKb hr hPc ha hb9 la lb za' zb' (by have q : 3 < szT (h + 1) (cs.getD i default) := hl; rw [ga] at q; have q : 3 < (Ka.map Prod.snd).length := q; simpa using q)
theorem viewT {h p : Nat} {R W : Nat → Prop} {t : Tr Int h} {w : World} (T : TreeR kI R w h p t W) (O : Ok h t) : ∃ L, NodeV kI w.heap.size w p (szT h t) L := by
  cases h with
  | zero => exact ⟨[], leaf_view T⟩
  | succ h => obtain ⟨L, G, hV, _⟩ := node_view T (ok_node.1 O).1.1; exact ⟨L, hV⟩
theorem lendsF {h i p : Nat} {R W G : Nat → Prop} {kv cv : Value} {K : List DK} {P : List Nat} {cs : List (Tr Int h)} {w : World} {left : Bool} (hNd : NodeR kI R w p kv cv K P G W) (hKs : KidsR kI R w h P cs G) (hlen : cs.length = K.length + 1) (hsh : ∀ c ∈ cs, Ok h c ∧ szT h c ≤ 7) (hi : i < K.length) (hn : K.length ≤ 7) (hl : ¬ 3 < lender h cs i left) :
    Ret Try.prog 120 #[ptr p 0, .int .i64 ((i : Nat) : Int), .bool left] w (fun v' w' => Below w.heap.size w w' ∧ v' = .bool false) := by
  have hPc : P.length = cs.length := Kids.len hKs
  have V : ∀ j, j < cs.length → ∃ L, NodeV kI w.heap.size w (P.getD j default) (szT h (cs.getD j default)) L := fun j hj => by
    have hc : cs[j]? = some (cs[j]) := List.getElem?_eq_getElem hj
    obtain ⟨f, hf, _⟩ := Kids.get hKs hc
    rw [getD_of hc]
    exact viewT hf (hsh _ (List.mem_of_getElem? hc)).1
  cases left with
  | true => obtain ⟨L, hV⟩ := V (i + 1) (by omega); exact lend0L hNd.bx hNd.oc (by omega) (by omega) hV (by have q : ¬ 3 < szT h (cs.getD (i + 1) default) := hl; omega)
  | false => obtain ⟨L, hV⟩ := V i (by omega); exact lend0R hNd.bx hNd.oc (by omega) (by omega) hV (by have q : ¬ 3 < szT h (cs.getD i default) := hl; omega)
end Go.Proofs.Ytcpfdfejojghbaa

/- Walks, written by a program: what each function of the translation hands back. -/
namespace Go.Proofs.Ytcpfdfejojghbaa
open Go.Gx Go.RowKit
attribute [local irreducible] wpList wpStill Code.wp Calls
open Go.Bt
theorem mendL {h i j p : Nat} {R W G : Nat → Prop} {kv cv : Value} {K : List DK} {P : List Nat} {cs : List (Tr Int h)} {w : World} (hNd : NodeR kI R w p kv cv K P G W) (hKs : KidsR kI R w h P cs G) (hlen : cs.length = K.length + 1) (hsh : ∀ c ∈ cs, Ok h c ∧ szT h c ≤ 7) (hij : i = j - 1) (hi : i < K.length) (hn : K.length ≤ 7) (hl : 3 < lender h cs i (decide (j = 0))) : Ret Try.prog 88 #[(ptr p 0), (Value.int .i64 ((j : Nat) : Int))] w (fun v' w' => Gr w w' W ∧ v' = .tuple #[] ∧ ∃ W', TreeR kI R w' (h + 1) p (mendsT h ((K.map Prod.snd, cs) : Tr Int (h + 1)) j) W' ∧ NewF w.heap.size W W') := by
 have hKl : P.length = cs.length := Kids.len hKs
 have hb := Gr.refl w W
 refine enter (N := 101) Try.func88 rfl rfl (by simp) fun a0 hN hd hA => ?_
 have s0 : a0.tmps.getD 0 undef = (ptr p 0) := hA 0 (by simp)
 have s1 : a0.tmps.getD 1 undef = (Value.int .i64 ((j : Nat) : Int)) := hA 1 (by simp)
 clear hA
 refine seq_any fun K4434 hK4434 => ?_
 refine one_reg ?_
 refine op_move (ev_base hN rfl s1) ?_
 refine op_sub (r := ((j : Int) - 1)) (ev_hit hN rfl) rfl ((sub64 (by omega)).trans (by omega)) ?_
 refine op_max (r := ((i : Nat) : Int)) (ev_hit hN rfl) rfl (by split <;> omega) ?_
 refine op_assign (ev_hit hN rfl) ?_
 refine reg_nil ?_
 refine hK4434 _ _ ?_
 refine seq_any fun K4435 hK4435 => ?_
 refine seq_any fun K4436 hK4436 => ?_
 refine one_reg ?_
 refine op_move (ev_base hN rfl s0) ?_
 refine op_move (ev_hit hN rfl) ?_
 refine op_move (ev_base hN rfl s1) ?_
 refine op_eql (ev_hit hN rfl) rfl (fun c13 => ?_) (fun c13 => ?_)
 · -- 13T
  refine op_fn (vs := [(ptr p 0), (Value.int .i64 ((i : Nat) : Int)), (Value.bool true)]) ok120 ⟨(ev_hit hN rfl), ⟨(ev_hit hN rfl), ⟨(ev_hit hN rfl), trivial⟩⟩⟩ (lendsT (left := true) hNd hKs hlen hsh hi hn (by have q := hl; rw [decide_eq_true (show j = 0 by omega)] at q; exact q)) ?_
  rintro _ w4437 ⟨E4438, rfl, W9, hT9, hN9⟩
  have hb := hb.go E4438 (fun _ _ h => h)
  refine reg_nil ?_
  refine hK4436 _ _ ?_
  refine wp_cond_true (ev_hit hN rfl) ?_
  refine wp_ret (then_ret ( ?_))
  refine ret0 rfl hd  ⟨_, rfl, ?_⟩
  -- path 13T
  have hd9 := decide_eq_true (show j = 0 by omega)
  have hm9 := mends_lend (ks := K.map Prod.snd) (cs := cs) (i := j) (by rw [← hij]; exact hl)
  rw [hd9, ← hij] at hm9
  rw [hm9]
  exact ⟨hb, rfl, _, hT9, hN9.mono (by omega)⟩
 · -- 13F
  refine op_fn (vs := [(ptr p 0), (Value.int .i64 ((i : Nat) : Int)), (Value.bool false)]) ok120 ⟨(ev_hit hN rfl), ⟨(ev_hit hN rfl), ⟨(ev_hit hN rfl), trivial⟩⟩⟩ (lendsT (left := false) hNd hKs hlen hsh hi hn (by have q := hl; rw [decide_eq_false (show ¬ j = 0 by omega)] at q; exact q)) ?_
  rintro _ w4439 ⟨E4440, rfl, W9, hT9, hN9⟩
  have hb := hb.go E4440 (fun _ _ h => h)
  refine reg_nil ?_
  refine hK4436 _ _ ?_
  refine wp_cond_true (ev_hit hN rfl) ?_
  refine wp_ret (then_ret ( ?_))
  refine ret0 rfl hd  ⟨_, rfl, ?_⟩
  -- path 13F
  have hd9 := decide_eq_false (show ¬ j = 0 by omega)
  have hm9 := mends_lend (ks := K.map Prod.snd) (cs := cs) (i := j) (by rw [← hij]; exact hl)
  rw [hd9, ← hij] at hm9
  rw [hm9]
  exact ⟨hb, rfl, _, hT9, hN9.mono (by omega)⟩

end Go.Proofs.Ytcpfdfejojghbaa

/- Walks, written by a program: what each function of the translation hands back. -/
namespace Go.Proofs.Ytcpfdfejojghbaa
open Go.Gx Go.RowKit
attribute [local irreducible] wpList wpStill Code.wp Calls
open Go.Bt
set_option maxHeartbeats 1000000 in
theorem mendJL {i j p : Nat} {R W G f g G0 : Nat → Prop} {kv cv : Value} {K : List DK} {P : List Nat} {w : World} (hNd : NodeR kI R w p kv cv K P G W) (hfg : Dj f g) (hfG : Dj f G0) (hgG : Dj g G0) (hfs : ∀ k, f k → G k) (hgs : ∀ k, g k → G k) (hGs : ∀ k, G0 k → G k) (hPl : P.length = K.length + 1) (hi : i < K.length) (hn : K.length ≤ 7) {cs : List (Tr Int 0)} {av bv : Value} {Da Db : List (DP Int)} (hA : LeafR kI R w (P.getD i default) av Da f) (hB : LeafR kI R w (P.getD (i + 1) default) bv Db g) (hr : KidsR kI R w 0 ((P.eraseIdx i).eraseIdx i) ((cs.eraseIdx i).eraseIdx i) G0) (hPc : P.length = cs.length) (ha : cs[i]? = some ((Da.map Prod.snd : List (Ky × Int)) : Tr Int 0)) (hb9 : cs[i + 1]? = some ((Db.map Prod.snd : List (Ky × Int)) : Tr Int 0)) (hna : Da.length ≤ 7) (hnb : Db.length ≤ 7) (hKs0 : KidsR kI R w 0 P cs G) (hlen : cs.length = K.length + 1) (hsh : ∀ c ∈ cs, Ok 0 c ∧ szT 0 c ≤ 7) (hij : i = j - 1) (hl : ¬ 3 < lender 0 cs i (decide (j = 0))) : Ret Try.prog 88 #[(ptr p 0), (Value.int .i64 ((j : Nat) : Int))] w (fun v' w' => Gr w w' W ∧ v' = .tuple #[] ∧ ∃ W', TreeR kI R w' (0 + 1) p (mendsT 0 ((K.map Prod.snd, cs) : Tr Int (0 + 1)) j) W' ∧ NewF w.heap.size W W') := by
 have h0 : 0 ≤ w.heap.size := Nat.zero_le _
 have hx : Bx w p 115 [.slice none 0 0, kv, cv] := hNd.bx
 have ok := hNd.ok
 have oc : Own w 0 69 1 cv P.length (P.flatMap cN) := hNd.oc
 have ks := hNd.ks
 have hi_p := hx.lt
 have djkG : Dj (Bl kv) G0 := hNd.nk.mono hGs
 have djcG : Dj (Bl cv) G0 := hNd.nc.mono hGs
 have djpG : ¬ G0 p := fun q => hNd.np (hGs p q)
 have hxa : Bx w (P.getD i default) 115 [av, .slice none 0 0, .slice none 0 0] := hA.bx
 have oa : Own w 0 51 2 av Da.length (Da.flatMap cI) := hA.op
 have kas := hA.ks
 have hxb : Bx w (P.getD (i + 1) default) 115 [bv, .slice none 0 0, .slice none 0 0] := hB.bx
 have ob : Own w 0 51 2 bv Db.length (Db.flatMap cI) := hB.op
 have kbs := hB.ks
 have hi_a := hxa.lt
 have hi_b := hxb.lt
 have hab : (P.getD i default) ≠ (P.getD (i + 1) default) := fun e => hfg _ hA.wp (e ▸ hB.wp)
 have hpa : p ≠ (P.getD i default) := fun e => hNd.np (e ▸ hfs _ hA.wp)
 have hpb : p ≠ (P.getD (i + 1) default) := fun e => hNd.np (e ▸ hgs _ hB.wp)
 have djab : DJ av bv := fun k h1 h2 => hfg k (hA.wv k h1) (hB.wv k h2)
 have djaG : Dj (Bl av) G0 := fun k h => hfG k (hA.wv k h)
 have djbG : Dj (Bl bv) G0 := fun k h => hgG k (hB.wv k h)
 have djpaG : ¬ G0 (P.getD i default) := hfG _ hA.wp
 have djpbG : ¬ G0 (P.getD (i + 1) default) := hgG _ hB.wp
 have hNd0 := hNd
 have hb := Gr.refl w W
 refine enter (N := 101) Try.func88 rfl rfl (by simp) fun a0 hN hd hA => ?_
 have s0 : a0.tmps.getD 0 undef = (ptr p 0) := hA 0 (by simp)
 have s1 : a0.tmps.getD 1 undef = (Value.int .i64 ((j : Nat) : Int)) := hA 1 (by simp)
 clear hA
 refine seq_any fun K484 hK484 => ?_
 refine one_reg ?_
 refine op_move (ev_base hN rfl s1) ?_
 refine op_sub (r := ((j : Int) - 1)) (ev_hit hN rfl) rfl ((sub64 (by omega)).trans (by omega)) ?_
 refine op_max (r := ((i : Nat) : Int)) (ev_hit hN rfl) rfl (by split <;> omega) ?_
 refine op_assign (ev_hit hN rfl) ?_
 refine reg_nil ?_
 refine hK484 _ _ ?_
 refine seq_any fun K485 hK485 => ?_
 refine seq_any fun K486 hK486 => ?_
 refine one_reg ?_
 refine op_move (ev_base hN rfl s0) ?_
 refine op_move (ev_hit hN rfl) ?_
 refine op_move (ev_base hN rfl s1) ?_
 refine op_cmp (b := (decide (((j : Nat) : Int) = 0))) (ev_hit hN rfl) rfl (b_eql rfl) ?_
 refine op_fn (vs := [(ptr p 0), (Value.int .i64 ((i : Nat) : Int)), (Value.bool (decide (((j : Nat) : Int) = 0)))]) ok120 ⟨(ev_hit hN rfl), ⟨(ev_hit hN rfl), ⟨(ev_hit hN rfl), trivial⟩⟩⟩ (lendsF (left := (decide (((j : Nat) : Int) = 0))) hNd0 hKs0 hlen hsh hi hn (by have q := hl; rw [show decide (j = 0) = (decide (((j : Nat) : Int) = 0)) from decide_eq_decide.2 (by omega)] at q; exact q)) ?_
 rintro _ w487 ⟨E488, rfl⟩
 have E488 := grown_of_below E488
 have z_w487 := E488.size
 have hx := hx.keep0 E488
 have ok := ok.keep0 E488
 have oc := oc.keep0 E488
 have ks : ∀ x9 ∈ K, Own w487 0 5 1 x9.1 x9.2.length (x9.2.map u8v) := fun x9 hx9 => (ks x9 hx9).keep0 E488
 have hxa := hxa.keep0 E488
 have hxb := hxb.keep0 E488
 have oa := oa.keep0 E488
 have ob := ob.keep0 E488
 have kas : ∀ x9 ∈ (Da.map pk), Own w487 0 5 1 x9.1 x9.2.length (x9.2.map u8v) := fun x9 hx9 => (kas x9 hx9).keep0 E488
 have kbs : ∀ x9 ∈ (Db.map pk), Own w487 0 5 1 x9.1 x9.2.length (x9.2.map u8v) := fun x9 hx9 => (kbs x9 hx9).keep0 E488
 have hr := hr.keepG (Gr.of0 E488 NoB) (fun _ _ h => h) (NoK.no _)
 have hb := hb.step0 E488
 refine reg_nil ?_
 refine hK486 _ _ ?_
 refine wp_cond_false (ev_hit hN rfl) ?_
 refine wp_skip ?_
 refine hK485 _ _ ?_
 refine seq_any fun K489 hK489 => ?_
 refine reg_still mixed (by kernel_rfl) ?_
 intro w491 E490
 have z_w491 := E490.size
 have hx := hx.keep0 E490
 have ok := ok.keep0 E490
 have oc := oc.keep0 E490
 have ks : ∀ x9 ∈ K, Own w491 0 5 1 x9.1 x9.2.length (x9.2.map u8v) := fun x9 hx9 => (ks x9 hx9).keep0 E490
 have hxa := hxa.keep0 E490
 have hxb := hxb.keep0 E490
 have oa := oa.keep0 E490
 have ob := ob.keep0 E490
 have kas : ∀ x9 ∈ (Da.map pk), Own w491 0 5 1 x9.1 x9.2.length (x9.2.map u8v) := fun x9 hx9 => (kas x9 hx9).keep0 E490
 have kbs : ∀ x9 ∈ (Db.map pk), Own w491 0 5 1 x9.1 x9.2.length (x9.2.map u8v) := fun x9 hx9 => (kbs x9 hx9).keep0 E490
 have hr := hr.keepG (Gr.of0 E490 NoB) (fun _ _ h => h) (NoK.no _)
 have hb := hb.step0 E490
 refine st_step rfl (fun _ h9 => op_move (ev_base hN rfl s0) h9) ?_
 refine st_step rfl (fun _ h9 => op_nil (ev_hit hN rfl) h9) ?_
 refine st_step rfl (fun _ h9 => op_field fld115_2 (ev_hit hN rfl) h9) ?_
 refine st_step rfl (fun _ h9 => op_load1 (v := cv) one113 (ev_hit hN rfl) (hx.cell rfl) h9) ?_
 refine st_step rfl (fun _ h9 => op_move (ev_hit hN rfl) h9) ?_
 refine st_index_rd slt113 (ev_hit hN rfl) oc.rdw (ev_hit hN rfl) (by omega) (by omega) ?_
 intro b492 o493 h0b492 h1b492 hc494
 refine st_step rfl (fun _ h9 => op_load1 (v := (ptr (P.getD i default) 0)) one69 (ev_hit hN rfl) (by have := hc494 0 (ptr (P.getD i default) 0) (by decide) (el_pn (i := i) (by omega) (by first | omega | (simp only [List.length_drop, List.length_take]; omega))); simpa using this) h9) ?_
 refine st_step rfl (fun _ h9 => op_move (ev_base hN rfl s0) h9) ?_
 refine st_step rfl (fun _ h9 => op_nil (ev_hit hN rfl) h9) ?_
 refine st_step rfl (fun _ h9 => op_field fld115_2 (ev_hit hN rfl) h9) ?_
 refine st_step rfl (fun _ h9 => op_load1 (v := cv) one113 (ev_hit hN rfl) (hx.cell rfl) h9) ?_
 refine st_step rfl (fun _ h9 => op_move (ev_hit hN rfl) h9) ?_
 refine st_step rfl (fun _ h9 => op_add (ev_hit hN rfl) rfl (add64 (by omega)) h9) ?_
 refine st_index_rd slt113 (ev_hit hN rfl) oc.rdw (ev_hit hN rfl) (by omega) (by omega) ?_
 intro b495 o496 h0b495 h1b495 hc497
 refine st_step rfl (fun _ h9 => op_load1 (v := (ptr (P.getD (i + 1) default) 0)) one69 (ev_hit hN rfl) (by have := hc497 0 (ptr (P.getD (i + 1) default) 0) (by decide) (el_pn (i := (i + 1)) (by omega) (by first | omega | (simp only [List.length_drop, List.length_take]; omega))); simpa using this) h9) ?_
 refine st_step rfl (fun _ h9 => op_assign (ev_hit hN rfl) h9) ?_
 refine st_step rfl (fun _ h9 => op_assign (ev_hit hN rfl) h9) ?_
 refine st_nil ?_
 refine hK489 _ _ ?_
 refine seq_any fun K498 hK498 => ?_
 refine seq_any fun K499 hK499 => ?_
 refine one_reg ?_
 refine op_move (ev_hit hN rfl) ?_
 refine op_fn (vs := [(ptr (P.getD i default) 0)]) ok81 ⟨(ev_hit hN rfl), trivial⟩ (Ret.flip (leafLI hxa oa)) ?_
 rintro _ _ ⟨rfl, rfl⟩
 refine op_not (ev_hit hN rfl) ?_
 refine reg_nil ?_
 refine hK499 _ _ ?_
 refine wp_cond_false (ev_hit hN rfl) ?_
 refine wp_skip ?_
 refine hK498 _ _ ?_
 refine seq_any fun K500 hK500 => ?_
 refine reg_split (hd := [_, _, _, _, _, _, _, _, _, _, _, _, _, _, _, _, _, _, _, _, _, _, _]) (tl := _) 23 mixed (by kernel_rfl) rfl rfl ?_
 refine any_envk (φ := phiV [(fun uz => uz = (ptr (P.getD i default) 0)), (fun uz => uz = (ptr (P.getD i default) 0)), (fun uz => uz = (ptr (P.getD i default) 0)), (fun uz => uz = (ptr (P.getD i default) 0)), (fun uz => uz = (ptr (P.getD i default) 0)), (fun uz => uz = av), (fun uz => uz = (ptr (P.getD (i + 1) default) 0)), (fun uz => uz = (ptr (P.getD (i + 1) default) 0)), (fun uz => uz = (ptr (P.getD (i + 1) default) 0)), (fun uz => uz = bv), (fun _ => True), (fun uz => uz = (ptr (P.getD i default) 0)), (fun uz => uz = (ptr (P.getD i default) 0)), (fun uz => uz = (ptr (P.getD i default) 2)), (fun uz => uz = (Value.slice none 0 0)), (fun uz => uz = (ptr (P.getD (i + 1) default) 0)), (fun uz => uz = (ptr (P.getD (i + 1) default) 0)), (fun uz => uz = (ptr (P.getD (i + 1) default) 2)), (fun uz => uz = (Value.slice none 0 0)), (fun _ => True), (fun uz => uz = (ptr (P.getD i default) 0)), (fun uz => uz = (ptr (P.getD i default) 0)), (fun _ => True)]) (G := fun c9 w' => c9 ≤ 2 → (Bx w' (P.getD i default) 115 [av, (Value.slice none 0 0), (Value.slice none 0 0)] ∧ Bx w' (P.getD (i + 1) default) 115 [bv, (Value.slice none 0 0), (Value.slice none 0 0)])) [10, 19, 22] (by kernel_rfl) (by kernel_rfl) (by kernel_rfl) (by kernel_rfl) hN (fun _ w1 w2 E h hc9 => by have h := h hc9; obtain ⟨h0, h1⟩ := h; exact ⟨h0.keep0 E, h1.keep0 E⟩) (fun _ => ⟨hxa, hxb⟩) (ObKs.cons ?_ (ObKs.cons ?_ (ObKs.cons ?_ (ObKs.cons ?_ (ObKs.cons ?_ (ObKs.cons ?_ (ObKs.cons ?_ (ObKs.cons ?_ (ObKs.cons ?_ (ObKs.cons ?_ (ObKs.pass rfl (ObKs.cons ?_ (ObKs.cons ?_ (ObKs.cons ?_ (ObKs.cons ?_ (ObKs.cons ?_ (ObKs.cons ?_ (ObKs.cons ?_ (ObKs.cons ?_ (ObKs.pass rfl (ObKs.cons ?_ (ObKs.cons ?_ (ObKs.pass rfl (ObKs.nil)))))))))))))))))))))))) (by simp only [putsL_defers]) ?_
 ·
  intro eA aA wA hNA hckA hGA hbsA hdpA
  have qA_5 := (hbsA 5 rfl).trans (sl_hit hN rfl)
  refine op_move (ev_base hNA rfl qA_5) ?_
  exact obK_end rfl rfl rfl
 ·
  intro eA aA wA hNA hckA hGA hbsA hdpA
  have qA_5 := (hbsA 5 rfl).trans (sl_hit hN rfl)
  refine op_move (ev_base hNA rfl qA_5) ?_
  exact obK_end rfl rfl rfl
 ·
  intro eA aA wA hNA hckA hGA hbsA hdpA
  have qA_5 := (hbsA 5 rfl).trans (sl_hit hN rfl)
  refine op_move (ev_base hNA rfl qA_5) ?_
  exact obK_end rfl rfl rfl
 ·
  intro eA aA wA hNA hckA hGA hbsA hdpA
  have qA_56 : Sl aA 56 (ptr (P.getD i default) 0) := (hdpA 2 _ 56 (by kernel_rfl) rfl rfl).2 rfl
  refine op_nil (ev_base hNA rfl qA_56) ?_
  exact obK_end rfl rfl rfl
 ·
  intro eA aA wA hNA hckA hGA hbsA hdpA
  have qA_57 : Sl aA 57 (ptr (P.getD i default) 0) := (hdpA 3 _ 57 (by kernel_rfl) rfl rfl).2 rfl
  refine op_field fld115_0 (ev_base hNA rfl qA_57) ?_
  exact obK_end rfl rfl rfl
 ·
  intro eA aA wA hNA hckA hGA hbsA hdpA
  have qA_58 : Sl aA 58 (ptr (P.getD i default) 0) := (hdpA 4 _ 58 (by kernel_rfl) rfl rfl).2 rfl
  have hGA := hGA (hckA 2 22 rfl (by kernel_rfl))
  obtain ⟨hxa, hxb⟩ := hGA
  refine op_load1 (v := av) one48 (ev_base hNA rfl qA_58) (hxa.cell rfl) ?_
  exact obK_end rfl rfl rfl
 ·
  intro eA aA wA hNA hckA hGA hbsA hdpA
  have qA_6 := (hbsA 6 rfl).trans (sl_hit hN rfl)
  refine op_move (ev_base hNA rfl qA_6) ?_
  exact obK_end rfl rfl rfl
 ·
  intro eA aA wA hNA hckA hGA hbsA hdpA
  have qA_60 : Sl aA 60 (ptr (P.getD (i + 1) default) 0) := (hdpA 6 _ 60 (by kernel_rfl) rfl rfl).2 rfl
  refine op_nil (ev_base hNA rfl qA_60) ?_
  exact obK_end rfl rfl rfl
 ·
  intro eA aA wA hNA hckA hGA hbsA hdpA
  have qA_61 : Sl aA 61 (ptr (P.getD (i + 1) default) 0) := (hdpA 7 _ 61 (by kernel_rfl) rfl rfl).2 rfl
  refine op_field fld115_0 (ev_base hNA rfl qA_61) ?_
  exact obK_end rfl rfl rfl
 ·
  intro eA aA wA hNA hckA hGA hbsA hdpA
  have qA_62 : Sl aA 62 (ptr (P.getD (i + 1) default) 0) := (hdpA 8 _ 62 (by kernel_rfl) rfl rfl).2 rfl
  have hGA := hGA (hckA 2 22 rfl (by kernel_rfl))
  obtain ⟨hxa, hxb⟩ := hGA
  refine op_load1 (v := bv) one48 (ev_base hNA rfl qA_62) (hxb.cell rfl) ?_
  exact obK_end rfl rfl rfl
 ·
  intro eA aA wA hNA hckA hGA hbsA hdpA
  have qA_5 := (hbsA 5 rfl).trans (sl_hit hN rfl)
  refine op_move (ev_base hNA rfl qA_5) ?_
  exact obK_end rfl rfl rfl
 ·
  intro eA aA wA hNA hckA hGA hbsA hdpA
  have qA_65 : Sl aA 65 (ptr (P.getD i default) 0) := (hdpA 11 _ 65 (by kernel_rfl) rfl rfl).2 rfl
  refine op_nil (ev_base hNA rfl qA_65) ?_
  exact obK_end rfl rfl rfl
 ·
  intro eA aA wA hNA hckA hGA hbsA hdpA
  have qA_66 : Sl aA 66 (ptr (P.getD i default) 0) := (hdpA 12 _ 66 (by kernel_rfl) rfl rfl).2 rfl
  refine op_field fld115_2 (ev_base hNA rfl qA_66) ?_
  exact obK_end rfl rfl rfl
 ·
  intro eA aA wA hNA hckA hGA hbsA hdpA
  have qA_67 : Sl aA 67 (ptr (P.getD i default) 2) := (hdpA 13 _ 67 (by kernel_rfl) rfl rfl).2 rfl
  have hGA := hGA (hckA 2 22 rfl (by kernel_rfl))
  obtain ⟨hxa, hxb⟩ := hGA
  refine op_load1 (v := (Value.slice none 0 0)) one113 (ev_base hNA rfl qA_67) (hxa.cell rfl) ?_
  exact obK_end rfl rfl rfl
 ·
  intro eA aA wA hNA hckA hGA hbsA hdpA
  have qA_6 := (hbsA 6 rfl).trans (sl_hit hN rfl)
  refine op_move (ev_base hNA rfl qA_6) ?_
  exact obK_end rfl rfl rfl
 ·
  intro eA aA wA hNA hckA hGA hbsA hdpA
  have qA_69 : Sl aA 69 (ptr (P.getD (i + 1) default) 0) := (hdpA 15 _ 69 (by kernel_rfl) rfl rfl).2 rfl
  refine op_nil (ev_base hNA rfl qA_69) ?_
  exact obK_end rfl rfl rfl
 ·
  intro eA aA wA hNA hckA hGA hbsA hdpA
  have qA_70 : Sl aA 70 (ptr (P.getD (i + 1) default) 0) := (hdpA 16 _ 70 (by kernel_rfl) rfl rfl).2 rfl
  refine op_field fld115_2 (ev_base hNA rfl qA_70) ?_
  exact obK_end rfl rfl rfl
 ·
  intro eA aA wA hNA hckA hGA hbsA hdpA
  have qA_71 : Sl aA 71 (ptr (P.getD (i + 1) default) 2) := (hdpA 17 _ 71 (by kernel_rfl) rfl rfl).2 rfl
  have hGA := hGA (hckA 2 22 rfl (by kernel_rfl))
  obtain ⟨hxa, hxb⟩ := hGA
  refine op_load1 (v := (Value.slice none 0 0)) one113 (ev_base hNA rfl qA_71) (hxb.cell rfl) ?_
  exact obK_end rfl rfl rfl
 ·
  intro eA aA wA hNA hckA hGA hbsA hdpA
  have qA_54 : Sl aA 54 (ptr (P.getD i default) 0) := (hdpA 0 _ 54 (by kernel_rfl) rfl rfl).2 rfl
  refine op_nil (ev_base hNA rfl qA_54) ?_
  exact obK_end rfl rfl rfl
 ·
  intro eA aA wA hNA hckA hGA hbsA hdpA
  have qA_74 : Sl aA 74 (ptr (P.getD i default) 0) := (hdpA 20 _ 74 (by kernel_rfl) rfl rfl).2 rfl
  refine op_field fld115_0 (ev_base hNA rfl qA_74) ?_
  exact obK_end rfl rfl rfl
 ·
  intro w501 E501 _ a501 hN501 hbs501 hdp501 o_ ho_; obtain rfl := Option.some.inj ho_
  have z_w501 := E501.size
  have hx := hx.keep0 E501
  have ok := ok.keep0 E501
  have oc := oc.keep0 E501
  have ks : ∀ x9 ∈ K, Own w501 0 5 1 x9.1 x9.2.length (x9.2.map u8v) := fun x9 hx9 => (ks x9 hx9).keep0 E501
  have hxa := hxa.keep0 E501
  have hxb := hxb.keep0 E501
  have oa := oa.keep0 E501
  have ob := ob.keep0 E501
  have kas : ∀ x9 ∈ (Da.map pk), Own w501 0 5 1 x9.1 x9.2.length (x9.2.map u8v) := fun x9 hx9 => (kas x9 hx9).keep0 E501
  have kbs : ∀ x9 ∈ (Db.map pk), Own w501 0 5 1 x9.1 x9.2.length (x9.2.map u8v) := fun x9 hx9 => (kbs x9 hx9).keep0 E501
  have hr := hr.keepG (Gr.of0 E501 NoB) (fun _ _ h => h) (NoK.no _)
  have hb := hb.step0 E501
  have q501_59 : Sl a501 59 av := (hdp501 5 _ 59 (by kernel_rfl) rfl rfl).2 rfl
  have q501_63 : Sl a501 63 bv := (hdp501 9 _ 63 (by kernel_rfl) rfl rfl).2 rfl
  have hP507 := oa
  refine op_append slt48 (ev_base hN501 rfl q501_59) hP507 (ev_base hN501 rfl q501_63) (Src.ofRd Try.underlying48 (by decide) ob.rdw (one_pI kbs (fun _ h => h))) (by unfold maxLen; omega) (by omega) (Nat.le_trans (by assumption) hb.size) ?_
  intro v502 w503 hO505 E504 hm506
  have dj508 : DJ bv v502 := DJ.step hm506 (fun k hk => (ob.lt k hk).2) djab.symm
  have dj509 : Dj G0 (Bl v502) := Dj.step hm506 (fun k hk => (hr.lt k hk).2) djaG.symm
  have z_w503 := E504.size
  have hx := hx.keepO hP507 E504 (by decide)
  have ok := ok.keepT hP507 E504 (by decide)
  have oc := oc.keepT hP507 E504 (by decide)
  have ks : ∀ x9 ∈ K, Own w503 0 5 1 x9.1 x9.2.length (x9.2.map u8v) := fun x9 hx9 => (ks x9 hx9).keepT hP507 E504 (by decide)
  have hxa := hxa.keepO hP507 E504 (by decide)
  have hxb := hxb.keepO hP507 E504 (by decide)
  have ob := ob.keepD E504 djab.symm
  have kas : ∀ x9 ∈ (Da.map pk), Own w503 0 5 1 x9.1 x9.2.length (x9.2.map u8v) := fun x9 hx9 => (kas x9 hx9).keepT hP507 E504 (by decide)
  have kbs : ∀ x9 ∈ (Db.map pk), Own w503 0 5 1 x9.1 x9.2.length (x9.2.map u8v) := fun x9 hx9 => (kbs x9 hx9).keepT hP507 E504 (by decide)
  have hr := hr.keepG (Gr.of E504) djaG.symm (NoK.ofOwn hP507 (by decide))
  have hb := hb.stepL E504 (fun k _ h => hNd.wg k (hfs k (hA.wv k h)))
  have hO505 : Own w503 0 51 2 v502 (Da.length + Db.length) (((Da ++ Db)).flatMap cI) := by simpa [u8v, sv] using hO505
  refine kk_end rfl (by decide) rfl (fun _ => ⟨hxa, hxb⟩) ?_
  intro w510 E510 _ a510 hN510 hbs510 hdp510 o_ ho_; obtain rfl := Option.some.inj ho_
  have z_w510 := E510.size
  have hx := hx.keep0 E510
  have ok := ok.keep0 E510
  have oc := oc.keep0 E510
  have ks : ∀ x9 ∈ K, Own w510 0 5 1 x9.1 x9.2.length (x9.2.map u8v) := fun x9 hx9 => (ks x9 hx9).keep0 E510
  have hxa := hxa.keep0 E510
  have hxb := hxb.keep0 E510
  have ob := ob.keep0 E510
  have kas : ∀ x9 ∈ (Da.map pk), Own w510 0 5 1 x9.1 x9.2.length (x9.2.map u8v) := fun x9 hx9 => (kas x9 hx9).keep0 E510
  have kbs : ∀ x9 ∈ (Db.map pk), Own w510 0 5 1 x9.1 x9.2.length (x9.2.map u8v) := fun x9 hx9 => (kbs x9 hx9).keep0 E510
  have hr := hr.keepG (Gr.of0 E510 NoB) (fun _ _ h => h) (NoK.no _)
  have hO505 := hO505.keep0 E510
  have hb := hb.step0 E510
  have q510_68 : Sl a510 68 (Value.slice none 0 0) := (hdp510 14 _ 68 (by kernel_rfl) rfl rfl).2 rfl
  have q510_72 : Sl a510 72 (Value.slice none 0 0) := (hdp510 18 _ 72 (by kernel_rfl) rfl rfl).2 rfl
  refine op_append_none slt113 Try.underlying113 (by decide) (ev_base hN510 rfl q510_68) (ev_base hN510 rfl q510_72) ?_
  intro w511 E512
  have z_w511 := E512.size
  have hx := hx.keep0 E512
  have ok := ok.keep0 E512
  have oc := oc.keep0 E512
  have ks : ∀ x9 ∈ K, Own w511 0 5 1 x9.1 x9.2.length (x9.2.map u8v) := fun x9 hx9 => (ks x9 hx9).keep0 E512
  have hxa := hxa.keep0 E512
  have hxb := hxb.keep0 E512
  have ob := ob.keep0 E512
  have kas : ∀ x9 ∈ (Da.map pk), Own w511 0 5 1 x9.1 x9.2.length (x9.2.map u8v) := fun x9 hx9 => (kas x9 hx9).keep0 E512
  have kbs : ∀ x9 ∈ (Db.map pk), Own w511 0 5 1 x9.1 x9.2.length (x9.2.map u8v) := fun x9 hx9 => (kbs x9 hx9).keep0 E512
  have hr := hr.keepG (Gr.of0 E512 NoB) (fun _ _ h => h) (NoK.no _)
  have hO505 := hO505.keep0 E512
  have hb := hb.step0 E512
  refine kk_end rfl (by decide) rfl (fun _ => ⟨hxa, hxb⟩) ?_
  intro w513 E513 _ a513 hN513 hbs513 hdp513 o_ ho_; obtain rfl := Option.some.inj ho_
  have z_w513 := E513.size
  have hx := hx.keep0 E513
  have ok := ok.keep0 E513
  have oc := oc.keep0 E513
  have ks : ∀ x9 ∈ K, Own w513 0 5 1 x9.1 x9.2.length (x9.2.map u8v) := fun x9 hx9 => (ks x9 hx9).keep0 E513
  have hxa := hxa.keep0 E513
  have hxb := hxb.keep0 E513
  have ob := ob.keep0 E513
  have kas : ∀ x9 ∈ (Da.map pk), Own w513 0 5 1 x9.1 x9.2.length (x9.2.map u8v) := fun x9 hx9 => (kas x9 hx9).keep0 E513
  have kbs : ∀ x9 ∈ (Db.map pk), Own w513 0 5 1 x9.1 x9.2.length (x9.2.map u8v) := fun x9 hx9 => (kbs x9 hx9).keep0 E513
  have hr := hr.keepG (Gr.of0 E513 NoB) (fun _ _ h => h) (NoK.no _)
  have hO505 := hO505.keep0 E513
  have hb := hb.step0 E513
  have q513_75 : Sl a513 75 (ptr (P.getD i default) 0) := (hdp513 21 _ 75 (by kernel_rfl) rfl rfl).2 rfl
  have q513_64 : Sl a513 64 v502 := (Option.some.inj ((hdp513 10 _ 64 (by kernel_rfl) rfl rfl).1 0 rfl)).symm
  have hxa_old := hxa
  refine op_store (vs := [v502]) (cs' := [v502, (Value.slice none 0 0), (Value.slice none 0 0)]) size48 (ev_base hN513 rfl q513_75) (ev_base hN513 rfl q513_64) hO505.cl rfl (by simp only [List.all_cons, List.all_nil, Bool.true_and, Bool.and_true, hO505.one]; try rfl) hxa (Nat.le_of_ble_eq_true rfl) rfl ?_
  intro w516 hxa E517
  have z_w516 := E517.size
  have hx := hx.keep E517 (by simp only [ne_eq, Option.some.injEq]; omega)
  have ok := ok.keepX hxa_old E517 (by decide)
  have oc := oc.keepX hxa_old E517 (by decide)
  have ks : ∀ x9 ∈ K, Own w516 0 5 1 x9.1 x9.2.length (x9.2.map u8v) := fun x9 hx9 => (ks x9 hx9).keepX hxa_old E517 (by decide)
  have hxb := hxb.keep E517 (by simp only [ne_eq, Option.some.injEq]; omega)
  have ob := ob.keepX hxa_old E517 (by decide)
  have kas : ∀ x9 ∈ (Da.map pk), Own w516 0 5 1 x9.1 x9.2.length (x9.2.map u8v) := fun x9 hx9 => (kas x9 hx9).keepX hxa_old E517 (by decide)
  have kbs : ∀ x9 ∈ (Db.map pk), Own w516 0 5 1 x9.1 x9.2.length (x9.2.map u8v) := fun x9 hx9 => (kbs x9 hx9).keepX hxa_old E517 (by decide)
  have hr := hr.keepG (Gr.of E517) (Dj.one djpaG) (NoK.ofBx hxa_old (by decide))
  have hO505 := hO505.keepX hxa_old E517 (by decide)
  have hb := hb.stepB E517 (hNd.wg _ (hfs _ hA.wp))
  refine kk_end0 rfl (fun h => absurd h (by simp)) ?_
  intro w518 E518 a518 hN518 hd518 hbs518 hph518
  have hd518 := hd518.trans ((by simp only [putsL_defers] : _ = _).trans hd)
  have z_w518 := E518.size
  have hx := hx.keep0 E518
  have ok := ok.keep0 E518
  have oc := oc.keep0 E518
  have ks : ∀ x9 ∈ K, Own w518 0 5 1 x9.1 x9.2.length (x9.2.map u8v) := fun x9 hx9 => (ks x9 hx9).keep0 E518
  have hxb := hxb.keep0 E518
  have ob := ob.keep0 E518
  have kas : ∀ x9 ∈ (Da.map pk), Own w518 0 5 1 x9.1 x9.2.length (x9.2.map u8v) := fun x9 hx9 => (kas x9 hx9).keep0 E518
  have kbs : ∀ x9 ∈ (Db.map pk), Own w518 0 5 1 x9.1 x9.2.length (x9.2.map u8v) := fun x9 hx9 => (kbs x9 hx9).keep0 E518
  have hr := hr.keepG (Gr.of0 E518 NoB) (fun _ _ h => h) (NoK.no _)
  have hO505 := hO505.keep0 E518
  have hxa := hxa.keep0 E518
  have hb := hb.step0 E518
  have s518_0 := (hbs518 0 rfl).trans (sl_base hN rfl s0)
  have s518_4 := (hbs518 4 rfl).trans (sl_hit hN rfl)
  have s518_55 : Sl a518 55 (ptr (P.getD i default) 0) := (hph518 1 _ 55 rfl rfl).2 rfl
  have s518_73 : Sl a518 73 (Value.slice none 0 0) := (Option.some.inj ((hph518 19 _ 73 rfl rfl).1 1 rfl)).symm
  refine split_end ?_
  refine from_seq (tl := [_, _, _]) (by decide) (by kernel_rfl) rfl ?_
  refine op_nil (ev_base hN518 rfl s518_55) ?_
  refine op_field fld115_2 (ev_hit hN518 rfl) ?_
  have hxa_old := hxa
  refine op_store (vs := [(Value.slice none 0 0)]) (cs' := [v502, (Value.slice none 0 0), (Value.slice none 0 0)]) size113 (ev_hit hN518 rfl) (ev_base hN518 rfl s518_73) rfl rfl rfl hxa (Nat.le_of_ble_eq_true rfl) rfl ?_
  intro w521 hxa E522
  have z_w521 := E522.size
  have hx := hx.keep E522 (by simp only [ne_eq, Option.some.injEq]; omega)
  have ok := ok.keepX hxa_old E522 (by decide)
  have oc := oc.keepX hxa_old E522 (by decide)
  have ks : ∀ x9 ∈ K, Own w521 0 5 1 x9.1 x9.2.length (x9.2.map u8v) := fun x9 hx9 => (ks x9 hx9).keepX hxa_old E522 (by decide)
  have hxb := hxb.keep E522 (by simp only [ne_eq, Option.some.injEq]; omega)
  have ob := ob.keepX hxa_old E522 (by decide)
  have kas : ∀ x9 ∈ (Da.map pk), Own w521 0 5 1 x9.1 x9.2.length (x9.2.map u8v) := fun x9 hx9 => (kas x9 hx9).keepX hxa_old E522 (by decide)
  have kbs : ∀ x9 ∈ (Db.map pk), Own w521 0 5 1 x9.1 x9.2.length (x9.2.map u8v) := fun x9 hx9 => (kbs x9 hx9).keepX hxa_old E522 (by decide)
  have hr := hr.keepG (Gr.of E522) (Dj.one djpaG) (NoK.ofBx hxa_old (by decide))
  have hO505 := hO505.keepX hxa_old E522 (by decide)
  have hb := hb.stepB E522 (hNd.wg _ (hfs _ hA.wp))
  refine reg_nil ?_
  refine hK500 _ _ ?_
  refine reg_split (hd := [_, _, _, _, _, _, _, _, _, _, _, _, _, _, _, _, _, _, _, _, _, _]) (tl := _) 22 mixed (by kernel_rfl) rfl rfl ?_
  refine any_envk (φ := phiV [(fun uz => uz = (ptr p 0)), (fun uz => uz = (ptr p 0)), (fun uz => uz = (ptr p 0)), (fun uz => uz = (ptr p 0)), (fun uz => uz = (ptr p 1)), (fun uz => uz = kv), (fun uz => uz = (Value.int .i64 ((i : Nat) : Int))), (fun uz => uz = (Value.int .i64 ((i : Nat) : Int))), (fun uz => uz = (Value.int .i64 (((i : Nat) : Int) + 1))), (fun _ => True), (fun uz => uz = (ptr p 0)), (fun uz => uz = (ptr p 0)), (fun uz => uz = (ptr p 2)), (fun uz => uz = cv), (fun uz => uz = (Value.int .i64 ((i : Nat) : Int))), (fun uz => uz = (Value.int .i64 ((i + 1 : Nat) : Int))), (fun uz => uz = (Value.int .i64 ((i : Nat) : Int))), (fun uz => uz = (Value.int .i64 ((i + 1 + 1 : Nat) : Int))), (fun _ => True), (fun uz => uz = (ptr p 0)), (fun uz => uz = (ptr p 1)), (fun _ => True)]) (G := fun c9 w' => c9 ≤ 2 → (Bx w' p 115 [(Value.slice none 0 0), kv, cv])) [9, 18, 21] (by kernel_rfl) (by kernel_rfl) (by kernel_rfl) (by kernel_rfl) hN518 (fun _ w1 w2 E h hc9 => (h hc9).keep0 E) (fun _ => hx) (ObKs.cons ?_ (ObKs.cons ?_ (ObKs.cons ?_ (ObKs.cons ?_ (ObKs.cons ?_ (ObKs.cons ?_ (ObKs.cons ?_ (ObKs.cons ?_ (ObKs.cons ?_ (ObKs.pass rfl (ObKs.cons ?_ (ObKs.cons ?_ (ObKs.cons ?_ (ObKs.cons ?_ (ObKs.cons ?_ (ObKs.cons ?_ (ObKs.cons ?_ (ObKs.cons ?_ (ObKs.pass rfl (ObKs.cons ?_ (ObKs.cons ?_ (ObKs.pass rfl (ObKs.nil))))))))))))))))))))))) (by simp only [putsL_defers]) ?_
  ·
   intro eA aA wA hNA hckA hGA hbsA hdpA
   have qA_0 := (hbsA 0 rfl).trans (sl_base hN518 rfl s518_0)
   refine op_move (ev_base hNA rfl qA_0) ?_
   exact obK_end rfl rfl rfl
  ·
   intro eA aA wA hNA hckA hGA hbsA hdpA
   have qA_0 := (hbsA 0 rfl).trans (sl_base hN518 rfl s518_0)
   refine op_move (ev_base hNA rfl qA_0) ?_
   exact obK_end rfl rfl rfl
  ·
   intro eA aA wA hNA hckA hGA hbsA hdpA
   have qA_0 := (hbsA 0 rfl).trans (sl_base hN518 rfl s518_0)
   refine op_move (ev_base hNA rfl qA_0) ?_
   exact obK_end rfl rfl rfl
  ·
   intro eA aA wA hNA hckA hGA hbsA hdpA
   have qA_80 : Sl aA 80 (ptr p 0) := (hdpA 2 _ 80 (by kernel_rfl) rfl rfl).2 rfl
   refine op_nil (ev_base hNA rfl qA_80) ?_
   exact obK_end rfl rfl rfl
  ·
   intro eA aA wA hNA hckA hGA hbsA hdpA
   have qA_81 : Sl aA 81 (ptr p 0) := (hdpA 3 _ 81 (by kernel_rfl) rfl rfl).2 rfl
   refine op_field fld115_1 (ev_base hNA rfl qA_81) ?_
   exact obK_end rfl rfl rfl
  ·
   intro eA aA wA hNA hckA hGA hbsA hdpA
   have qA_82 : Sl aA 82 (ptr p 1) := (hdpA 4 _ 82 (by kernel_rfl) rfl rfl).2 rfl
   have hGA := hGA (hckA 2 21 rfl (by kernel_rfl))
   refine op_load1 (v := kv) one90 (ev_base hNA rfl qA_82) (hGA.cell rfl) ?_
   exact obK_end rfl rfl rfl
  ·
   intro eA aA wA hNA hckA hGA hbsA hdpA
   have qA_4 := (hbsA 4 rfl).trans (sl_base hN518 rfl s518_4)
   refine op_move (ev_base hNA rfl qA_4) ?_
   exact obK_end rfl rfl rfl
  ·
   intro eA aA wA hNA hckA hGA hbsA hdpA
   have qA_4 := (hbsA 4 rfl).trans (sl_base hN518 rfl s518_4)
   refine op_move (ev_base hNA rfl qA_4) ?_
   exact obK_end rfl rfl rfl
  ·
   intro eA aA wA hNA hckA hGA hbsA hdpA
   have qA_85 : Sl aA 85 (Value.int .i64 ((i : Nat) : Int)) := (hdpA 7 _ 85 (by kernel_rfl) rfl rfl).2 rfl
   refine op_add (ev_base hNA rfl qA_85) rfl (add64 (by omega)) ?_
   exact obK_end rfl rfl rfl
  ·
   intro eA aA wA hNA hckA hGA hbsA hdpA
   have qA_0 := (hbsA 0 rfl).trans (sl_base hN518 rfl s518_0)
   refine op_move (ev_base hNA rfl qA_0) ?_
   exact obK_end rfl rfl rfl
  ·
   intro eA aA wA hNA hckA hGA hbsA hdpA
   have qA_88 : Sl aA 88 (ptr p 0) := (hdpA 10 _ 88 (by kernel_rfl) rfl rfl).2 rfl
   refine op_nil (ev_base hNA rfl qA_88) ?_
   exact obK_end rfl rfl rfl
  ·
   intro eA aA wA hNA hckA hGA hbsA hdpA
   have qA_89 : Sl aA 89 (ptr p 0) := (hdpA 11 _ 89 (by kernel_rfl) rfl rfl).2 rfl
   refine op_field fld115_2 (ev_base hNA rfl qA_89) ?_
   exact obK_end rfl rfl rfl
  ·
   intro eA aA wA hNA hckA hGA hbsA hdpA
   have qA_90 : Sl aA 90 (ptr p 2) := (hdpA 12 _ 90 (by kernel_rfl) rfl rfl).2 rfl
   have hGA := hGA (hckA 2 21 rfl (by kernel_rfl))
   refine op_load1 (v := cv) one113 (ev_base hNA rfl qA_90) (hGA.cell rfl) ?_
   exact obK_end rfl rfl rfl
  ·
   intro eA aA wA hNA hckA hGA hbsA hdpA
   have qA_4 := (hbsA 4 rfl).trans (sl_base hN518 rfl s518_4)
   refine op_move (ev_base hNA rfl qA_4) ?_
   exact obK_end rfl rfl rfl
  ·
   intro eA aA wA hNA hckA hGA hbsA hdpA
   have qA_92 : Sl aA 92 (Value.int .i64 ((i : Nat) : Int)) := (hdpA 14 _ 92 (by kernel_rfl) rfl rfl).2 rfl
   refine op_add (r := ((i + 1 : Nat) : Int)) (ev_base hNA rfl qA_92) rfl ((add64 (by omega)).trans (by omega)) ?_
   exact obK_end rfl rfl rfl
  ·
   intro eA aA wA hNA hckA hGA hbsA hdpA
   have qA_4 := (hbsA 4 rfl).trans (sl_base hN518 rfl s518_4)
   refine op_move (ev_base hNA rfl qA_4) ?_
   exact obK_end rfl rfl rfl
  ·
   intro eA aA wA hNA hckA hGA hbsA hdpA
   have qA_94 : Sl aA 94 (Value.int .i64 ((i : Nat) : Int)) := (hdpA 16 _ 94 (by kernel_rfl) rfl rfl).2 rfl
   refine op_add (r := ((i + 1 + 1 : Nat) : Int)) (ev_base hNA rfl qA_94) rfl ((add64 (by omega)).trans (by omega)) ?_
   exact obK_end rfl rfl rfl
  ·
   intro eA aA wA hNA hckA hGA hbsA hdpA
   have qA_78 : Sl aA 78 (ptr p 0) := (hdpA 0 _ 78 (by kernel_rfl) rfl rfl).2 rfl
   refine op_nil (ev_base hNA rfl qA_78) ?_
   exact obK_end rfl rfl rfl
  ·
   intro eA aA wA hNA hckA hGA hbsA hdpA
   have qA_97 : Sl aA 97 (ptr p 0) := (hdpA 19 _ 97 (by kernel_rfl) rfl rfl).2 rfl
   refine op_field fld115_1 (ev_base hNA rfl qA_97) ?_
   exact obK_end rfl rfl rfl
  ·
   intro w523 E523 _ a523 hN523 hbs523 hdp523 o_ ho_; obtain rfl := Option.some.inj ho_
   have z_w523 := E523.size
   have hx := hx.keep0 E523
   have ok := ok.keep0 E523
   have oc := oc.keep0 E523
   have ks : ∀ x9 ∈ K, Own w523 0 5 1 x9.1 x9.2.length (x9.2.map u8v) := fun x9 hx9 => (ks x9 hx9).keep0 E523
   have hxb := hxb.keep0 E523
   have ob := ob.keep0 E523
   have kas : ∀ x9 ∈ (Da.map pk), Own w523 0 5 1 x9.1 x9.2.length (x9.2.map u8v) := fun x9 hx9 => (kas x9 hx9).keep0 E523
   have kbs : ∀ x9 ∈ (Db.map pk), Own w523 0 5 1 x9.1 x9.2.length (x9.2.map u8v) := fun x9 hx9 => (kbs x9 hx9).keep0 E523
   have hr := hr.keepG (Gr.of0 E523 NoB) (fun _ _ h => h) (NoK.no _)
   have hO505 := hO505.keep0 E523
   have hxa := hxa.keep0 E523
   have hb := hb.step0 E523
   have q523_83 : Sl a523 83 kv := (hdp523 5 _ 83 (by kernel_rfl) rfl rfl).2 rfl
   have q523_84 : Sl a523 84 (Value.int .i64 ((i : Nat) : Int)) := (hdp523 6 _ 84 (by kernel_rfl) rfl rfl).2 rfl
   have q523_86 : Sl a523 86 (Value.int .i64 (((i : Nat) : Int) + 1)) := (hdp523 8 _ 86 (by kernel_rfl) rfl rfl).2 rfl
   refine op_fn (vs := [kv, (Value.int .i64 ((i : Nat) : Int)), (Value.int .i64 (((i : Nat) : Int) + 1))]) ok121 ⟨(ev_base hN523 rfl q523_83), ⟨(ev_base hN523 rfl q523_84), ⟨(ev_base hN523 rfl q523_86), trivial⟩⟩⟩ (DelK (i := i) ok (one_kd ks (fun _ h => h)) (by omega) (by omega)) ?_
   rintro v524 w525 ⟨E526, hO524, hm524⟩
   have hm524 : v524.ownBlock = kv.ownBlock ∨ ∀ k, v524.ownBlock = some k → w523.heap.size ≤ k := .inl hm524
   have dj527 : Dj G0 (Bl v524) := Dj.step hm524 (fun k hk => (hr.lt k hk).2) djkG.symm
   have hin528 := inF_step (n := w.heap.size) hm524 (by omega) (fun k _ h => hNd.wk k h)
   have z_w525 := E526.size
   have hx := hx.keepO ok E526 (by decide)
   have oc := oc.keepT ok E526 (by decide)
   have ks : ∀ x9 ∈ K, Own w525 0 5 1 x9.1 x9.2.length (x9.2.map u8v) := fun x9 hx9 => (ks x9 hx9).keepT ok E526 (by decide)
   have hxb := hxb.keepO ok E526 (by decide)
   have ob := ob.keepT ok E526 (by decide)
   have kas : ∀ x9 ∈ (Da.map pk), Own w525 0 5 1 x9.1 x9.2.length (x9.2.map u8v) := fun x9 hx9 => (kas x9 hx9).keepT ok E526 (by decide)
   have kbs : ∀ x9 ∈ (Db.map pk), Own w525 0 5 1 x9.1 x9.2.length (x9.2.map u8v) := fun x9 hx9 => (kbs x9 hx9).keepT ok E526 (by decide)
   have hr := hr.keepG (Gr.of E526) djkG.symm (NoK.ofOwn ok (by decide))
   have hO505 := hO505.keepT ok E526 (by decide)
   have hxa := hxa.keepO ok E526 (by decide)
   have hb := hb.stepL E526 (fun k _ h => hNd.wk k h)
   have hO524 : Own w525 0 27 1 v524 (K.eraseIdx i).length ((K.eraseIdx i).flatMap cK) := hO524.cast (by rw [List.length_eraseIdx, if_pos (by omega)]) (flat_del cK_len _ _)
   refine kk_end rfl (by decide) rfl (fun _ => hx) ?_
   intro w529 E529 _ a529 hN529 hbs529 hdp529 o_ ho_; obtain rfl := Option.some.inj ho_
   have z_w529 := E529.size
   have hx := hx.keep0 E529
   have oc := oc.keep0 E529
   have ks : ∀ x9 ∈ K, Own w529 0 5 1 x9.1 x9.2.length (x9.2.map u8v) := fun x9 hx9 => (ks x9 hx9).keep0 E529
   have hxb := hxb.keep0 E529
   have ob := ob.keep0 E529
   have kas : ∀ x9 ∈ (Da.map pk), Own w529 0 5 1 x9.1 x9.2.length (x9.2.map u8v) := fun x9 hx9 => (kas x9 hx9).keep0 E529
   have kbs : ∀ x9 ∈ (Db.map pk), Own w529 0 5 1 x9.1 x9.2.length (x9.2.map u8v) := fun x9 hx9 => (kbs x9 hx9).keep0 E529
   have hr := hr.keepG (Gr.of0 E529 NoB) (fun _ _ h => h) (NoK.no _)
   have hO505 := hO505.keep0 E529
   have hxa := hxa.keep0 E529
   have hO524 := hO524.keep0 E529
   have hb := hb.step0 E529
   have q529_91 : Sl a529 91 cv := (hdp529 13 _ 91 (by kernel_rfl) rfl rfl).2 rfl
   have q529_93 : Sl a529 93 (Value.int .i64 ((i + 1 : Nat) : Int)) := (hdp529 15 _ 93 (by kernel_rfl) rfl rfl).2 rfl
   have q529_95 : Sl a529 95 (Value.int .i64 ((i + 1 + 1 : Nat) : Int)) := (hdp529 17 _ 95 (by kernel_rfl) rfl rfl).2 rfl
   refine op_fn (vs := [cv, (Value.int .i64 ((i + 1 : Nat) : Int)), (Value.int .i64 ((i + 1 + 1 : Nat) : Int))]) ok122 ⟨(ev_base hN529 rfl q529_91), ⟨(ev_base hN529 rfl q529_93), ⟨(ev_base hN529 rfl q529_95), trivial⟩⟩⟩ (DelN (i := (i + 1)) oc (one_pn _) (by omega) (by omega)) ?_
   rintro v530 w531 ⟨E532, hO530, hm530⟩
   have hm530 : v530.ownBlock = cv.ownBlock ∨ ∀ k, v530.ownBlock = some k → w529.heap.size ≤ k := .inl hm530
   have dj533 : Dj G0 (Bl v530) := Dj.step hm530 (fun k hk => (hr.lt k hk).2) djcG.symm
   have hin534 := inF_step (n := w.heap.size) hm530 (by omega) (fun k _ h => hNd.wc k h)
   have z_w531 := E532.size
   have hx := hx.keepO oc E532 (by decide)
   have ks : ∀ x9 ∈ K, Own w531 0 5 1 x9.1 x9.2.length (x9.2.map u8v) := fun x9 hx9 => (ks x9 hx9).keepT oc E532 (by decide)
   have hxb := hxb.keepO oc E532 (by decide)
   have ob := ob.keepT oc E532 (by decide)
   have kas : ∀ x9 ∈ (Da.map pk), Own w531 0 5 1 x9.1 x9.2.length (x9.2.map u8v) := fun x9 hx9 => (kas x9 hx9).keepT oc E532 (by decide)
   have kbs : ∀ x9 ∈ (Db.map pk), Own w531 0 5 1 x9.1 x9.2.length (x9.2.map u8v) := fun x9 hx9 => (kbs x9 hx9).keepT oc E532 (by decide)
   have hr := hr.keepG (Gr.of E532) djcG.symm (NoK.ofOwn oc (by decide))
   have hO505 := hO505.keepT oc E532 (by decide)
   have hxa := hxa.keepO oc E532 (by decide)
   have hO524 := hO524.keepT oc E532 (by decide)
   have hb := hb.stepL E532 (fun k _ h => hNd.wc k h)
   have hO530 : Own w531 0 69 1 v530 (P.eraseIdx (i + 1)).length ((P.eraseIdx (i + 1)).flatMap cN) := hO530.cast (by rw [List.length_eraseIdx, if_pos (by omega)]) (flat_del cN_len _ _)
   refine kk_end rfl (by decide) rfl (fun _ => hx) ?_
   intro w535 E535 _ a535 hN535 hbs535 hdp535 o_ ho_; obtain rfl := Option.some.inj ho_
   have z_w535 := E535.size
   have hx := hx.keep0 E535
   have ks : ∀ x9 ∈ K, Own w535 0 5 1 x9.1 x9.2.length (x9.2.map u8v) := fun x9 hx9 => (ks x9 hx9).keep0 E535
   have hxb := hxb.keep0 E535
   have ob := ob.keep0 E535
   have kas : ∀ x9 ∈ (Da.map pk), Own w535 0 5 1 x9.1 x9.2.length (x9.2.map u8v) := fun x9 hx9 => (kas x9 hx9).keep0 E535
   have kbs : ∀ x9 ∈ (Db.map pk), Own w535 0 5 1 x9.1 x9.2.length (x9.2.map u8v) := fun x9 hx9 => (kbs x9 hx9).keep0 E535
   have hr := hr.keepG (Gr.of0 E535 NoB) (fun _ _ h => h) (NoK.no _)
   have hO505 := hO505.keep0 E535
   have hxa := hxa.keep0 E535
   have hO524 := hO524.keep0 E535
   have hO530 := hO530.keep0 E535
   have hb := hb.step0 E535
   have q535_98 : Sl a535 98 (ptr p 1) := (hdp535 20 _ 98 (by kernel_rfl) rfl rfl).2 rfl
   have q535_87 : Sl a535 87 v524 := (Option.some.inj ((hdp535 9 _ 87 (by kernel_rfl) rfl rfl).1 0 rfl)).symm
   have hx_old := hx
   refine op_store (vs := [v524]) (cs' := [(Value.slice none 0 0), v524, cv]) size90 (ev_base hN535 rfl q535_98) (ev_base hN535 rfl q535_87) hO524.cl rfl (by simp only [List.all_cons, List.all_nil, Bool.true_and, Bool.and_true, hO524.one]; try rfl) hx (Nat.le_of_ble_eq_true rfl) rfl ?_
   intro w538 hx E539
   have z_w538 := E539.size
   have ks : ∀ x9 ∈ K, Own w538 0 5 1 x9.1 x9.2.length (x9.2.map u8v) := fun x9 hx9 => (ks x9 hx9).keepX hx_old E539 (by decide)
   have hxb := hxb.keep E539 (by simp only [ne_eq, Option.some.injEq]; omega)
   have ob := ob.keepX hx_old E539 (by decide)
   have kas : ∀ x9 ∈ (Da.map pk), Own w538 0 5 1 x9.1 x9.2.length (x9.2.map u8v) := fun x9 hx9 => (kas x9 hx9).keepX hx_old E539 (by decide)
   have kbs : ∀ x9 ∈ (Db.map pk), Own w538 0 5 1 x9.1 x9.2.length (x9.2.map u8v) := fun x9 hx9 => (kbs x9 hx9).keepX hx_old E539 (by decide)
   have hr := hr.keepG (Gr.of E539) (Dj.one djpG) (NoK.ofBx hx_old (by decide))
   have hO505 := hO505.keepX hx_old E539 (by decide)
   have hxa := hxa.keep E539 (by simp only [ne_eq, Option.some.injEq]; omega)
   have hO524 := hO524.keepX hx_old E539 (by decide)
   have hO530 := hO530.keepX hx_old E539 (by decide)
   have hb := hb.stepB E539 hNd.wp
   refine kk_end0 rfl (fun h => absurd h (by simp)) ?_
   intro w540 E540 a540 hN540 hd540 hbs540 hph540
   have hd540 := hd540.trans ((by simp only [putsL_defers] : _ = _).trans hd518)
   have z_w540 := E540.size
   have ks : ∀ x9 ∈ K, Own w540 0 5 1 x9.1 x9.2.length (x9.2.map u8v) := fun x9 hx9 => (ks x9 hx9).keep0 E540
   have hxb := hxb.keep0 E540
   have ob := ob.keep0 E540
   have kas : ∀ x9 ∈ (Da.map pk), Own w540 0 5 1 x9.1 x9.2.length (x9.2.map u8v) := fun x9 hx9 => (kas x9 hx9).keep0 E540
   have kbs : ∀ x9 ∈ (Db.map pk), Own w540 0 5 1 x9.1 x9.2.length (x9.2.map u8v) := fun x9 hx9 => (kbs x9 hx9).keep0 E540
   have hr := hr.keepG (Gr.of0 E540 NoB) (fun _ _ h => h) (NoK.no _)
   have hO505 := hO505.keep0 E540
   have hxa := hxa.keep0 E540
   have hO524 := hO524.keep0 E540
   have hO530 := hO530.keep0 E540
   have hx := hx.keep0 E540
   have hb := hb.step0 E540
   have s540_79 : Sl a540 79 (ptr p 0) := (hph540 1 _ 79 rfl rfl).2 rfl
   have s540_96 : Sl a540 96 v530 := (Option.some.inj ((hph540 18 _ 96 rfl rfl).1 1 rfl)).symm
   refine split_end ?_
   refine from_seq (tl := [_, _, _]) (by decide) (by kernel_rfl) rfl ?_
   refine op_nil (ev_base hN540 rfl s540_79) ?_
   refine op_field fld115_2 (ev_hit hN540 rfl) ?_
   have hx_old := hx
   refine op_store (vs := [v530]) (cs' := [(Value.slice none 0 0), v524, v530]) size113 (ev_hit hN540 rfl) (ev_base hN540 rfl s540_96) hO530.cl rfl (by simp only [List.all_cons, List.all_nil, Bool.true_and, Bool.and_true, hO530.one]; try rfl) hx (Nat.le_of_ble_eq_true rfl) rfl ?_
   intro w543 hx E544
   have z_w543 := E544.size
   have ks : ∀ x9 ∈ K, Own w543 0 5 1 x9.1 x9.2.length (x9.2.map u8v) := fun x9 hx9 => (ks x9 hx9).keepX hx_old E544 (by decide)
   have hxb := hxb.keep E544 (by simp only [ne_eq, Option.some.injEq]; omega)
   have ob := ob.keepX hx_old E544 (by decide)
   have kas : ∀ x9 ∈ (Da.map pk), Own w543 0 5 1 x9.1 x9.2.length (x9.2.map u8v) := fun x9 hx9 => (kas x9 hx9).keepX hx_old E544 (by decide)
   have kbs : ∀ x9 ∈ (Db.map pk), Own w543 0 5 1 x9.1 x9.2.length (x9.2.map u8v) := fun x9 hx9 => (kbs x9 hx9).keepX hx_old E544 (by decide)
   have hr := hr.keepG (Gr.of E544) (Dj.one djpG) (NoK.ofBx hx_old (by decide))
   have hO505 := hO505.keepX hx_old E544 (by decide)
   have hxa := hxa.keep E544 (by simp only [ne_eq, Option.some.injEq]; omega)
   have hO524 := hO524.keepX hx_old E544 (by decide)
   have hO530 := hO530.keepX hx_old E544 (by decide)
   have hb := hb.stepB E544 hNd.wp
   refine reg_nil ?_
   refine end_ret ?_
   refine ret0 rfl hd540  ⟨_, rfl, ?_⟩
   -- path
   have hTA := mkLeaf (κ := kI) (D := (Da ++ Db)) hxa (hO505.cast (n' := (Da ++ Db).length) (cs' := (Da ++ Db).flatMap cI) (by simp) (by simp)) (kr_app kas kbs) (kr_app hA.kr hB.kr) rfl
   have hT9 := mkNode (κ := kI) (K := (K.eraseIdx i)) hx hO524 hO530 (kks_sub ks (fun _ h => List.mem_of_mem_eraseIdx h)) (kks_sub hNd.kr (fun _ h => List.mem_of_mem_eraseIdx h)) (Kids.join2 hr hPc (by omega) hTA (fun j h1 h2 => (h1).elim (fun y0 => djpaG (y0 ▸ h2)) (fun z0 => dj509.symm _ z0 h2))) (fun h1 => (h1).elim (fun y0 => (y0).elim (fun y1 => hpa y1) (fun z1 => bx_own_ne hx hO505 (by decide) z1)) (fun z0 => djpG z0)) (fun j h1 h2 => (h2).elim (fun y20 => (y20).elim (fun y21 => bx_own_ne hxa hO524 (by decide) (y21 ▸ h1)) (fun z21 => own_own_dj hO524 hO505 (by decide) _ h1 z21)) (fun z20 => dj527.symm _ h1 z20)) (fun j h1 h2 => (h2).elim (fun y20 => (y20).elim (fun y21 => bx_own_ne hxa hO530 (by decide) (y21 ▸ h1)) (fun z21 => own_own_dj hO530 hO505 (by decide) _ h1 z21)) (fun z20 => dj533.symm _ h1 z20))
   rw [mends_join (ks := K.map Prod.snd) (cs := cs) (i := j) (by rw [← hij]; exact hl), ← hij, join_L ha hb9]
   exact ⟨hb, rfl, _, hT9, (newF_in (fun j hj h1 => (h1).elim (fun y0 => (y0 ▸ hNd.wp)) (fun z0 => (z0).elim (fun y1 => hin528 j hj y1) (fun z1 => (z1).elim (fun y2 => hin534 j hj y2) (fun z2 => (z2).elim (fun y3 => (y3).elim (fun y4 => (y4 ▸ (hNd.wg _ (hfs _ hA.wp)))) (fun z4 => (inF_step (n := w.heap.size) hm506 (by omega) (fun k _ h => hNd.wg k (hfs k (hA.wv k h)))) j hj z4)) (fun z3 => (fun j q => hNd.wg j (hGs j q)) j z3))))))⟩

end Go.Proofs.Ytcpfdfejojghbaa
