/- Walks, written by a program: what each function of the translation hands back. -/
import Derived.Test.YtcpfdfejojghbaaProg
import Derived.KernelRfl
import Derived.Test.YtcpfdfejojghbaaB6
namespace Go.Proofs.Ytcpfdfejojghbaa
open Go.Gx Go.RowKit
attribute [local irreducible] wpList wpStill Code.wp Calls
open Go.Bt
set_option maxHeartbeats 1000000 in
theorem mendJN {i j p : Nat} {R W G f g G0 : Nat → Prop} {kv cv : Value} {K : List DK} {P : List Nat} {w : World} (hNd : NodeR kI R w p kv cv K P G W) (hfg : Dj f g) (hfG : Dj f G0) (hgG : Dj g G0) (hfs : ∀ k, f k → G k) (hgs : ∀ k, g k → G k) (hGs : ∀ k, G0 k → G k) (hPl : P.length = K.length + 1) (hi : i < K.length) (hn : K.length ≤ 7) {h : Nat} {cs : List (Tr Int (h + 1))} {ta tb : List (Tr Int h)} {ka ca kb cb : Value} {Ka Kb : List DK} {Pa Pb : List Nat} {Ga Gb : Nat → Prop} (hA : NodeR kI R w (P.getD i default) ka ca Ka Pa Ga f) (hKa : KidsR kI R w h Pa ta Ga) (hB : NodeR kI R w (P.getD (i + 1) default) kb cb Kb Pb Gb g) (hKb : KidsR kI R w h Pb tb Gb) (hr : KidsR kI R w (h + 1) ((P.eraseIdx i).eraseIdx i) ((cs.eraseIdx i).eraseIdx i) G0) (hPc : P.length = cs.length) (ha : cs[i]? = some ((Ka.map Prod.snd, ta) : Tr Int (h + 1))) (hb9 : cs[i + 1]? = some ((Kb.map Prod.snd, tb) : Tr Int (h + 1))) (hla : ta.length = Ka.length + 1) (hlb : tb.length = Kb.length + 1) (hna : Ka.length ≤ 7) (hnb : Kb.length ≤ 7) (hKs0 : KidsR kI R w (h + 1) P cs G) (hlen : cs.length = K.length + 1) (hsh : ∀ c ∈ cs, Ok (h + 1) c ∧ szT (h + 1) c ≤ 7) (hij : i = j - 1) (hl : ¬ 3 < lender (h + 1) cs i (decide (j = 0))) : Ret Try.prog 88 #[(ptr p 0), (Value.int .i64 ((j : Nat) : Int))] w (fun v' w' => Gr w w' W ∧ v' = .tuple #[] ∧ ∃ W', TreeR kI R w' ((h + 1) + 1) p (mendsT (h + 1) ((K.map Prod.snd, cs) : Tr Int (h + 1 + 1)) j) W' ∧ NewF w.heap.size W W') := by
 have h0 : 0 ≤ w.heap.size := Nat.zero_le _
 have hx : Bx w p 115 [.slice none 0 0, kv, cv] := hNd.bx
 have ok := hNd.ok
 have oc : Own w 0 69 1 cv P.length (P.flatMap cN) := hNd.oc
 have ks := hNd.ks
 have hi_p := hx.lt
 have djkG : Dj (Bl kv) G0 := hNd.nk.mono hGs
 have djcG : Dj (Bl cv) G0 := hNd.nc.mono hGs
 have djpG : ¬ G0 p := fun q => hNd.np (hGs p q)
 have hxa : Bx w (P.getD i default) 115 [.slice none 0 0, ka, ca] := hA.bx
 have oka := hA.ok
 have oca : Own w 0 69 1 ca Pa.length (Pa.flatMap cN) := hA.oc
 have kas := hA.ks
 have hxb : Bx w (P.getD (i + 1) default) 115 [.slice none 0 0, kb, cb] := hB.bx
 have okb := hB.ok
 have ocb : Own w 0 69 1 cb Pb.length (Pb.flatMap cN) := hB.oc
 have kbs := hB.ks
 have hi_a := hxa.lt
 have hi_b := hxb.lt
 have hPa : Pa.length = ta.length := hKa.len
 have hPb : Pb.length = tb.length := hKb.len
 have hab : (P.getD i default) ≠ (P.getD (i + 1) default) := fun e => hfg _ hA.wp (e ▸ hB.wp)
 have hpa : p ≠ (P.getD i default) := fun e => hNd.np (e ▸ hfs _ hA.wp)
 have hpb : p ≠ (P.getD (i + 1) default) := fun e => hNd.np (e ▸ hgs _ hB.wp)
 have dk3 : DJ kv ka := fun k h1 h2 => hNd.nk k h1 (hfs k (hA.wk k h2))
 have dk4 : DJ kv kb := fun k h1 h2 => hNd.nk k h1 (hgs k (hB.wk k h2))
 have dk5 : DJ cv ca := fun k h1 h2 => hNd.nc k h1 (hfs k (hA.wc k h2))
 have dk6 : DJ cv cb := fun k h1 h2 => hNd.nc k h1 (hgs k (hB.wc k h2))
 have dk7 : DJ ka kb := fun k h1 h2 => hfg k (hA.wk k h1) (hB.wk k h2)
 have dk8 : DJ ca cb := fun k h1 h2 => hfg k (hA.wc k h1) (hB.wc k h2)
 have dk9 : Dj (Bl ka) G0 := fun k h1 h2 => hfG k (hA.wk k h1) h2
 have dk10 : Dj (Bl ca) G0 := fun k h1 h2 => hfG k (hA.wc k h1) h2
 have dk11 : Dj (Bl kb) G0 := fun k h1 h2 => hgG k (hB.wk k h1) h2
 have dk12 : Dj (Bl cb) G0 := fun k h1 h2 => hgG k (hB.wc k h1) h2
 have dk13 : ¬ G0 (P.getD i default) := hfG _ hA.wp
 have dk14 : ¬ G0 (P.getD (i + 1) default) := hgG _ hB.wp
 have dk15 : Dj (Bl kv) Ga := hNd.nk.mono fun k q => hfs k (hA.wg k ((fun _ q => q) k q))
 have dk16 : Dj (Bl cv) Ga := hNd.nc.mono fun k q => hfs k (hA.wg k ((fun _ q => q) k q))
 have dk17 : ¬ Ga p := fun q => hNd.np (hfs _ (hA.wg _ ((fun _ q => q) _ q)))
 have dk18 : Dj (Bl ka) Ga := hA.nk.mono (fun _ q => q)
 have dk19 : Dj (Bl ca) Ga := hA.nc.mono (fun _ q => q)
 have dk20 : Dj (Bl kb) Ga := fun k h1 h2 => hfg k (hA.wg k ((fun _ q => q) k h2)) (hB.wk k h1)
 have dk21 : Dj (Bl cb) Ga := fun k h1 h2 => hfg k (hA.wg k ((fun _ q => q) k h2)) (hB.wc k h1)
 have dk22 : ¬ Ga (P.getD i default) := fun q => hA.np ((fun _ q => q) _ q)
 have dk23 : ¬ Ga (P.getD (i + 1) default) := fun q => hfg _ (hA.wg _ ((fun _ q => q) _ q)) hB.wp
 have dk24 : Dj Ga G0 := fun k h1 h2 => hfG k (hA.wg k ((fun _ q => q) k h1)) h2
 have dk25 : Dj (Bl kv) Gb := hNd.nk.mono fun k q => hgs k (hB.wg k ((fun _ q => q) k q))
 have dk26 : Dj (Bl cv) Gb := hNd.nc.mono fun k q => hgs k (hB.wg k ((fun _ q => q) k q))
 have dk27 : ¬ Gb p := fun q => hNd.np (hgs _ (hB.wg _ ((fun _ q => q) _ q)))
 have dk28 : Dj (Bl ka) Gb := fun k h1 h2 => hfg k (hA.wk k h1) (hB.wg k ((fun _ q => q) k h2))
 have dk29 : Dj (Bl ca) Gb := fun k h1 h2 => hfg k (hA.wc k h1) (hB.wg k ((fun _ q => q) k h2))
 have dk30 : Dj (Bl kb) Gb := hB.nk.mono (fun _ q => q)
 have dk31 : Dj (Bl cb) Gb := hB.nc.mono (fun _ q => q)
 have dk32 : ¬ Gb (P.getD i default) := fun q => hfg _ hA.wp (hB.wg _ ((fun _ q => q) _ q))
 have dk33 : ¬ Gb (P.getD (i + 1) default) := fun q => hB.np ((fun _ q => q) _ q)
 have dk34 : Dj Gb G0 := fun k h1 h2 => hgG k (hB.wg k ((fun _ q => q) k h1)) h2
 have dk35 : Dj Ga Gb := fun k h1 h2 => hfg k (hA.wg k ((fun _ q => q) k h1)) (hB.wg k ((fun _ q => q) k h2))
 have hNd0 := hNd
 have hb := Gr.refl w W
 refine enter (N := 101) Try.func88 rfl rfl (by simp) fun a0 hN hd hA => ?_
 have s0 : a0.tmps.getD 0 undef = (ptr p 0) := hA 0 (by simp)
 have s1 : a0.tmps.getD 1 undef = (Value.int .i64 ((j : Nat) : Int)) := hA 1 (by simp)
 clear hA
 refine seq_any fun K545 hK545 => ?_
 refine one_reg ?_
 refine op_move (ev_base hN rfl s1) ?_
 refine op_sub (r := ((j : Int) - 1)) (ev_hit hN rfl) rfl ((sub64 (by omega)).trans (by omega)) ?_
 refine op_max (r := ((i : Nat) : Int)) (ev_hit hN rfl) rfl (by split <;> omega) ?_
 refine op_assign (ev_hit hN rfl) ?_
 refine reg_nil ?_
 refine hK545 _ _ ?_
 refine seq_any fun K546 hK546 => ?_
 refine seq_any fun K547 hK547 => ?_
 refine one_reg ?_
 refine op_move (ev_base hN rfl s0) ?_
 refine op_move (ev_hit hN rfl) ?_
 refine op_move (ev_base hN rfl s1) ?_
 refine op_cmp (b := (decide (((j : Nat) : Int) = 0))) (ev_hit hN rfl) rfl (b_eql rfl) ?_
 refine op_fn (vs := [(ptr p 0), (Value.int .i64 ((i : Nat) : Int)), (Value.bool (decide (((j : Nat) : Int) = 0)))]) ok120 ⟨(ev_hit hN rfl), ⟨(ev_hit hN rfl), ⟨(ev_hit hN rfl), trivial⟩⟩⟩ (lendsF (left := (decide (((j : Nat) : Int) = 0))) hNd0 hKs0 hlen hsh hi hn (by have q := hl; rw [show decide (j = 0) = (decide (((j : Nat) : Int) = 0)) from decide_eq_decide.2 (by omega)] at q; exact q)) ?_
 rintro _ w548 ⟨E549, rfl⟩
 have E549 := grown_of_below E549
 have z_w548 := E549.size
 have hx := hx.keep0 E549
 have ok := ok.keep0 E549
 have oc := oc.keep0 E549
 have ks : ∀ x9 ∈ K, Own w548 0 5 1 x9.1 x9.2.length (x9.2.map u8v) := fun x9 hx9 => (ks x9 hx9).keep0 E549
 have hxa := hxa.keep0 E549
 have hxb := hxb.keep0 E549
 have oka := oka.keep0 E549
 have okb := okb.keep0 E549
 have oca := oca.keep0 E549
 have ocb := ocb.keep0 E549
 have kas : ∀ x9 ∈ Ka, Own w548 0 5 1 x9.1 x9.2.length (x9.2.map u8v) := fun x9 hx9 => (kas x9 hx9).keep0 E549
 have kbs : ∀ x9 ∈ Kb, Own w548 0 5 1 x9.1 x9.2.length (x9.2.map u8v) := fun x9 hx9 => (kbs x9 hx9).keep0 E549
 have hr := hr.keepG (Gr.of0 E549 NoB) (fun _ _ h => h) (NoK.no _)
 have hKa := hKa.keepG (Gr.of0 E549 NoB) (fun _ _ h => h) (NoK.no _)
 have hKb := hKb.keepG (Gr.of0 E549 NoB) (fun _ _ h => h) (NoK.no _)
 have hb := hb.step0 E549
 refine reg_nil ?_
 refine hK547 _ _ ?_
 refine wp_cond_false (ev_hit hN rfl) ?_
 refine wp_skip ?_
 refine hK546 _ _ ?_
 refine seq_any fun K550 hK550 => ?_
 refine reg_still mixed (by kernel_rfl) ?_
 intro w552 E551
 have z_w552 := E551.size
 have hx := hx.keep0 E551
 have ok := ok.keep0 E551
 have oc := oc.keep0 E551
 have ks : ∀ x9 ∈ K, Own w552 0 5 1 x9.1 x9.2.length (x9.2.map u8v) := fun x9 hx9 => (ks x9 hx9).keep0 E551
 have hxa := hxa.keep0 E551
 have hxb := hxb.keep0 E551
 have oka := oka.keep0 E551
 have okb := okb.keep0 E551
 have oca := oca.keep0 E551
 have ocb := ocb.keep0 E551
 have kas : ∀ x9 ∈ Ka, Own w552 0 5 1 x9.1 x9.2.length (x9.2.map u8v) := fun x9 hx9 => (kas x9 hx9).keep0 E551
 have kbs : ∀ x9 ∈ Kb, Own w552 0 5 1 x9.1 x9.2.length (x9.2.map u8v) := fun x9 hx9 => (kbs x9 hx9).keep0 E551
 have hr := hr.keepG (Gr.of0 E551 NoB) (fun _ _ h => h) (NoK.no _)
 have hKa := hKa.keepG (Gr.of0 E551 NoB) (fun _ _ h => h) (NoK.no _)
 have hKb := hKb.keepG (Gr.of0 E551 NoB) (fun _ _ h => h) (NoK.no _)
 have hb := hb.step0 E551
 refine st_step rfl (fun _ h9 => op_move (ev_base hN rfl s0) h9) ?_
 refine st_step rfl (fun _ h9 => op_nil (ev_hit hN rfl) h9) ?_
 refine st_step rfl (fun _ h9 => op_field fld115_2 (ev_hit hN rfl) h9) ?_
 refine st_step rfl (fun _ h9 => op_load1 (v := cv) one113 (ev_hit hN rfl) (hx.cell rfl) h9) ?_
 refine st_step rfl (fun _ h9 => op_move (ev_hit hN rfl) h9) ?_
 refine st_index_rd slt113 (ev_hit hN rfl) oc.rdw (ev_hit hN rfl) (by omega) (by omega) ?_
 intro b553 o554 h0b553 h1b553 hc555
 refine st_step rfl (fun _ h9 => op_load1 (v := (ptr (P.getD i default) 0)) one69 (ev_hit hN rfl) (by have := hc555 0 (ptr (P.getD i default) 0) (by decide) (el_pn (i := i) (by omega) (by first | omega | (simp only [List.length_drop, List.length_take]; omega))); simpa using this) h9) ?_
 refine st_step rfl (fun _ h9 => op_move (ev_base hN rfl s0) h9) ?_
 refine st_step rfl (fun _ h9 => op_nil (ev_hit hN rfl) h9) ?_
 refine st_step rfl (fun _ h9 => op_field fld115_2 (ev_hit hN rfl) h9) ?_
 refine st_step rfl (fun _ h9 => op_load1 (v := cv) one113 (ev_hit hN rfl) (hx.cell rfl) h9) ?_
 refine st_step rfl (fun _ h9 => op_move (ev_hit hN rfl) h9) ?_
 refine st_step rfl (fun _ h9 => op_add (ev_hit hN rfl) rfl (add64 (by omega)) h9) ?_
 refine st_index_rd slt113 (ev_hit hN rfl) oc.rdw (ev_hit hN rfl) (by omega) (by omega) ?_
 intro b556 o557 h0b556 h1b556 hc558
 refine st_step rfl (fun _ h9 => op_load1 (v := (ptr (P.getD (i + 1) default) 0)) one69 (ev_hit hN rfl) (by have := hc558 0 (ptr (P.getD (i + 1) default) 0) (by decide) (el_pn (i := (i + 1)) (by omega) (by first | omega | (simp only [List.length_drop, List.length_take]; omega))); simpa using this) h9) ?_
 refine st_step rfl (fun _ h9 => op_assign (ev_hit hN rfl) h9) ?_
 refine st_step rfl (fun _ h9 => op_assign (ev_hit hN rfl) h9) ?_
 refine st_nil ?_
 refine hK550 _ _ ?_
 refine seq_any fun K559 hK559 => ?_
 refine seq_any fun K560 hK560 => ?_
 refine one_reg ?_
 refine op_move (ev_hit hN rfl) ?_
 refine op_fn (vs := [(ptr (P.getD i default) 0)]) ok81 ⟨(ev_hit hN rfl), trivial⟩ (Ret.flip (leafNI hxa oka oca (by omega) (by omega))) ?_
 rintro _ _ ⟨rfl, rfl⟩
 refine op_not (ev_hit hN rfl) ?_
 refine reg_nil ?_
 refine hK560 _ _ ?_
 refine wp_cond_true (ev_hit hN rfl) ?_
 obtain ⟨b561, o562, _, hAt563⟩ := ok.atV (i := i) (by omega)
 refine reg_split (hd := [_, _, _, _, _, _, _, _, _, _, _, _, _, _, _, _, _, _, _]) (tl := _) 19 mixed (by kernel_rfl) rfl rfl ?_
 refine any_env (φ := phiV [(fun uz => uz = (ptr (P.getD i default) 0)), (fun uz => uz = (ptr (P.getD i default) 0)), (fun uz => uz = (ptr (P.getD i default) 0)), (fun uz => uz = (ptr (P.getD i default) 1)), (fun uz => uz = ka), (fun uz => uz = (ptr p 0)), (fun uz => uz = (ptr p 0)), (fun uz => uz = (ptr p 1)), (fun uz => uz = kv), (fun uz => uz = (Value.int .i64 ((i : Nat) : Int))), (fun uz => uz = (ptr b561 o562)), (fun uz => uz = (K.getD i default).1), (fun _ => True), (fun _ => True), (fun uz => uz = (ptr (P.getD (i + 1) default) 0)), (fun uz => uz = (ptr (P.getD (i + 1) default) 0)), (fun uz => uz = (ptr (P.getD (i + 1) default) 1)), (fun uz => uz = kb), (fun _ => True)]) (G := fun w' => Own w' 0 27 1 kv K.length (K.flatMap cK) ∧ Bx w' (P.getD i default) 115 [(Value.slice none 0 0), ka, ca] ∧ Bx w' p 115 [(Value.slice none 0 0), kv, cv] ∧ Bx w' (P.getD (i + 1) default) 115 [(Value.slice none 0 0), kb, cb]) [12, 13, 18] (by kernel_rfl) (by kernel_rfl) (by kernel_rfl) (by kernel_rfl) hN (fun w1 w2 E h => by obtain ⟨h0, h1, h2, h3⟩ := h; exact ⟨h0.keep0 E, h1.keep0 E, h2.keep0 E, h3.keep0 E⟩) ⟨ok, hxa, hx, hxb⟩ (ObEs.cons ?_ (ObEs.cons ?_ (ObEs.cons ?_ (ObEs.cons ?_ (ObEs.cons ?_ (ObEs.cons ?_ (ObEs.cons ?_ (ObEs.cons ?_ (ObEs.cons ?_ (ObEs.cons ?_ (ObEs.cons ?_ (ObEs.cons ?_ (ObEs.pass rfl (ObEs.pass rfl (ObEs.cons ?_ (ObEs.cons ?_ (ObEs.cons ?_ (ObEs.cons ?_ (ObEs.pass rfl (ObEs.nil)))))))))))))))))))) (by simp only [putsL_defers]) ?_
 ·
  intro eA aA wA hNA hGA hbsA hdpA
  have qA_5 := (hbsA 5 rfl).trans (sl_hit hN rfl)
  refine op_move (ev_base hNA rfl qA_5) ?_
  exact obE_end rfl rfl rfl
 ·
  intro eA aA wA hNA hGA hbsA hdpA
  have qA_5 := (hbsA 5 rfl).trans (sl_hit hN rfl)
  refine op_move (ev_base hNA rfl qA_5) ?_
  exact obE_end rfl rfl rfl
 ·
  intro eA aA wA hNA hGA hbsA hdpA
  have qA_34 : Sl aA 34 (ptr (P.getD i default) 0) := (hdpA 1 _ 34 (by kernel_rfl) rfl rfl).2 rfl
  refine op_nil (ev_base hNA rfl qA_34) ?_
  exact obE_end rfl rfl rfl
 ·
  intro eA aA wA hNA hGA hbsA hdpA
  have qA_35 : Sl aA 35 (ptr (P.getD i default) 0) := (hdpA 2 _ 35 (by kernel_rfl) rfl rfl).2 rfl
  refine op_field fld115_1 (ev_base hNA rfl qA_35) ?_
  exact obE_end rfl rfl rfl
 ·
  intro eA aA wA hNA hGA hbsA hdpA
  have qA_36 : Sl aA 36 (ptr (P.getD i default) 1) := (hdpA 3 _ 36 (by kernel_rfl) rfl rfl).2 rfl
  obtain ⟨ok, hxa, hx, hxb⟩ := hGA
  refine op_load1 (v := ka) one90 (ev_base hNA rfl qA_36) (hxa.cell rfl) ?_
  exact obE_end rfl rfl rfl
 ·
  intro eA aA wA hNA hGA hbsA hdpA
  have qA_0 := (hbsA 0 rfl).trans (sl_base hN rfl s0)
  refine op_move (ev_base hNA rfl qA_0) ?_
  exact obE_end rfl rfl rfl
 ·
  intro eA aA wA hNA hGA hbsA hdpA
  have qA_38 : Sl aA 38 (ptr p 0) := (hdpA 5 _ 38 (by kernel_rfl) rfl rfl).2 rfl
  refine op_nil (ev_base hNA rfl qA_38) ?_
  exact obE_end rfl rfl rfl
 ·
  intro eA aA wA hNA hGA hbsA hdpA
  have qA_39 : Sl aA 39 (ptr p 0) := (hdpA 6 _ 39 (by kernel_rfl) rfl rfl).2 rfl
  refine op_field fld115_1 (ev_base hNA rfl qA_39) ?_
  exact obE_end rfl rfl rfl
 ·
  intro eA aA wA hNA hGA hbsA hdpA
  have qA_40 : Sl aA 40 (ptr p 1) := (hdpA 7 _ 40 (by kernel_rfl) rfl rfl).2 rfl
  obtain ⟨ok, hxa, hx, hxb⟩ := hGA
  refine op_load1 (v := kv) one90 (ev_base hNA rfl qA_40) (hx.cell rfl) ?_
  exact obE_end rfl rfl rfl
 ·
  intro eA aA wA hNA hGA hbsA hdpA
  have qA_4 := (hbsA 4 rfl).trans (sl_hit hN rfl)
  refine op_move (ev_base hNA rfl qA_4) ?_
  exact obE_end rfl rfl rfl
 ·
  intro eA aA wA hNA hGA hbsA hdpA
  have qA_41 : Sl aA 41 kv := (hdpA 8 _ 41 (by kernel_rfl) rfl rfl).2 rfl
  have qA_42 : Sl aA 42 (Value.int .i64 ((i : Nat) : Int)) := (hdpA 9 _ 42 (by kernel_rfl) rfl rfl).2 rfl
  refine op_index_at (i := i) slt90 (ev_base hNA rfl qA_41) ok (ev_base hNA rfl qA_42) (by omega) (by omega) hAt563 ?_
  exact obE_end rfl rfl rfl
 ·
  intro eA aA wA hNA hGA hbsA hdpA
  have qA_43 : Sl aA 43 (ptr b561 o562) := (hdpA 10 _ 43 (by kernel_rfl) rfl rfl).2 rfl
  obtain ⟨ok, hxa, hx, hxb⟩ := hGA
  refine op_load1 (v := (K.getD i default).1) one27 (ev_base hNA rfl qA_43) (ok.cellAt hAt563 0 _ (el_kd (e := ((i : Nat) : Int)) (i := i) rfl (by omega))) ?_
  exact obE_end rfl rfl rfl
 ·
  intro eA aA wA hNA hGA hbsA hdpA
  have qA_6 := (hbsA 6 rfl).trans (sl_hit hN rfl)
  refine op_move (ev_base hNA rfl qA_6) ?_
  exact obE_end rfl rfl rfl
 ·
  intro eA aA wA hNA hGA hbsA hdpA
  have qA_47 : Sl aA 47 (ptr (P.getD (i + 1) default) 0) := (hdpA 14 _ 47 (by kernel_rfl) rfl rfl).2 rfl
  refine op_nil (ev_base hNA rfl qA_47) ?_
  exact obE_end rfl rfl rfl
 ·
  intro eA aA wA hNA hGA hbsA hdpA
  have qA_48 : Sl aA 48 (ptr (P.getD (i + 1) default) 0) := (hdpA 15 _ 48 (by kernel_rfl) rfl rfl).2 rfl
  refine op_field fld115_1 (ev_base hNA rfl qA_48) ?_
  exact obE_end rfl rfl rfl
 ·
  intro eA aA wA hNA hGA hbsA hdpA
  have qA_49 : Sl aA 49 (ptr (P.getD (i + 1) default) 1) := (hdpA 16 _ 49 (by kernel_rfl) rfl rfl).2 rfl
  obtain ⟨ok, hxa, hx, hxb⟩ := hGA
  refine op_load1 (v := kb) one90 (ev_base hNA rfl qA_49) (hxb.cell rfl) ?_
  exact obE_end rfl rfl rfl
 ·
  intro w564 E564 _ a564 hN564 hbs564 hdp564 o_ ho_; obtain rfl := Option.some.inj ho_
  have z_w564 := E564.size
  have hx := hx.keep0 E564
  have ok := ok.keep0 E564
  have oc := oc.keep0 E564
  have ks : ∀ x9 ∈ K, Own w564 0 5 1 x9.1 x9.2.length (x9.2.map u8v) := fun x9 hx9 => (ks x9 hx9).keep0 E564
  have hxa := hxa.keep0 E564
  have hxb := hxb.keep0 E564
  have oka := oka.keep0 E564
  have okb := okb.keep0 E564
  have oca := oca.keep0 E564
  have ocb := ocb.keep0 E564
  have kas : ∀ x9 ∈ Ka, Own w564 0 5 1 x9.1 x9.2.length (x9.2.map u8v) := fun x9 hx9 => (kas x9 hx9).keep0 E564
  have kbs : ∀ x9 ∈ Kb, Own w564 0 5 1 x9.1 x9.2.length (x9.2.map u8v) := fun x9 hx9 => (kbs x9 hx9).keep0 E564
  have hr := hr.keepG (Gr.of0 E564 NoB) (fun _ _ h => h) (NoK.no _)
  have hKa := hKa.keepG (Gr.of0 E564 NoB) (fun _ _ h => h) (NoK.no _)
  have hKb := hKb.keepG (Gr.of0 E564 NoB) (fun _ _ h => h) (NoK.no _)
  have hb := hb.step0 E564
  have q564_44 : Sl a564 44 (K.getD i default).1 := (hdp564 11 _ 44 (by kernel_rfl) rfl rfl).2 rfl
  refine op_bslice (e := 27) (pv := [(0, (K.getD i default).1)]) (cs := [(K.getD i default).1]) ⟨rfl, (ev_base hN564 rfl q564_44), trivial⟩ (by obtain ⟨_, _, _, hq9⟩ := (show Own _ _ _ _ (K.getD i default).1 (K.getD i default).2.length ((K.getD i default).2.map u8v) from ks (K.getD i default) (getD_mem (by first | omega | (simp only [List.length_drop, List.length_take]; omega)))).sl; rw [hq9]; kernel_rfl) ?_
  intro w565 b566 lo_b566 hi_b566 hB568 E567
  have dj569 : ¬ G0 b566 := fun hf => by have := (hr.lt _ hf).2; omega
  have dj570 : ¬ Ga b566 := fun hf => by have := (hKa.lt _ hf).2; omega
  have dj571 : ¬ Gb b566 := fun hf => by have := (hKb.lt _ hf).2; omega
  have ne_b566_kv : kv.ownBlock ≠ some b566 := fun hh => by have := (ok.lt _ hh).2; omega
  have ne_b566_ka : ka.ownBlock ≠ some b566 := fun hh => by have := (oka.lt _ hh).2; omega
  have ne_b566_kb : kb.ownBlock ≠ some b566 := fun hh => by have := (okb.lt _ hh).2; omega
  have z_w565 := E567.size
  have hx := hx.keep0 E567
  have ok := ok.keep0 E567
  have oc := oc.keep0 E567
  have ks : ∀ x9 ∈ K, Own w565 0 5 1 x9.1 x9.2.length (x9.2.map u8v) := fun x9 hx9 => (ks x9 hx9).keep0 E567
  have hxa := hxa.keep0 E567
  have hxb := hxb.keep0 E567
  have oka := oka.keep0 E567
  have okb := okb.keep0 E567
  have oca := oca.keep0 E567
  have ocb := ocb.keep0 E567
  have kas : ∀ x9 ∈ Ka, Own w565 0 5 1 x9.1 x9.2.length (x9.2.map u8v) := fun x9 hx9 => (kas x9 hx9).keep0 E567
  have kbs : ∀ x9 ∈ Kb, Own w565 0 5 1 x9.1 x9.2.length (x9.2.map u8v) := fun x9 hx9 => (kbs x9 hx9).keep0 E567
  have hr := hr.keepG (Gr.of0 E567 NoB) (fun _ _ h => h) (NoK.no _)
  have hKa := hKa.keepG (Gr.of0 E567 NoB) (fun _ _ h => h) (NoK.no _)
  have hKb := hKb.keepG (Gr.of0 E567 NoB) (fun _ _ h => h) (NoK.no _)
  have hb := hb.step0 E567
  refine ke_end rfl (by decide) rfl ⟨ok, hxa, hx, hxb⟩ ?_
  intro w572 E572 _ a572 hN572 hbs572 hdp572 o_ ho_; obtain rfl := Option.some.inj ho_
  have z_w572 := E572.size
  have hx := hx.keep0 E572
  have ok := ok.keep0 E572
  have oc := oc.keep0 E572
  have ks : ∀ x9 ∈ K, Own w572 0 5 1 x9.1 x9.2.length (x9.2.map u8v) := fun x9 hx9 => (ks x9 hx9).keep0 E572
  have hxa := hxa.keep0 E572
  have hxb := hxb.keep0 E572
  have oka := oka.keep0 E572
  have okb := okb.keep0 E572
  have oca := oca.keep0 E572
  have ocb := ocb.keep0 E572
  have kas : ∀ x9 ∈ Ka, Own w572 0 5 1 x9.1 x9.2.length (x9.2.map u8v) := fun x9 hx9 => (kas x9 hx9).keep0 E572
  have kbs : ∀ x9 ∈ Kb, Own w572 0 5 1 x9.1 x9.2.length (x9.2.map u8v) := fun x9 hx9 => (kbs x9 hx9).keep0 E572
  have hr := hr.keepG (Gr.of0 E572 NoB) (fun _ _ h => h) (NoK.no _)
  have hKa := hKa.keepG (Gr.of0 E572 NoB) (fun _ _ h => h) (NoK.no _)
  have hKb := hKb.keepG (Gr.of0 E572 NoB) (fun _ _ h => h) (NoK.no _)
  have hB568 := hB568.keep0 E572
  have hb := hb.step0 E572
  have q572_37 : Sl a572 37 ka := (hdp572 4 _ 37 (by kernel_rfl) rfl rfl).2 rfl
  have q572_45 : Sl a572 45 (Value.slice (some ⟨b566, 0, none⟩) 1 1) := (Option.some.inj ((hdp572 12 _ 45 (by kernel_rfl) rfl rfl).1 0 rfl)).symm
  have hP578 := oka
  refine op_append slt90 (ev_base hN572 rfl q572_37) hP578 (ev_base hN572 rfl q572_45) (Src.ofRd Try.underlying90 (by decide) (RdC.ofBx (sz := 1) (n := 1) hB568 rfl (by decide)) (by simp only [List.all_cons, List.all_nil, Bool.true_and, Bool.and_true, (own_one (show Own _ _ _ _ (K.getD i default).1 (K.getD i default).2.length ((K.getD i default).2.map u8v) from ks (K.getD i default) (getD_mem (by first | omega | (simp only [List.length_drop, List.length_take]; omega)))))]; try rfl)) (by unfold maxLen; omega) (by omega) (Nat.le_trans (by assumption) hb.size) ?_
  intro v573 w574 hO576 E575 hm577
  have dj579 : DJ kv v573 := DJ.step hm577 (fun k hk => (ok.lt k hk).2) dk3
  have dj580 : DJ kb v573 := DJ.step hm577 (fun k hk => (okb.lt k hk).2) dk7.symm
  have dj581 : Dj G0 (Bl v573) := Dj.step hm577 (fun k hk => (hr.lt k hk).2) dk9.symm
  have dj582 : Dj Ga (Bl v573) := Dj.step hm577 (fun k hk => (hKa.lt k hk).2) dk18.symm
  have dj583 : Dj Gb (Bl v573) := Dj.step hm577 (fun k hk => (hKb.lt k hk).2) dk28.symm
  have z_w574 := E575.size
  have hx := hx.keepO hP578 E575 (by decide)
  have ok := ok.keepD E575 dk3
  have oc := oc.keepT hP578 E575 (by decide)
  have ks : ∀ x9 ∈ K, Own w574 0 5 1 x9.1 x9.2.length (x9.2.map u8v) := fun x9 hx9 => (ks x9 hx9).keepT hP578 E575 (by decide)
  have hxa := hxa.keepO hP578 E575 (by decide)
  have hxb := hxb.keepO hP578 E575 (by decide)
  have okb := okb.keepD E575 dk7.symm
  have oca := oca.keepT hP578 E575 (by decide)
  have ocb := ocb.keepT hP578 E575 (by decide)
  have kas : ∀ x9 ∈ Ka, Own w574 0 5 1 x9.1 x9.2.length (x9.2.map u8v) := fun x9 hx9 => (kas x9 hx9).keepT hP578 E575 (by decide)
  have kbs : ∀ x9 ∈ Kb, Own w574 0 5 1 x9.1 x9.2.length (x9.2.map u8v) := fun x9 hx9 => (kbs x9 hx9).keepT hP578 E575 (by decide)
  have hr := hr.keepG (Gr.of E575) dk9.symm (NoK.ofOwn hP578 (by decide))
  have hKa := hKa.keepG (Gr.of E575) dk18.symm (NoK.ofOwn hP578 (by decide))
  have hKb := hKb.keepG (Gr.of E575) dk28.symm (NoK.ofOwn hP578 (by decide))
  have hB568 := hB568.keep E575 (fun hh => ne_b566_ka hh.symm)
  have hb := hb.stepL E575 (fun k _ h => hNd.wg k (hfs k (hA.wk k h)))
  have hO576 : Own w574 0 27 1 v573 (Ka.length + 1) ((Ka.flatMap cK ++ [(K.getD i default).1])) := by simpa [u8v, sv] using hO576
  have ne_b566_v573 : v573.ownBlock ≠ some b566 := ne_step (w1 := w572) ⟨E575, hm577⟩ (by omega) ne_b566_ka
  refine ke_end rfl (by decide) rfl ⟨ok, hxa, hx, hxb⟩ ?_
  intro w584 E584 _ a584 hN584 hbs584 hdp584 o_ ho_; obtain rfl := Option.some.inj ho_
  have z_w584 := E584.size
  have hx := hx.keep0 E584
  have ok := ok.keep0 E584
  have oc := oc.keep0 E584
  have ks : ∀ x9 ∈ K, Own w584 0 5 1 x9.1 x9.2.length (x9.2.map u8v) := fun x9 hx9 => (ks x9 hx9).keep0 E584
  have hxa := hxa.keep0 E584
  have hxb := hxb.keep0 E584
  have okb := okb.keep0 E584
  have oca := oca.keep0 E584
  have ocb := ocb.keep0 E584
  have kas : ∀ x9 ∈ Ka, Own w584 0 5 1 x9.1 x9.2.length (x9.2.map u8v) := fun x9 hx9 => (kas x9 hx9).keep0 E584
  have kbs : ∀ x9 ∈ Kb, Own w584 0 5 1 x9.1 x9.2.length (x9.2.map u8v) := fun x9 hx9 => (kbs x9 hx9).keep0 E584
  have hr := hr.keepG (Gr.of0 E584 NoB) (fun _ _ h => h) (NoK.no _)
  have hKa := hKa.keepG (Gr.of0 E584 NoB) (fun _ _ h => h) (NoK.no _)
  have hKb := hKb.keepG (Gr.of0 E584 NoB) (fun _ _ h => h) (NoK.no _)
  have hB568 := hB568.keep0 E584
  have hO576 := hO576.keep0 E584
  have hb := hb.step0 E584
  have q584_46 : Sl a584 46 v573 := (Option.some.inj ((hdp584 13 _ 46 (by kernel_rfl) rfl rfl).1 1 rfl)).symm
  have q584_50 : Sl a584 50 kb := (hdp584 17 _ 50 (by kernel_rfl) rfl rfl).2 rfl
  have hP590 := hO576
  refine op_append slt90 (ev_base hN584 rfl q584_46) hP590 (ev_base hN584 rfl q584_50) (Src.ofRd Try.underlying90 (by decide) okb.rdw (one_kd kbs (fun _ h => h))) (by unfold maxLen; omega) (by omega) (Nat.le_trans (by assumption) hb.size) ?_
  intro v585 w586 hO588 E587 hm589
  have dj591 : DJ kv v585 := DJ.step hm589 (fun k hk => (ok.lt k hk).2) dj579
  have dj592 : DJ kb v585 := DJ.step hm589 (fun k hk => (okb.lt k hk).2) dj580
  have dj593 : Dj G0 (Bl v585) := Dj.step hm589 (fun k hk => (hr.lt k hk).2) dj581
  have dj594 : Dj Ga (Bl v585) := Dj.step hm589 (fun k hk => (hKa.lt k hk).2) dj582
  have dj595 : Dj Gb (Bl v585) := Dj.step hm589 (fun k hk => (hKb.lt k hk).2) dj583
  have z_w586 := E587.size
  have hx := hx.keepO hP590 E587 (by decide)
  have ok := ok.keepD E587 dj579
  have oc := oc.keepT hP590 E587 (by decide)
  have ks : ∀ x9 ∈ K, Own w586 0 5 1 x9.1 x9.2.length (x9.2.map u8v) := fun x9 hx9 => (ks x9 hx9).keepT hP590 E587 (by decide)
  have hxa := hxa.keepO hP590 E587 (by decide)
  have hxb := hxb.keepO hP590 E587 (by decide)
  have okb := okb.keepD E587 dj580
  have oca := oca.keepT hP590 E587 (by decide)
  have ocb := ocb.keepT hP590 E587 (by decide)
  have kas : ∀ x9 ∈ Ka, Own w586 0 5 1 x9.1 x9.2.length (x9.2.map u8v) := fun x9 hx9 => (kas x9 hx9).keepT hP590 E587 (by decide)
  have kbs : ∀ x9 ∈ Kb, Own w586 0 5 1 x9.1 x9.2.length (x9.2.map u8v) := fun x9 hx9 => (kbs x9 hx9).keepT hP590 E587 (by decide)
  have hr := hr.keepG (Gr.of E587) dj581 (NoK.ofOwn hP590 (by decide))
  have hKa := hKa.keepG (Gr.of E587) dj582 (NoK.ofOwn hP590 (by decide))
  have hKb := hKb.keepG (Gr.of E587) dj583 (NoK.ofOwn hP590 (by decide))
  have hB568 := hB568.keep E587 (fun hh => ne_b566_v573 hh.symm)
  have hb := hb.stepL E587 (inF_step (n := w.heap.size) hm577 (by omega) (fun k _ h => hNd.wg k (hfs k (hA.wk k h))))
  have hO588 : Own w586 0 27 1 v585 ((Ka.length + 1) + Kb.length) (((Ka.flatMap cK ++ [(K.getD i default).1]) ++ Kb.flatMap cK)) := by simpa [u8v, sv] using hO588
  have ne_b566_v585 : v585.ownBlock ≠ some b566 := ne_step (w1 := w584) ⟨E587, hm589⟩ (by omega) ne_b566_v573
  refine ke_end rfl (by decide) rfl ⟨ok, hxa, hx, hxb⟩ ?_
  intro w596 E596 a596 hN596 hd596 hbs596 hph596
  have hd596 := hd596.trans ((by simp only [putsL_defers] : _ = _).trans hd)
  have z_w596 := E596.size
  have hx := hx.keep0 E596
  have ok := ok.keep0 E596
  have oc := oc.keep0 E596
  have ks : ∀ x9 ∈ K, Own w596 0 5 1 x9.1 x9.2.length (x9.2.map u8v) := fun x9 hx9 => (ks x9 hx9).keep0 E596
  have hxa := hxa.keep0 E596
  have hxb := hxb.keep0 E596
  have okb := okb.keep0 E596
  have oca := oca.keep0 E596
  have ocb := ocb.keep0 E596
  have kas : ∀ x9 ∈ Ka, Own w596 0 5 1 x9.1 x9.2.length (x9.2.map u8v) := fun x9 hx9 => (kas x9 hx9).keep0 E596
  have kbs : ∀ x9 ∈ Kb, Own w596 0 5 1 x9.1 x9.2.length (x9.2.map u8v) := fun x9 hx9 => (kbs x9 hx9).keep0 E596
  have hr := hr.keepG (Gr.of0 E596 NoB) (fun _ _ h => h) (NoK.no _)
  have hKa := hKa.keepG (Gr.of0 E596 NoB) (fun _ _ h => h) (NoK.no _)
  have hKb := hKb.keepG (Gr.of0 E596 NoB) (fun _ _ h => h) (NoK.no _)
  have hB568 := hB568.keep0 E596
  have hO588 := hO588.keep0 E596
  have hb := hb.step0 E596
  have s596_0 := (hbs596 0 rfl).trans (sl_base hN rfl s0)
  have s596_4 := (hbs596 4 rfl).trans (sl_hit hN rfl)
  have s596_5 := (hbs596 5 rfl).trans (sl_hit hN rfl)
  have s596_6 := (hbs596 6 rfl).trans (sl_hit hN rfl)
  have s596_33 : Sl a596 33 (ptr (P.getD i default) 0) := (hph596 0 _ 33 rfl rfl).2 rfl
  have s596_51 : Sl a596 51 v585 := (Option.some.inj ((hph596 18 _ 51 rfl rfl).1 2 rfl)).symm
  refine split_end ?_
  refine from_seq (tl := [_, _, _]) (by decide) (by kernel_rfl) rfl ?_
  refine op_nil (ev_base hN596 rfl s596_33) ?_
  refine op_field fld115_1 (ev_hit hN596 rfl) ?_
  have hxa_old := hxa
  refine op_store (vs := [v585]) (cs' := [(Value.slice none 0 0), v585, ca]) size90 (ev_hit hN596 rfl) (ev_base hN596 rfl s596_51) hO588.cl rfl (by simp only [List.all_cons, List.all_nil, Bool.true_and, Bool.and_true, hO588.one]; try rfl) hxa (Nat.le_of_ble_eq_true rfl) rfl ?_
  intro w599 hxa E600
  have z_w599 := E600.size
  have hx := hx.keep E600 (by simp only [ne_eq, Option.some.injEq]; omega)
  have ok := ok.keepX hxa_old E600 (by decide)
  have oc := oc.keepX hxa_old E600 (by decide)
  have ks : ∀ x9 ∈ K, Own w599 0 5 1 x9.1 x9.2.length (x9.2.map u8v) := fun x9 hx9 => (ks x9 hx9).keepX hxa_old E600 (by decide)
  have hxb := hxb.keep E600 (by simp only [ne_eq, Option.some.injEq]; omega)
  have okb := okb.keepX hxa_old E600 (by decide)
  have oca := oca.keepX hxa_old E600 (by decide)
  have ocb := ocb.keepX hxa_old E600 (by decide)
  have kas : ∀ x9 ∈ Ka, Own w599 0 5 1 x9.1 x9.2.length (x9.2.map u8v) := fun x9 hx9 => (kas x9 hx9).keepX hxa_old E600 (by decide)
  have kbs : ∀ x9 ∈ Kb, Own w599 0 5 1 x9.1 x9.2.length (x9.2.map u8v) := fun x9 hx9 => (kbs x9 hx9).keepX hxa_old E600 (by decide)
  have hr := hr.keepG (Gr.of E600) (Dj.one dk13) (NoK.ofBx hxa_old (by decide))
  have hKa := hKa.keepG (Gr.of E600) (Dj.one dk22) (NoK.ofBx hxa_old (by decide))
  have hKb := hKb.keepG (Gr.of E600) (Dj.one dk32) (NoK.ofBx hxa_old (by decide))
  have hB568 := hB568.keep E600 (fun hh => hB568.ne hxa_old (by decide) (Option.some.inj hh))
  have hO588 := hO588.keepX hxa_old E600 (by decide)
  have hb := hb.stepB E600 (hNd.wg _ (hfs _ hA.wp))
  refine reg_nil ?_
  refine hK559 _ _ ?_
  refine seq_any fun K601 hK601 => ?_
  refine reg_split (hd := [_, _, _, _, _, _, _, _, _, _, _, _, _, _, _, _, _, _, _, _, _, _, _]) (tl := _) 23 mixed (by kernel_rfl) rfl rfl ?_
  refine any_envk (φ := phiV [(fun uz => uz = (ptr (P.getD i default) 0)), (fun uz => uz = (ptr (P.getD i default) 0)), (fun uz => uz = (ptr (P.getD i default) 0)), (fun uz => uz = (ptr (P.getD i default) 0)), (fun uz => uz = (ptr (P.getD i default) 0)), (fun uz => uz = (Value.slice none 0 0)), (fun uz => uz = (ptr (P.getD (i + 1) default) 0)), (fun uz => uz = (ptr (P.getD (i + 1) default) 0)), (fun uz => uz = (ptr (P.getD (i + 1) default) 0)), (fun uz => uz = (Value.slice none 0 0)), (fun _ => True), (fun uz => uz = (ptr (P.getD i default) 0)), (fun uz => uz = (ptr (P.getD i default) 0)), (fun uz => uz = (ptr (P.getD i default) 2)), (fun uz => uz = ca), (fun uz => uz = (ptr (P.getD (i + 1) default) 0)), (fun uz => uz = (ptr (P.getD (i + 1) default) 0)), (fun uz => uz = (ptr (P.getD (i + 1) default) 2)), (fun uz => uz = cb), (fun _ => True), (fun uz => uz = (ptr (P.getD i default) 0)), (fun uz => uz = (ptr (P.getD i default) 0)), (fun _ => True)]) (G := fun c9 w' => c9 ≤ 2 → (Bx w' (P.getD i default) 115 [(Value.slice none 0 0), v585, ca] ∧ Bx w' (P.getD (i + 1) default) 115 [(Value.slice none 0 0), kb, cb])) [10, 19, 22] (by kernel_rfl) (by kernel_rfl) (by kernel_rfl) (by kernel_rfl) hN596 (fun _ w1 w2 E h hc9 => by have h := h hc9; obtain ⟨h0, h1⟩ := h; exact ⟨h0.keep0 E, h1.keep0 E⟩) (fun _ => ⟨hxa, hxb⟩) (ObKs.cons ?_ (ObKs.cons ?_ (ObKs.cons ?_ (ObKs.cons ?_ (ObKs.cons ?_ (ObKs.cons ?_ (ObKs.cons ?_ (ObKs.cons ?_ (ObKs.cons ?_ (ObKs.cons ?_ (ObKs.pass rfl (ObKs.cons ?_ (ObKs.cons ?_ (ObKs.cons ?_ (ObKs.cons ?_ (ObKs.cons ?_ (ObKs.cons ?_ (ObKs.cons ?_ (ObKs.cons ?_ (ObKs.pass rfl (ObKs.cons ?_ (ObKs.cons ?_ (ObKs.pass rfl (ObKs.nil)))))))))))))))))))))))) (by simp only [putsL_defers]) ?_
  ·
   intro eA aA wA hNA hckA hGA hbsA hdpA
   have qA_5 := (hbsA 5 rfl).trans (sl_base hN596 rfl s596_5)
   refine op_move (ev_base hNA rfl qA_5) ?_
   exact obK_end rfl rfl rfl
  ·
   intro eA aA wA hNA hckA hGA hbsA hdpA
   have qA_5 := (hbsA 5 rfl).trans (sl_base hN596 rfl s596_5)
   refine op_move (ev_base hNA rfl qA_5) ?_
   exact obK_end rfl rfl rfl
  ·
   intro eA aA wA hNA hckA hGA hbsA hdpA
   have qA_5 := (hbsA 5 rfl).trans (sl_base hN596 rfl s596_5)
   refine op_move (ev_base hNA rfl qA_5) ?_
   exact obK_end rfl rfl rfl
  ·
   intro eA aA wA hNA hckA hGA hbsA hdpA
   have qA_56 : Sl aA 56 (ptr (P.getD i default) 0) := (hdpA 2 _ 56 (by kernel_rfl) rfl rfl).2 rfl
   refine op_nil (ev_base hNA rfl qA_56) ?_
   exact obK_end rfl rfl rfl
  ·
   intro eA aA wA hNA hckA hGA hbsA hdpA
   have qA_57 : Sl aA 57 (ptr (P.getD i default) 0) := (hdpA 3 _ 57 (by kernel_rfl) rfl rfl).2 rfl
   refine op_field fld115_0 (ev_base hNA rfl qA_57) ?_
   exact obK_end rfl rfl rfl
  ·
   intro eA aA wA hNA hckA hGA hbsA hdpA
   have qA_58 : Sl aA 58 (ptr (P.getD i default) 0) := (hdpA 4 _ 58 (by kernel_rfl) rfl rfl).2 rfl
   have hGA := hGA (hckA 2 22 rfl (by kernel_rfl))
   obtain ⟨hxa, hxb⟩ := hGA
   refine op_load1 (v := (Value.slice none 0 0)) one48 (ev_base hNA rfl qA_58) (hxa.cell rfl) ?_
   exact obK_end rfl rfl rfl
  ·
   intro eA aA wA hNA hckA hGA hbsA hdpA
   have qA_6 := (hbsA 6 rfl).trans (sl_base hN596 rfl s596_6)
   refine op_move (ev_base hNA rfl qA_6) ?_
   exact obK_end rfl rfl rfl
  ·
   intro eA aA wA hNA hckA hGA hbsA hdpA
   have qA_60 : Sl aA 60 (ptr (P.getD (i + 1) default) 0) := (hdpA 6 _ 60 (by kernel_rfl) rfl rfl).2 rfl
   refine op_nil (ev_base hNA rfl qA_60) ?_
   exact obK_end rfl rfl rfl
  ·
   intro eA aA wA hNA hckA hGA hbsA hdpA
   have qA_61 : Sl aA 61 (ptr (P.getD (i + 1) default) 0) := (hdpA 7 _ 61 (by kernel_rfl) rfl rfl).2 rfl
   refine op_field fld115_0 (ev_base hNA rfl qA_61) ?_
   exact obK_end rfl rfl rfl
  ·
   intro eA aA wA hNA hckA hGA hbsA hdpA
   have qA_62 : Sl aA 62 (ptr (P.getD (i + 1) default) 0) := (hdpA 8 _ 62 (by kernel_rfl) rfl rfl).2 rfl
   have hGA := hGA (hckA 2 22 rfl (by kernel_rfl))
   obtain ⟨hxa, hxb⟩ := hGA
   refine op_load1 (v := (Value.slice none 0 0)) one48 (ev_base hNA rfl qA_62) (hxb.cell rfl) ?_
   exact obK_end rfl rfl rfl
  ·
   intro eA aA wA hNA hckA hGA hbsA hdpA
   have qA_5 := (hbsA 5 rfl).trans (sl_base hN596 rfl s596_5)
   refine op_move (ev_base hNA rfl qA_5) ?_
   exact obK_end rfl rfl rfl
  ·
   intro eA aA wA hNA hckA hGA hbsA hdpA
   have qA_65 : Sl aA 65 (ptr (P.getD i default) 0) := (hdpA 11 _ 65 (by kernel_rfl) rfl rfl).2 rfl
   refine op_nil (ev_base hNA rfl qA_65) ?_
   exact obK_end rfl rfl rfl
  ·
   intro eA aA wA hNA hckA hGA hbsA hdpA
   have qA_66 : Sl aA 66 (ptr (P.getD i default) 0) := (hdpA 12 _ 66 (by kernel_rfl) rfl rfl).2 rfl
   refine op_field fld115_2 (ev_base hNA rfl qA_66) ?_
   exact obK_end rfl rfl rfl
  ·
   intro eA aA wA hNA hckA hGA hbsA hdpA
   have qA_67 : Sl aA 67 (ptr (P.getD i default) 2) := (hdpA 13 _ 67 (by kernel_rfl) rfl rfl).2 rfl
   have hGA := hGA (hckA 2 22 rfl (by kernel_rfl))
   obtain ⟨hxa, hxb⟩ := hGA
   refine op_load1 (v := ca) one113 (ev_base hNA rfl qA_67) (hxa.cell rfl) ?_
   exact obK_end rfl rfl rfl
  ·
   intro eA aA wA hNA hckA hGA hbsA hdpA
   have qA_6 := (hbsA 6 rfl).trans (sl_base hN596 rfl s596_6)
   refine op_move (ev_base hNA rfl qA_6) ?_
   exact obK_end rfl rfl rfl
  ·
   intro eA aA wA hNA hckA hGA hbsA hdpA
   have qA_69 : Sl aA 69 (ptr (P.getD (i + 1) default) 0) := (hdpA 15 _ 69 (by kernel_rfl) rfl rfl).2 rfl
   refine op_nil (ev_base hNA rfl qA_69) ?_
   exact obK_end rfl rfl rfl
  ·
   intro eA aA wA hNA hckA hGA hbsA hdpA
   have qA_70 : Sl aA 70 (ptr (P.getD (i + 1) default) 0) := (hdpA 16 _ 70 (by kernel_rfl) rfl rfl).2 rfl
   refine op_field fld115_2 (ev_base hNA rfl qA_70) ?_
   exact obK_end rfl rfl rfl
  ·
   intro eA aA wA hNA hckA hGA hbsA hdpA
   have qA_71 : Sl aA 71 (ptr (P.getD (i + 1) default) 2) := (hdpA 17 _ 71 (by kernel_rfl) rfl rfl).2 rfl
   have hGA := hGA (hckA 2 22 rfl (by kernel_rfl))
   obtain ⟨hxa, hxb⟩ := hGA
   refine op_load1 (v := cb) one113 (ev_base hNA rfl qA_71) (hxb.cell rfl) ?_
   exact obK_end rfl rfl rfl
  ·
   intro eA aA wA hNA hckA hGA hbsA hdpA
   have qA_54 : Sl aA 54 (ptr (P.getD i default) 0) := (hdpA 0 _ 54 (by kernel_rfl) rfl rfl).2 rfl
   refine op_nil (ev_base hNA rfl qA_54) ?_
   exact obK_end rfl rfl rfl
  ·
   intro eA aA wA hNA hckA hGA hbsA hdpA
   have qA_74 : Sl aA 74 (ptr (P.getD i default) 0) := (hdpA 20 _ 74 (by kernel_rfl) rfl rfl).2 rfl
   refine op_field fld115_0 (ev_base hNA rfl qA_74) ?_
   exact obK_end rfl rfl rfl
  ·
   intro w602 E602 _ a602 hN602 hbs602 hdp602 o_ ho_; obtain rfl := Option.some.inj ho_
   have z_w602 := E602.size
   have hx := hx.keep0 E602
   have ok := ok.keep0 E602
   have oc := oc.keep0 E602
   have ks : ∀ x9 ∈ K, Own w602 0 5 1 x9.1 x9.2.length (x9.2.map u8v) := fun x9 hx9 => (ks x9 hx9).keep0 E602
   have hxb := hxb.keep0 E602
   have okb := okb.keep0 E602
   have oca := oca.keep0 E602
   have ocb := ocb.keep0 E602
   have kas : ∀ x9 ∈ Ka, Own w602 0 5 1 x9.1 x9.2.length (x9.2.map u8v) := fun x9 hx9 => (kas x9 hx9).keep0 E602
   have kbs : ∀ x9 ∈ Kb, Own w602 0 5 1 x9.1 x9.2.length (x9.2.map u8v) := fun x9 hx9 => (kbs x9 hx9).keep0 E602
   have hr := hr.keepG (Gr.of0 E602 NoB) (fun _ _ h => h) (NoK.no _)
   have hKa := hKa.keepG (Gr.of0 E602 NoB) (fun _ _ h => h) (NoK.no _)
   have hKb := hKb.keepG (Gr.of0 E602 NoB) (fun _ _ h => h) (NoK.no _)
   have hB568 := hB568.keep0 E602
   have hO588 := hO588.keep0 E602
   have hxa := hxa.keep0 E602
   have hb := hb.step0 E602
   have q602_59 : Sl a602 59 (Value.slice none 0 0) := (hdp602 5 _ 59 (by kernel_rfl) rfl rfl).2 rfl
   have q602_63 : Sl a602 63 (Value.slice none 0 0) := (hdp602 9 _ 63 (by kernel_rfl) rfl rfl).2 rfl
   refine op_append_none slt48 Try.underlying48 (by decide) (ev_base hN602 rfl q602_59) (ev_base hN602 rfl q602_63) ?_
   intro w603 E604
   have z_w603 := E604.size
   have hx := hx.keep0 E604
   have ok := ok.keep0 E604
   have oc := oc.keep0 E604
   have ks : ∀ x9 ∈ K, Own w603 0 5 1 x9.1 x9.2.length (x9.2.map u8v) := fun x9 hx9 => (ks x9 hx9).keep0 E604
   have hxb := hxb.keep0 E604
   have okb := okb.keep0 E604
   have oca := oca.keep0 E604
   have ocb := ocb.keep0 E604
   have kas : ∀ x9 ∈ Ka, Own w603 0 5 1 x9.1 x9.2.length (x9.2.map u8v) := fun x9 hx9 => (kas x9 hx9).keep0 E604
   have kbs : ∀ x9 ∈ Kb, Own w603 0 5 1 x9.1 x9.2.length (x9.2.map u8v) := fun x9 hx9 => (kbs x9 hx9).keep0 E604
   have hr := hr.keepG (Gr.of0 E604 NoB) (fun _ _ h => h) (NoK.no _)
   have hKa := hKa.keepG (Gr.of0 E604 NoB) (fun _ _ h => h) (NoK.no _)
   have hKb := hKb.keepG (Gr.of0 E604 NoB) (fun _ _ h => h) (NoK.no _)
   have hB568 := hB568.keep0 E604
   have hO588 := hO588.keep0 E604
   have hxa := hxa.keep0 E604
   have hb := hb.step0 E604
   refine kk_end rfl (by decide) rfl (fun _ => ⟨hxa, hxb⟩) ?_
   intro w605 E605 _ a605 hN605 hbs605 hdp605 o_ ho_; obtain rfl := Option.some.inj ho_
   have z_w605 := E605.size
   have hx := hx.keep0 E605
   have ok := ok.keep0 E605
   have oc := oc.keep0 E605
   have ks : ∀ x9 ∈ K, Own w605 0 5 1 x9.1 x9.2.length (x9.2.map u8v) := fun x9 hx9 => (ks x9 hx9).keep0 E605
   have hxb := hxb.keep0 E605
   have okb := okb.keep0 E605
   have oca := oca.keep0 E605
   have ocb := ocb.keep0 E605
   have kas : ∀ x9 ∈ Ka, Own w605 0 5 1 x9.1 x9.2.length (x9.2.map u8v) := fun x9 hx9 => (kas x9 hx9).keep0 E605
   have kbs : ∀ x9 ∈ Kb, Own w605 0 5 1 x9.1 x9.2.length (x9.2.map u8v) := fun x9 hx9 => (kbs x9 hx9).keep0 E605
   have hr := hr.keepG (Gr.of0 E605 NoB) (fun _ _ h => h) (NoK.no _)
   have hKa := hKa.keepG (Gr.of0 E605 NoB) (fun _ _ h => h) (NoK.no _)
   have hKb := hKb.keepG (Gr.of0 E605 NoB) (fun _ _ h => h) (NoK.no _)
   have hB568 := hB568.keep0 E605
   have hO588 := hO588.keep0 E605
   have hxa := hxa.keep0 E605
   have hb := hb.step0 E605
   have q605_68 : Sl a605 68 ca := (hdp605 14 _ 68 (by kernel_rfl) rfl rfl).2 rfl
   have q605_72 : Sl a605 72 cb := (hdp605 18 _ 72 (by kernel_rfl) rfl rfl).2 rfl
   have hP611 := oca
   refine op_append slt113 (ev_base hN605 rfl q605_68) hP611 (ev_base hN605 rfl q605_72) (Src.ofRd Try.underlying113 (by decide) ocb.rdw (one_pn _)) (by unfold maxLen; omega) (by omega) (Nat.le_trans (by assumption) hb.size) ?_
   intro v606 w607 hO609 E608 hm610
   have dj612 : DJ cv v606 := DJ.step hm610 (fun k hk => (oc.lt k hk).2) dk5
   have dj613 : DJ cb v606 := DJ.step hm610 (fun k hk => (ocb.lt k hk).2) dk8.symm
   have dj614 : Dj G0 (Bl v606) := Dj.step hm610 (fun k hk => (hr.lt k hk).2) dk10.symm
   have dj615 : Dj Ga (Bl v606) := Dj.step hm610 (fun k hk => (hKa.lt k hk).2) dk19.symm
   have dj616 : Dj Gb (Bl v606) := Dj.step hm610 (fun k hk => (hKb.lt k hk).2) dk29.symm
   have z_w607 := E608.size
   have hx := hx.keepO hP611 E608 (by decide)
   have ok := ok.keepT hP611 E608 (by decide)
   have oc := oc.keepD E608 dk5
   have ks : ∀ x9 ∈ K, Own w607 0 5 1 x9.1 x9.2.length (x9.2.map u8v) := fun x9 hx9 => (ks x9 hx9).keepT hP611 E608 (by decide)
   have hxb := hxb.keepO hP611 E608 (by decide)
   have okb := okb.keepT hP611 E608 (by decide)
   have ocb := ocb.keepD E608 dk8.symm
   have kas : ∀ x9 ∈ Ka, Own w607 0 5 1 x9.1 x9.2.length (x9.2.map u8v) := fun x9 hx9 => (kas x9 hx9).keepT hP611 E608 (by decide)
   have kbs : ∀ x9 ∈ Kb, Own w607 0 5 1 x9.1 x9.2.length (x9.2.map u8v) := fun x9 hx9 => (kbs x9 hx9).keepT hP611 E608 (by decide)
   have hr := hr.keepG (Gr.of E608) dk10.symm (NoK.ofOwn hP611 (by decide))
   have hKa := hKa.keepG (Gr.of E608) dk19.symm (NoK.ofOwn hP611 (by decide))
   have hKb := hKb.keepG (Gr.of E608) dk29.symm (NoK.ofOwn hP611 (by decide))
   have hB568 := hB568.keepO hP611 E608 (by decide)
   have hO588 := hO588.keepT hP611 E608 (by decide)
   have hxa := hxa.keepO hP611 E608 (by decide)
   have hb := hb.stepL E608 (fun k _ h => hNd.wg k (hfs k (hA.wc k h)))
   have hO609 : Own w607 0 69 1 v606 (Pa.length + Pb.length) (((Pa ++ Pb)).flatMap cN) := by simpa [u8v, sv] using hO609
   refine kk_end rfl (by decide) rfl (fun _ => ⟨hxa, hxb⟩) ?_
   intro w617 E617 _ a617 hN617 hbs617 hdp617 o_ ho_; obtain rfl := Option.some.inj ho_
   have z_w617 := E617.size
   have hx := hx.keep0 E617
   have ok := ok.keep0 E617
   have oc := oc.keep0 E617
   have ks : ∀ x9 ∈ K, Own w617 0 5 1 x9.1 x9.2.length (x9.2.map u8v) := fun x9 hx9 => (ks x9 hx9).keep0 E617
   have hxb := hxb.keep0 E617
   have okb := okb.keep0 E617
   have ocb := ocb.keep0 E617
   have kas : ∀ x9 ∈ Ka, Own w617 0 5 1 x9.1 x9.2.length (x9.2.map u8v) := fun x9 hx9 => (kas x9 hx9).keep0 E617
   have kbs : ∀ x9 ∈ Kb, Own w617 0 5 1 x9.1 x9.2.length (x9.2.map u8v) := fun x9 hx9 => (kbs x9 hx9).keep0 E617
   have hr := hr.keepG (Gr.of0 E617 NoB) (fun _ _ h => h) (NoK.no _)
   have hKa := hKa.keepG (Gr.of0 E617 NoB) (fun _ _ h => h) (NoK.no _)
   have hKb := hKb.keepG (Gr.of0 E617 NoB) (fun _ _ h => h) (NoK.no _)
   have hB568 := hB568.keep0 E617
   have hO588 := hO588.keep0 E617
   have hxa := hxa.keep0 E617
   have hO609 := hO609.keep0 E617
   have hb := hb.step0 E617
   have q617_75 : Sl a617 75 (ptr (P.getD i default) 0) := (hdp617 21 _ 75 (by kernel_rfl) rfl rfl).2 rfl
   have q617_64 : Sl a617 64 (Value.slice none 0 0) := (Option.some.inj ((hdp617 10 _ 64 (by kernel_rfl) rfl rfl).1 0 rfl)).symm
   have hxa_old := hxa
   refine op_store (vs := [(Value.slice none 0 0)]) (cs' := [(Value.slice none 0 0), v585, ca]) size48 (ev_base hN617 rfl q617_75) (ev_base hN617 rfl q617_64) rfl rfl rfl hxa (Nat.le_of_ble_eq_true rfl) rfl ?_
   intro w620 hxa E621
   have z_w620 := E621.size
   have hx := hx.keep E621 (by simp only [ne_eq, Option.some.injEq]; omega)
   have ok := ok.keepX hxa_old E621 (by decide)
   have oc := oc.keepX hxa_old E621 (by decide)
   have ks : ∀ x9 ∈ K, Own w620 0 5 1 x9.1 x9.2.length (x9.2.map u8v) := fun x9 hx9 => (ks x9 hx9).keepX hxa_old E621 (by decide)
   have hxb := hxb.keep E621 (by simp only [ne_eq, Option.some.injEq]; omega)
   have okb := okb.keepX hxa_old E621 (by decide)
   have ocb := ocb.keepX hxa_old E621 (by decide)
   have kas : ∀ x9 ∈ Ka, Own w620 0 5 1 x9.1 x9.2.length (x9.2.map u8v) := fun x9 hx9 => (kas x9 hx9).keepX hxa_old E621 (by decide)
   have kbs : ∀ x9 ∈ Kb, Own w620 0 5 1 x9.1 x9.2.length (x9.2.map u8v) := fun x9 hx9 => (kbs x9 hx9).keepX hxa_old E621 (by decide)
   have hr := hr.keepG (Gr.of E621) (Dj.one dk13) (NoK.ofBx hxa_old (by decide))
   have hKa := hKa.keepG (Gr.of E621) (Dj.one dk22) (NoK.ofBx hxa_old (by decide))
   have hKb := hKb.keepG (Gr.of E621) (Dj.one dk32) (NoK.ofBx hxa_old (by decide))
   have hB568 := hB568.keep E621 (fun hh => hB568.ne hxa_old (by decide) (Option.some.inj hh))
   have hO588 := hO588.keepX hxa_old E621 (by decide)
   have hO609 := hO609.keepX hxa_old E621 (by decide)
   have hb := hb.stepB E621 (hNd.wg _ (hfs _ hA.wp))
   refine kk_end0 rfl (fun h => absurd h (by simp)) ?_
   intro w622 E622 a622 hN622 hd622 hbs622 hph622
   have hd622 := hd622.trans ((by simp only [putsL_defers] : _ = _).trans hd596)
   have z_w622 := E622.size
   have hx := hx.keep0 E622
   have ok := ok.keep0 E622
   have oc := oc.keep0 E622
   have ks : ∀ x9 ∈ K, Own w622 0 5 1 x9.1 x9.2.length (x9.2.map u8v) := fun x9 hx9 => (ks x9 hx9).keep0 E622
   have hxb := hxb.keep0 E622
   have okb := okb.keep0 E622
   have ocb := ocb.keep0 E622
   have kas : ∀ x9 ∈ Ka, Own w622 0 5 1 x9.1 x9.2.length (x9.2.map u8v) := fun x9 hx9 => (kas x9 hx9).keep0 E622
   have kbs : ∀ x9 ∈ Kb, Own w622 0 5 1 x9.1 x9.2.length (x9.2.map u8v) := fun x9 hx9 => (kbs x9 hx9).keep0 E622
   have hr := hr.keepG (Gr.of0 E622 NoB) (fun _ _ h => h) (NoK.no _)
   have hKa := hKa.keepG (Gr.of0 E622 NoB) (fun _ _ h => h) (NoK.no _)
   have hKb := hKb.keepG (Gr.of0 E622 NoB) (fun _ _ h => h) (NoK.no _)
   have hB568 := hB568.keep0 E622
   have hO588 := hO588.keep0 E622
   have hO609 := hO609.keep0 E622
   have hxa := hxa.keep0 E622
   have hb := hb.step0 E622
   have s622_0 := (hbs622 0 rfl).trans (sl_base hN596 rfl s596_0)
   have s622_4 := (hbs622 4 rfl).trans (sl_base hN596 rfl s596_4)
   have s622_55 : Sl a622 55 (ptr (P.getD i default) 0) := (hph622 1 _ 55 rfl rfl).2 rfl
   have s622_73 : Sl a622 73 v606 := (Option.some.inj ((hph622 19 _ 73 rfl rfl).1 1 rfl)).symm
   refine split_end ?_
   refine from_seq (tl := [_, _, _]) (by decide) (by kernel_rfl) rfl ?_
   refine op_nil (ev_base hN622 rfl s622_55) ?_
   refine op_field fld115_2 (ev_hit hN622 rfl) ?_
   have hxa_old := hxa
   refine op_store (vs := [v606]) (cs' := [(Value.slice none 0 0), v585, v606]) size113 (ev_hit hN622 rfl) (ev_base hN622 rfl s622_73) hO609.cl rfl (by simp only [List.all_cons, List.all_nil, Bool.true_and, Bool.and_true, hO609.one]; try rfl) hxa (Nat.le_of_ble_eq_true rfl) rfl ?_
   intro w625 hxa E626
   have z_w625 := E626.size
   have hx := hx.keep E626 (by simp only [ne_eq, Option.some.injEq]; omega)
   have ok := ok.keepX hxa_old E626 (by decide)
   have oc := oc.keepX hxa_old E626 (by decide)
   have ks : ∀ x9 ∈ K, Own w625 0 5 1 x9.1 x9.2.length (x9.2.map u8v) := fun x9 hx9 => (ks x9 hx9).keepX hxa_old E626 (by decide)
   have hxb := hxb.keep E626 (by simp only [ne_eq, Option.some.injEq]; omega)
   have okb := okb.keepX hxa_old E626 (by decide)
   have ocb := ocb.keepX hxa_old E626 (by decide)
   have kas : ∀ x9 ∈ Ka, Own w625 0 5 1 x9.1 x9.2.length (x9.2.map u8v) := fun x9 hx9 => (kas x9 hx9).keepX hxa_old E626 (by decide)
   have kbs : ∀ x9 ∈ Kb, Own w625 0 5 1 x9.1 x9.2.length (x9.2.map u8v) := fun x9 hx9 => (kbs x9 hx9).keepX hxa_old E626 (by decide)
   have hr := hr.keepG (Gr.of E626) (Dj.one dk13) (NoK.ofBx hxa_old (by decide))
   have hKa := hKa.keepG (Gr.of E626) (Dj.one dk22) (NoK.ofBx hxa_old (by decide))
   have hKb := hKb.keepG (Gr.of E626) (Dj.one dk32) (NoK.ofBx hxa_old (by decide))
   have hB568 := hB568.keep E626 (fun hh => hB568.ne hxa_old (by decide) (Option.some.inj hh))
   have hO588 := hO588.keepX hxa_old E626 (by decide)
   have hO609 := hO609.keepX hxa_old E626 (by decide)
   have hb := hb.stepB E626 (hNd.wg _ (hfs _ hA.wp))
   refine reg_nil ?_
   refine hK601 _ _ ?_
   refine reg_split (hd := [_, _, _, _, _, _, _, _, _, _, _, _, _, _, _, _, _, _, _, _, _, _]) (tl := _) 22 mixed (by kernel_rfl) rfl rfl ?_
   refine any_envk (φ := phiV [(fun uz => uz = (ptr p 0)), (fun uz => uz = (ptr p 0)), (fun uz => uz = (ptr p 0)), (fun uz => uz = (ptr p 0)), (fun uz => uz = (ptr p 1)), (fun uz => uz = kv), (fun uz => uz = (Value.int .i64 ((i : Nat) : Int))), (fun uz => uz = (Value.int .i64 ((i : Nat) : Int))), (fun uz => uz = (Value.int .i64 (((i : Nat) : Int) + 1))), (fun _ => True), (fun uz => uz = (ptr p 0)), (fun uz => uz = (ptr p 0)), (fun uz => uz = (ptr p 2)), (fun uz => uz = cv), (fun uz => uz = (Value.int .i64 ((i : Nat) : Int))), (fun uz => uz = (Value.int .i64 ((i + 1 : Nat) : Int))), (fun uz => uz = (Value.int .i64 ((i : Nat) : Int))), (fun uz => uz = (Value.int .i64 ((i + 1 + 1 : Nat) : Int))), (fun _ => True), (fun uz => uz = (ptr p 0)), (fun uz => uz = (ptr p 1)), (fun _ => True)]) (G := fun c9 w' => c9 ≤ 2 → (Bx w' p 115 [(Value.slice none 0 0), kv, cv])) [9, 18, 21] (by kernel_rfl) (by kernel_rfl) (by kernel_rfl) (by kernel_rfl) hN622 (fun _ w1 w2 E h hc9 => (h hc9).keep0 E) (fun _ => hx) (ObKs.cons ?_ (ObKs.cons ?_ (ObKs.cons ?_ (ObKs.cons ?_ (ObKs.cons ?_ (ObKs.cons ?_ (ObKs.cons ?_ (ObKs.cons ?_ (ObKs.cons ?_ (ObKs.pass rfl (ObKs.cons ?_ (ObKs.cons ?_ (ObKs.cons ?_ (ObKs.cons ?_ (ObKs.cons ?_ (ObKs.cons ?_ (ObKs.cons ?_ (ObKs.cons ?_ (ObKs.pass rfl (ObKs.cons ?_ (ObKs.cons ?_ (ObKs.pass rfl (ObKs.nil))))))))))))))))))))))) (by simp only [putsL_defers]) ?_
   ·
    intro eA aA wA hNA hckA hGA hbsA hdpA
    have qA_0 := (hbsA 0 rfl).trans (sl_base hN622 rfl s622_0)
    refine op_move (ev_base hNA rfl qA_0) ?_
    exact obK_end rfl rfl rfl
   ·
    intro eA aA wA hNA hckA hGA hbsA hdpA
    have qA_0 := (hbsA 0 rfl).trans (sl_base hN622 rfl s622_0)
    refine op_move (ev_base hNA rfl qA_0) ?_
    exact obK_end rfl rfl rfl
   ·
    intro eA aA wA hNA hckA hGA hbsA hdpA
    have qA_0 := (hbsA 0 rfl).trans (sl_base hN622 rfl s622_0)
    refine op_move (ev_base hNA rfl qA_0) ?_
    exact obK_end rfl rfl rfl
   ·
    intro eA aA wA hNA hckA hGA hbsA hdpA
    have qA_80 : Sl aA 80 (ptr p 0) := (hdpA 2 _ 80 (by kernel_rfl) rfl rfl).2 rfl
    refine op_nil (ev_base hNA rfl qA_80) ?_
    exact obK_end rfl rfl rfl
   ·
    intro eA aA wA hNA hckA hGA hbsA hdpA
    have qA_81 : Sl aA 81 (ptr p 0) := (hdpA 3 _ 81 (by kernel_rfl) rfl rfl).2 rfl
    refine op_field fld115_1 (ev_base hNA rfl qA_81) ?_
    exact obK_end rfl rfl rfl
   ·
    intro eA aA wA hNA hckA hGA hbsA hdpA
    have qA_82 : Sl aA 82 (ptr p 1) := (hdpA 4 _ 82 (by kernel_rfl) rfl rfl).2 rfl
    have hGA := hGA (hckA 2 21 rfl (by kernel_rfl))
    refine op_load1 (v := kv) one90 (ev_base hNA rfl qA_82) (hGA.cell rfl) ?_
    exact obK_end rfl rfl rfl
   ·
    intro eA aA wA hNA hckA hGA hbsA hdpA
    have qA_4 := (hbsA 4 rfl).trans (sl_base hN622 rfl s622_4)
    refine op_move (ev_base hNA rfl qA_4) ?_
    exact obK_end rfl rfl rfl
   ·
    intro eA aA wA hNA hckA hGA hbsA hdpA
    have qA_4 := (hbsA 4 rfl).trans (sl_base hN622 rfl s622_4)
    refine op_move (ev_base hNA rfl qA_4) ?_
    exact obK_end rfl rfl rfl
   ·
    intro eA aA wA hNA hckA hGA hbsA hdpA
    have qA_85 : Sl aA 85 (Value.int .i64 ((i : Nat) : Int)) := (hdpA 7 _ 85 (by kernel_rfl) rfl rfl).2 rfl
    refine op_add (ev_base hNA rfl qA_85) rfl (add64 (by omega)) ?_
    exact obK_end rfl rfl rfl
   ·
    intro eA aA wA hNA hckA hGA hbsA hdpA
    have qA_0 := (hbsA 0 rfl).trans (sl_base hN622 rfl s622_0)
    refine op_move (ev_base hNA rfl qA_0) ?_
    exact obK_end rfl rfl rfl
   ·
    intro eA aA wA hNA hckA hGA hbsA hdpA
    have qA_88 : Sl aA 88 (ptr p 0) := (hdpA 10 _ 88 (by kernel_rfl) rfl rfl).2 rfl
    refine op_nil (ev_base hNA rfl qA_88) ?_
    exact obK_end rfl rfl rfl
   ·
    intro eA aA wA hNA hckA hGA hbsA hdpA
    have qA_89 : Sl aA 89 (ptr p 0) := (hdpA 11 _ 89 (by kernel_rfl) rfl rfl).2 rfl
    refine op_field fld115_2 (ev_base hNA rfl qA_89) ?_
    exact obK_end rfl rfl rfl
   ·
    intro eA aA wA hNA hckA hGA hbsA hdpA
    have qA_90 : Sl aA 90 (ptr p 2) := (hdpA 12 _ 90 (by kernel_rfl) rfl rfl).2 rfl
    have hGA := hGA (hckA 2 21 rfl (by kernel_rfl))
    refine op_load1 (v := cv) one113 (ev_base hNA rfl qA_90) (hGA.cell rfl) ?_
    exact obK_end rfl rfl rfl
   ·
    intro eA aA wA hNA hckA hGA hbsA hdpA
    have qA_4 := (hbsA 4 rfl).trans (sl_base hN622 rfl s622_4)
    refine op_move (ev_base hNA rfl qA_4) ?_
    exact obK_end rfl rfl rfl
   ·
    intro eA aA wA hNA hckA hGA hbsA hdpA
    have qA_92 : Sl aA 92 (Value.int .i64 ((i : Nat) : Int)) := (hdpA 14 _ 92 (by kernel_rfl) rfl rfl).2 rfl
    refine op_add (r := ((i + 1 : Nat) : Int)) (ev_base hNA rfl qA_92) rfl ((add64 (by omega)).trans (by omega)) ?_
    exact obK_end rfl rfl rfl
   ·
    intro eA aA wA hNA hckA hGA hbsA hdpA
    have qA_4 := (hbsA 4 rfl).trans (sl_base hN622 rfl s622_4)
    refine op_move (ev_base hNA rfl qA_4) ?_
    exact obK_end rfl rfl rfl
   ·
    intro eA aA wA hNA hckA hGA hbsA hdpA
    have qA_94 : Sl aA 94 (Value.int .i64 ((i : Nat) : Int)) := (hdpA 16 _ 94 (by kernel_rfl) rfl rfl).2 rfl
    refine op_add (r := ((i + 1 + 1 : Nat) : Int)) (ev_base hNA rfl qA_94) rfl ((add64 (by omega)).trans (by omega)) ?_
    exact obK_end rfl rfl rfl
   ·
    intro eA aA wA hNA hckA hGA hbsA hdpA
    have qA_78 : Sl aA 78 (ptr p 0) := (hdpA 0 _ 78 (by kernel_rfl) rfl rfl).2 rfl
    refine op_nil (ev_base hNA rfl qA_78) ?_
    exact obK_end rfl rfl rfl
   ·
    intro eA aA wA hNA hckA hGA hbsA hdpA
    have qA_97 : Sl aA 97 (ptr p 0) := (hdpA 19 _ 97 (by kernel_rfl) rfl rfl).2 rfl
    refine op_field fld115_1 (ev_base hNA rfl qA_97) ?_
    exact obK_end rfl rfl rfl
   ·
    intro w627 E627 _ a627 hN627 hbs627 hdp627 o_ ho_; obtain rfl := Option.some.inj ho_
    have z_w627 := E627.size
    have hx := hx.keep0 E627
    have ok := ok.keep0 E627
    have oc := oc.keep0 E627
    have ks : ∀ x9 ∈ K, Own w627 0 5 1 x9.1 x9.2.length (x9.2.map u8v) := fun x9 hx9 => (ks x9 hx9).keep0 E627
    have hxb := hxb.keep0 E627
    have okb := okb.keep0 E627
    have ocb := ocb.keep0 E627
    have kas : ∀ x9 ∈ Ka, Own w627 0 5 1 x9.1 x9.2.length (x9.2.map u8v) := fun x9 hx9 => (kas x9 hx9).keep0 E627
    have kbs : ∀ x9 ∈ Kb, Own w627 0 5 1 x9.1 x9.2.length (x9.2.map u8v) := fun x9 hx9 => (kbs x9 hx9).keep0 E627
    have hr := hr.keepG (Gr.of0 E627 NoB) (fun _ _ h => h) (NoK.no _)
    have hKa := hKa.keepG (Gr.of0 E627 NoB) (fun _ _ h => h) (NoK.no _)
    have hKb := hKb.keepG (Gr.of0 E627 NoB) (fun _ _ h => h) (NoK.no _)
    have hB568 := hB568.keep0 E627
    have hO588 := hO588.keep0 E627
    have hO609 := hO609.keep0 E627
    have hxa := hxa.keep0 E627
    have hb := hb.step0 E627
    have q627_83 : Sl a627 83 kv := (hdp627 5 _ 83 (by kernel_rfl) rfl rfl).2 rfl
    have q627_84 : Sl a627 84 (Value.int .i64 ((i : Nat) : Int)) := (hdp627 6 _ 84 (by kernel_rfl) rfl rfl).2 rfl
    have q627_86 : Sl a627 86 (Value.int .i64 (((i : Nat) : Int) + 1)) := (hdp627 8 _ 86 (by kernel_rfl) rfl rfl).2 rfl
    refine op_fn (vs := [kv, (Value.int .i64 ((i : Nat) : Int)), (Value.int .i64 (((i : Nat) : Int) + 1))]) ok121 ⟨(ev_base hN627 rfl q627_83), ⟨(ev_base hN627 rfl q627_84), ⟨(ev_base hN627 rfl q627_86), trivial⟩⟩⟩ (DelK (i := i) ok (one_kd ks (fun _ h => h)) (by omega) (by omega)) ?_
    rintro v628 w629 ⟨E630, hO628, hm628⟩
    have hm628 : v628.ownBlock = kv.ownBlock ∨ ∀ k, v628.ownBlock = some k → w627.heap.size ≤ k := .inl hm628
    have dj631 : DJ kb v628 := DJ.step hm628 (fun k hk => (okb.lt k hk).2) dk4.symm
    have dj632 : Dj G0 (Bl v628) := Dj.step hm628 (fun k hk => (hr.lt k hk).2) djkG.symm
    have dj633 : Dj Ga (Bl v628) := Dj.step hm628 (fun k hk => (hKa.lt k hk).2) dk15.symm
    have dj634 : Dj Gb (Bl v628) := Dj.step hm628 (fun k hk => (hKb.lt k hk).2) dk25.symm
    have dj635 : DJ v585 v628 := DJ.step hm628 (fun k hk => (hO588.lt k hk).2) dj591.symm
    have hin636 := inF_step (n := w.heap.size) hm628 (by omega) (fun k _ h => hNd.wk k h)
    have z_w629 := E630.size
    have hx := hx.keepO ok E630 (by decide)
    have oc := oc.keepT ok E630 (by decide)
    have ks : ∀ x9 ∈ K, Own w629 0 5 1 x9.1 x9.2.length (x9.2.map u8v) := fun x9 hx9 => (ks x9 hx9).keepT ok E630 (by decide)
    have hxb := hxb.keepO ok E630 (by decide)
    have okb := okb.keepD E630 dk4.symm
    have ocb := ocb.keepT ok E630 (by decide)
    have kas : ∀ x9 ∈ Ka, Own w629 0 5 1 x9.1 x9.2.length (x9.2.map u8v) := fun x9 hx9 => (kas x9 hx9).keepT ok E630 (by decide)
    have kbs : ∀ x9 ∈ Kb, Own w629 0 5 1 x9.1 x9.2.length (x9.2.map u8v) := fun x9 hx9 => (kbs x9 hx9).keepT ok E630 (by decide)
    have hr := hr.keepG (Gr.of E630) djkG.symm (NoK.ofOwn ok (by decide))
    have hKa := hKa.keepG (Gr.of E630) dk15.symm (NoK.ofOwn ok (by decide))
    have hKb := hKb.keepG (Gr.of E630) dk25.symm (NoK.ofOwn ok (by decide))
    have hB568 := hB568.keep E630 (fun hh => ne_b566_kv hh.symm)
    have hO588 := hO588.keepD E630 dj591.symm
    have hO609 := hO609.keepT ok E630 (by decide)
    have hxa := hxa.keepO ok E630 (by decide)
    have hb := hb.stepL E630 (fun k _ h => hNd.wk k h)
    have hO628 : Own w629 0 27 1 v628 (K.eraseIdx i).length ((K.eraseIdx i).flatMap cK) := hO628.cast (by rw [List.length_eraseIdx, if_pos (by omega)]) (flat_del cK_len _ _)
    refine kk_end rfl (by decide) rfl (fun _ => hx) ?_
    intro w637 E637 _ a637 hN637 hbs637 hdp637 o_ ho_; obtain rfl := Option.some.inj ho_
    have z_w637 := E637.size
    have hx := hx.keep0 E637
    have oc := oc.keep0 E637
    have ks : ∀ x9 ∈ K, Own w637 0 5 1 x9.1 x9.2.length (x9.2.map u8v) := fun x9 hx9 => (ks x9 hx9).keep0 E637
    have hxb := hxb.keep0 E637
    have okb := okb.keep0 E637
    have ocb := ocb.keep0 E637
    have kas : ∀ x9 ∈ Ka, Own w637 0 5 1 x9.1 x9.2.length (x9.2.map u8v) := fun x9 hx9 => (kas x9 hx9).keep0 E637
    have kbs : ∀ x9 ∈ Kb, Own w637 0 5 1 x9.1 x9.2.length (x9.2.map u8v) := fun x9 hx9 => (kbs x9 hx9).keep0 E637
    have hr := hr.keepG (Gr.of0 E637 NoB) (fun _ _ h => h) (NoK.no _)
    have hKa := hKa.keepG (Gr.of0 E637 NoB) (fun _ _ h => h) (NoK.no _)
    have hKb := hKb.keepG (Gr.of0 E637 NoB) (fun _ _ h => h) (NoK.no _)
    have hB568 := hB568.keep0 E637
    have hO588 := hO588.keep0 E637
    have hO609 := hO609.keep0 E637
    have hxa := hxa.keep0 E637
    have hO628 := hO628.keep0 E637
    have hb := hb.step0 E637
    have q637_91 : Sl a637 91 cv := (hdp637 13 _ 91 (by kernel_rfl) rfl rfl).2 rfl
    have q637_93 : Sl a637 93 (Value.int .i64 ((i + 1 : Nat) : Int)) := (hdp637 15 _ 93 (by kernel_rfl) rfl rfl).2 rfl
    have q637_95 : Sl a637 95 (Value.int .i64 ((i + 1 + 1 : Nat) : Int)) := (hdp637 17 _ 95 (by kernel_rfl) rfl rfl).2 rfl
    refine op_fn (vs := [cv, (Value.int .i64 ((i + 1 : Nat) : Int)), (Value.int .i64 ((i + 1 + 1 : Nat) : Int))]) ok122 ⟨(ev_base hN637 rfl q637_91), ⟨(ev_base hN637 rfl q637_93), ⟨(ev_base hN637 rfl q637_95), trivial⟩⟩⟩ (DelN (i := (i + 1)) oc (one_pn _) (by omega) (by omega)) ?_
    rintro v638 w639 ⟨E640, hO638, hm638⟩
    have hm638 : v638.ownBlock = cv.ownBlock ∨ ∀ k, v638.ownBlock = some k → w637.heap.size ≤ k := .inl hm638
    have dj641 : DJ cb v638 := DJ.step hm638 (fun k hk => (ocb.lt k hk).2) dk6.symm
    have dj642 : Dj G0 (Bl v638) := Dj.step hm638 (fun k hk => (hr.lt k hk).2) djcG.symm
    have dj643 : Dj Ga (Bl v638) := Dj.step hm638 (fun k hk => (hKa.lt k hk).2) dk16.symm
    have dj644 : Dj Gb (Bl v638) := Dj.step hm638 (fun k hk => (hKb.lt k hk).2) dk26.symm
    have dj645 : DJ v606 v638 := DJ.step hm638 (fun k hk => (hO609.lt k hk).2) dj612.symm
    have hin646 := inF_step (n := w.heap.size) hm638 (by omega) (fun k _ h => hNd.wc k h)
    have z_w639 := E640.size
    have hx := hx.keepO oc E640 (by decide)
    have ks : ∀ x9 ∈ K, Own w639 0 5 1 x9.1 x9.2.length (x9.2.map u8v) := fun x9 hx9 => (ks x9 hx9).keepT oc E640 (by decide)
    have hxb := hxb.keepO oc E640 (by decide)
    have okb := okb.keepT oc E640 (by decide)
    have ocb := ocb.keepD E640 dk6.symm
    have kas : ∀ x9 ∈ Ka, Own w639 0 5 1 x9.1 x9.2.length (x9.2.map u8v) := fun x9 hx9 => (kas x9 hx9).keepT oc E640 (by decide)
    have kbs : ∀ x9 ∈ Kb, Own w639 0 5 1 x9.1 x9.2.length (x9.2.map u8v) := fun x9 hx9 => (kbs x9 hx9).keepT oc E640 (by decide)
    have hr := hr.keepG (Gr.of E640) djcG.symm (NoK.ofOwn oc (by decide))
    have hKa := hKa.keepG (Gr.of E640) dk16.symm (NoK.ofOwn oc (by decide))
    have hKb := hKb.keepG (Gr.of E640) dk26.symm (NoK.ofOwn oc (by decide))
    have hB568 := hB568.keepO oc E640 (by decide)
    have hO588 := hO588.keepT oc E640 (by decide)
    have hO609 := hO609.keepD E640 dj612.symm
    have hxa := hxa.keepO oc E640 (by decide)
    have hO628 := hO628.keepT oc E640 (by decide)
    have hb := hb.stepL E640 (fun k _ h => hNd.wc k h)
    have hO638 : Own w639 0 69 1 v638 (P.eraseIdx (i + 1)).length ((P.eraseIdx (i + 1)).flatMap cN) := hO638.cast (by rw [List.length_eraseIdx, if_pos (by omega)]) (flat_del cN_len _ _)
    refine kk_end rfl (by decide) rfl (fun _ => hx) ?_
    intro w647 E647 _ a647 hN647 hbs647 hdp647 o_ ho_; obtain rfl := Option.some.inj ho_
    have z_w647 := E647.size
    have hx := hx.keep0 E647
    have ks : ∀ x9 ∈ K, Own w647 0 5 1 x9.1 x9.2.length (x9.2.map u8v) := fun x9 hx9 => (ks x9 hx9).keep0 E647
    have hxb := hxb.keep0 E647
    have okb := okb.keep0 E647
    have ocb := ocb.keep0 E647
    have kas : ∀ x9 ∈ Ka, Own w647 0 5 1 x9.1 x9.2.length (x9.2.map u8v) := fun x9 hx9 => (kas x9 hx9).keep0 E647
    have kbs : ∀ x9 ∈ Kb, Own w647 0 5 1 x9.1 x9.2.length (x9.2.map u8v) := fun x9 hx9 => (kbs x9 hx9).keep0 E647
    have hr := hr.keepG (Gr.of0 E647 NoB) (fun _ _ h => h) (NoK.no _)
    have hKa := hKa.keepG (Gr.of0 E647 NoB) (fun _ _ h => h) (NoK.no _)
    have hKb := hKb.keepG (Gr.of0 E647 NoB) (fun _ _ h => h) (NoK.no _)
    have hB568 := hB568.keep0 E647
    have hO588 := hO588.keep0 E647
    have hO609 := hO609.keep0 E647
    have hxa := hxa.keep0 E647
    have hO628 := hO628.keep0 E647
    have hO638 := hO638.keep0 E647
    have hb := hb.step0 E647
    have q647_98 : Sl a647 98 (ptr p 1) := (hdp647 20 _ 98 (by kernel_rfl) rfl rfl).2 rfl
    have q647_87 : Sl a647 87 v628 := (Option.some.inj ((hdp647 9 _ 87 (by kernel_rfl) rfl rfl).1 0 rfl)).symm
    have hx_old := hx
    refine op_store (vs := [v628]) (cs' := [(Value.slice none 0 0), v628, cv]) size90 (ev_base hN647 rfl q647_98) (ev_base hN647 rfl q647_87) hO628.cl rfl (by simp only [List.all_cons, List.all_nil, Bool.true_and, Bool.and_true, hO628.one]; try rfl) hx (Nat.le_of_ble_eq_true rfl) rfl ?_
    intro w650 hx E651
    have z_w650 := E651.size
    have ks : ∀ x9 ∈ K, Own w650 0 5 1 x9.1 x9.2.length (x9.2.map u8v) := fun x9 hx9 => (ks x9 hx9).keepX hx_old E651 (by decide)
    have hxb := hxb.keep E651 (by simp only [ne_eq, Option.some.injEq]; omega)
    have okb := okb.keepX hx_old E651 (by decide)
    have ocb := ocb.keepX hx_old E651 (by decide)
    have kas : ∀ x9 ∈ Ka, Own w650 0 5 1 x9.1 x9.2.length (x9.2.map u8v) := fun x9 hx9 => (kas x9 hx9).keepX hx_old E651 (by decide)
    have kbs : ∀ x9 ∈ Kb, Own w650 0 5 1 x9.1 x9.2.length (x9.2.map u8v) := fun x9 hx9 => (kbs x9 hx9).keepX hx_old E651 (by decide)
    have hr := hr.keepG (Gr.of E651) (Dj.one djpG) (NoK.ofBx hx_old (by decide))
    have hKa := hKa.keepG (Gr.of E651) (Dj.one dk17) (NoK.ofBx hx_old (by decide))
    have hKb := hKb.keepG (Gr.of E651) (Dj.one dk27) (NoK.ofBx hx_old (by decide))
    have hB568 := hB568.keep E651 (fun hh => hB568.ne hx_old (by decide) (Option.some.inj hh))
    have hO588 := hO588.keepX hx_old E651 (by decide)
    have hO609 := hO609.keepX hx_old E651 (by decide)
    have hxa := hxa.keep E651 (by simp only [ne_eq, Option.some.injEq]; omega)
    have hO628 := hO628.keepX hx_old E651 (by decide)
    have hO638 := hO638.keepX hx_old E651 (by decide)
    have hb := hb.stepB E651 hNd.wp
    refine kk_end0 rfl (fun h => absurd h (by simp)) ?_
    intro w652 E652 a652 hN652 hd652 hbs652 hph652
    have hd652 := hd652.trans ((by simp only [putsL_defers] : _ = _).trans hd622)
    have z_w652 := E652.size
    have ks : ∀ x9 ∈ K, Own w652 0 5 1 x9.1 x9.2.length (x9.2.map u8v) := fun x9 hx9 => (ks x9 hx9).keep0 E652
    have hxb := hxb.keep0 E652
    have okb := okb.keep0 E652
    have ocb := ocb.keep0 E652
    have kas : ∀ x9 ∈ Ka, Own w652 0 5 1 x9.1 x9.2.length (x9.2.map u8v) := fun x9 hx9 => (kas x9 hx9).keep0 E652
    have kbs : ∀ x9 ∈ Kb, Own w652 0 5 1 x9.1 x9.2.length (x9.2.map u8v) := fun x9 hx9 => (kbs x9 hx9).keep0 E652
    have hr := hr.keepG (Gr.of0 E652 NoB) (fun _ _ h => h) (NoK.no _)
    have hKa := hKa.keepG (Gr.of0 E652 NoB) (fun _ _ h => h) (NoK.no _)
    have hKb := hKb.keepG (Gr.of0 E652 NoB) (fun _ _ h => h) (NoK.no _)
    have hB568 := hB568.keep0 E652
    have hO588 := hO588.keep0 E652
    have hO609 := hO609.keep0 E652
    have hxa := hxa.keep0 E652
    have hO628 := hO628.keep0 E652
    have hO638 := hO638.keep0 E652
    have hx := hx.keep0 E652
    have hb := hb.step0 E652
    have s652_79 : Sl a652 79 (ptr p 0) := (hph652 1 _ 79 rfl rfl).2 rfl
    have s652_96 : Sl a652 96 v638 := (Option.some.inj ((hph652 18 _ 96 rfl rfl).1 1 rfl)).symm
    refine split_end ?_
    refine from_seq (tl := [_, _, _]) (by decide) (by kernel_rfl) rfl ?_
    refine op_nil (ev_base hN652 rfl s652_79) ?_
    refine op_field fld115_2 (ev_hit hN652 rfl) ?_
    have hx_old := hx
    refine op_store (vs := [v638]) (cs' := [(Value.slice none 0 0), v628, v638]) size113 (ev_hit hN652 rfl) (ev_base hN652 rfl s652_96) hO638.cl rfl (by simp only [List.all_cons, List.all_nil, Bool.true_and, Bool.and_true, hO638.one]; try rfl) hx (Nat.le_of_ble_eq_true rfl) rfl ?_
    intro w655 hx E656
    have z_w655 := E656.size
    have ks : ∀ x9 ∈ K, Own w655 0 5 1 x9.1 x9.2.length (x9.2.map u8v) := fun x9 hx9 => (ks x9 hx9).keepX hx_old E656 (by decide)
    have hxb := hxb.keep E656 (by simp only [ne_eq, Option.some.injEq]; omega)
    have okb := okb.keepX hx_old E656 (by decide)
    have ocb := ocb.keepX hx_old E656 (by decide)
    have kas : ∀ x9 ∈ Ka, Own w655 0 5 1 x9.1 x9.2.length (x9.2.map u8v) := fun x9 hx9 => (kas x9 hx9).keepX hx_old E656 (by decide)
    have kbs : ∀ x9 ∈ Kb, Own w655 0 5 1 x9.1 x9.2.length (x9.2.map u8v) := fun x9 hx9 => (kbs x9 hx9).keepX hx_old E656 (by decide)
    have hr := hr.keepG (Gr.of E656) (Dj.one djpG) (NoK.ofBx hx_old (by decide))
    have hKa := hKa.keepG (Gr.of E656) (Dj.one dk17) (NoK.ofBx hx_old (by decide))
    have hKb := hKb.keepG (Gr.of E656) (Dj.one dk27) (NoK.ofBx hx_old (by decide))
    have hB568 := hB568.keep E656 (fun hh => hB568.ne hx_old (by decide) (Option.some.inj hh))
    have hO588 := hO588.keepX hx_old E656 (by decide)
    have hO609 := hO609.keepX hx_old E656 (by decide)
    have hxa := hxa.keep E656 (by simp only [ne_eq, Option.some.injEq]; omega)
    have hO628 := hO628.keepX hx_old E656 (by decide)
    have hO638 := hO638.keepX hx_old E656 (by decide)
    have hb := hb.stepB E656 hNd.wp
    refine reg_nil ?_
    refine end_ret ?_
    refine ret0 rfl hd652  ⟨_, rfl, ?_⟩
    -- path
    obtain ⟨G3, hkq3, hG3⟩ := Kids.app hKa hKb dk35
    have hTA := mkNode (κ := kI) (K := (Ka ++ [K.getD i default] ++ Kb)) (P := (Pa ++ Pb)) hxa (hO588.cast (n' := (Ka ++ [K.getD i default] ++ Kb).length) (cs' := (Ka ++ [K.getD i default] ++ Kb).flatMap cK) (by simp; omega) (by simp [cK])) (hO609.cast (n' := (Pa ++ Pb).length) (cs' := (Pa ++ Pb).flatMap cN) (by simp) (by simp)) (kks_app (kks_app kas (kks_one (ks _ (getD_mem (l := K) (i := i) (by omega))))) kbs) (kks_app (kks_app hA.kr (kks_one (hNd.kr _ (getD_mem (l := K) (i := i) (by omega))))) hB.kr) hkq3 (fun h1 => ((hG3 _ h1)).elim (fun y0 => dk22 y0) (fun z0 => dk32 z0)) (fun j h1 h2 => ((hG3 _ h2)).elim (fun y20 => dj594.symm _ h1 y20) (fun z20 => dj595.symm _ h1 z20)) (fun j h1 h2 => ((hG3 _ h2)).elim (fun y20 => dj615.symm _ h1 y20) (fun z20 => dj616.symm _ h1 z20))
    have hT9 := mkNode (κ := kI) (K := (K.eraseIdx i)) hx hO628 hO638 (kks_sub ks (fun _ h => List.mem_of_mem_eraseIdx h)) (kks_sub hNd.kr (fun _ h => List.mem_of_mem_eraseIdx h)) (Kids.join2 hr hPc (by omega) hTA (fun j h1 h2 => (h1).elim (fun y0 => dk13 (y0 ▸ h2)) (fun z0 => (z0).elim (fun y1 => dj593.symm _ y1 h2) (fun z1 => (z1).elim (fun y2 => dj614.symm _ y2 h2) (fun z2 => ((hG3 _ z2)).elim (fun y3 => dk24 _ y3 h2) (fun z3 => dk34 _ z3 h2)))))) (fun h1 => (h1).elim (fun y0 => (y0).elim (fun y1 => hpa y1) (fun z1 => (z1).elim (fun y2 => bx_own_ne hx hO588 (by decide) y2) (fun z2 => (z2).elim (fun y3 => bx_own_ne hx hO609 (by decide) y3) (fun z3 => ((hG3 _ z3)).elim (fun y4 => dk17 y4) (fun z4 => dk27 z4))))) (fun z0 => djpG z0)) (fun j h1 h2 => (h2).elim (fun y20 => (y20).elim (fun y21 => bx_own_ne hxa hO628 (by decide) (y21 ▸ h1)) (fun z21 => (z21).elim (fun y22 => dj635.symm _ h1 y22) (fun z22 => (z22).elim (fun y23 => own_own_dj hO628 hO609 (by decide) _ h1 y23) (fun z23 => ((hG3 _ z23)).elim (fun y24 => dj633.symm _ h1 y24) (fun z24 => dj634.symm _ h1 z24))))) (fun z20 => dj632.symm _ h1 z20)) (fun j h1 h2 => (h2).elim (fun y20 => (y20).elim (fun y21 => bx_own_ne hxa hO638 (by decide) (y21 ▸ h1)) (fun z21 => (z21).elim (fun y22 => own_own_dj hO638 hO588 (by decide) _ h1 y22) (fun z22 => (z22).elim (fun y23 => dj645.symm _ h1 y23) (fun z23 => ((hG3 _ z23)).elim (fun y24 => dj643.symm _ h1 y24) (fun z24 => dj644.symm _ h1 z24))))) (fun z20 => dj642.symm _ h1 z20))
    rw [mends_join (ks := K.map Prod.snd) (cs := cs) (i := j) (by rw [← hij]; exact hl), ← hij, join_N ha hb9 hi]
    exact ⟨hb, rfl, _, hT9, (newF_in (fun j hj h1 => (h1).elim (fun y0 => (y0 ▸ hNd.wp)) (fun z0 => (z0).elim (fun y1 => hin636 j hj y1) (fun z1 => (z1).elim (fun y2 => hin646 j hj y2) (fun z2 => (z2).elim (fun y3 => (y3).elim (fun y4 => (y4 ▸ (hNd.wg _ (hfs _ hA.wp)))) (fun z4 => (z4).elim (fun y5 => (inF_step (n := w.heap.size) hm589 (by omega) (inF_step (n := w.heap.size) hm577 (by omega) (fun k _ h => hNd.wg k (hfs k (hA.wk k h))))) j hj y5) (fun z5 => (z5).elim (fun y6 => (inF_step (n := w.heap.size) hm610 (by omega) (fun k _ h => hNd.wg k (hfs k (hA.wc k h)))) j hj y6) (fun z6 => ((hG3 _ z6)).elim (fun y7 => (fun j q => hNd.wg j (hfs j (hA.wg j q))) j y7) (fun z7 => (fun j q => hNd.wg j (hgs j (hB.wg j q))) j z7))))) (fun z3 => (fun j q => hNd.wg j (hGs j q)) j z3))))))⟩

end Go.Proofs.Ytcpfdfejojghbaa

/- Walks, written by a program: what each function of the translation hands back. -/
namespace Go.Proofs.Ytcpfdfejojghbaa
open Go.Gx Go.RowKit
attribute [local irreducible] wpList wpStill Code.wp Calls
open Go.Bt
theorem mendsTree {h j p : Nat} {R W : Nat → Prop} {t : Tr Int (h + 1)} {w : World} (T : TreeR kI R w (h + 1) p t W) (hlen : t.2.length = t.1.length + 1) (hsh : ∀ c ∈ t.2, Ok h c ∧ szT h c ≤ 7) (hj : j ≤ t.1.length) (h1 : 1 ≤ t.1.length) (hn : t.1.length ≤ 7) :
    Ret Try.prog 88 #[ptr p 0, .int .i64 ((j : Nat) : Int)] w (fun v' w' => Gr w w' W ∧ v' = .tuple #[] ∧ ∃ W', TreeR kI R w' (h + 1) p (mendsT h t j) W' ∧ NewF w.heap.size W W') := by
  obtain ⟨kv, cv, K, P, G, hNd, hKs, e⟩ := T
  obtain ⟨kl, cs⟩ := t
  have e' : K.map Prod.snd = kl := e
  subst e'
  have hlen' : cs.length = K.length + 1 := by simpa using hlen
  have hj' : j ≤ K.length := by simpa using hj
  have h1' : 1 ≤ K.length := by simpa using h1
  have hn' : K.length ≤ 7 := by simpa using hn
  by_cases hl : 3 < lender h cs (j - 1) (decide (j = 0))
  · exact mendL hNd hKs hlen' hsh rfl (by omega) hn' hl
  · have hPc : P.length = cs.length := Kids.len hKs
    obtain ⟨a, ha⟩ : ∃ a, cs[j - 1]? = some a := ⟨_, List.getElem?_eq_getElem (by omega)⟩
    obtain ⟨b, hb9⟩ : ∃ b, cs[j - 1 + 1]? = some b := ⟨_, List.getElem?_eq_getElem (by omega)⟩
    obtain ⟨f, g, G0, hA, hB, hr, d1, d2, d3, s1, s2, s3⟩ := Kids.cut2 hKs ha hb9
    obtain ⟨oa, za⟩ := hsh a (List.mem_of_getElem? ha)
    obtain ⟨ob, zb⟩ := hsh b (List.mem_of_getElem? hb9)
    cases h with
    | zero =>
      obtain ⟨av, Da, hLa, ea⟩ := hA
      obtain ⟨bv, Db, hLb, eb⟩ := hB
      have ea' : ((Da.map Prod.snd : List (Ky × Int)) : Tr Int 0) = a := ea
      have eb' : ((Db.map Prod.snd : List (Ky × Int)) : Tr Int 0) = b := eb
      subst ea'; subst eb'
      have za' : Da.length ≤ 7 := by have q : (Da.map Prod.snd).length ≤ 7 := za; simpa using q
      have zb' : Db.length ≤ 7 := by have q : (Db.map Prod.snd).length ≤ 7 := zb; simpa using q
      exact mendJL hNd d1 d2 d3 s1 s2 s3 (by omega) (by omega) hn' hLa hLb hr hPc ha hb9 za' zb' hKs hlen' hsh rfl hl
    | succ h =>
      obtain ⟨ka, ca, Ka, Pa, Ga, hNa, hKa, ea⟩ := hA
      obtain ⟨kb, cb, Kb, Pb, Gb, hNb, hKb, eb⟩ := hB
      obtain ⟨kla, ta⟩ := a
      obtain ⟨klb, tb⟩ := b
      have ea' : Ka.map Prod.snd = kla := ea
      have eb' : Kb.map Prod.snd = klb := eb
      subst ea'; subst eb'
      have la : ta.length = Ka.length + 1 := by have q := (ok_node.1 oa).1.1; simpa using q
      have lb : tb.length = Kb.length + 1 := by have q := (ok_node.1 ob).1.1; simpa using q
      have za' : Ka.length ≤ 7 := by have q : (Ka.map Prod.snd).length ≤ 7 := za; simpa using q
      have zb' : Kb.length ≤ 7 := by have q : (Kb.map Prod.snd).length ≤ 7 := zb; simpa using q
      exact mendJN hNd d1 d2 d3 s1 s2 s3 (by omega) (by omega) hn' hNa hKa hNb hKb hr hPc ha hb9 la lb za' zb' hKs hlen' hsh rfl hl
theorem sizeTree {h p : Nat} {R W : Nat → Prop} {t : Tr Int h} {w : World} (T : TreeR kI R w h p t W) (O : Ok h t) : Ret Try.prog 52 #[ptr p 0] w (fun v' w' => v' = .int .i64 (szT h t : Int) ∧ w' = w) := by
  obtain ⟨L, hpB, pv, kv, cv, a, b, ca, cb, hx, h2, h3, h4, h5⟩ := viewT T O
  exact sizeUI hx h2 h3 h4 h5
end Go.Proofs.Ytcpfdfejojghbaa

/- Dropping a key: leaves, and the root that is no more needed. -/
namespace Go.Gx
open Go.Bt Go.RowKit
section
variable {V : Type} {k : Ky} {D : List (DP V)}
theorem erase_map9 {i : Nat} : (D.eraseIdx i).map Prod.snd = (D.map Prod.snd).eraseIdx i := map_erase9.symm
theorem drop_found (hc : (kys D).contains k = true) : dropT 0 k ((D.map Prod.snd : List (Ky × V)) : Tr V 0) = (true, (((D.eraseIdx (pos (kys D) k)).map Prod.snd : List (Ky × V)) : Tr V 0)) := by
  rw [drop0]
  have hh : hasK (D.map Prod.snd) k = true := hc
  rw [if_pos hh, erase_map9]
  rfl
theorem drop_miss (hc : (kys D).contains k = false) : dropT 0 k ((D.map Prod.snd : List (Ky × V)) : Tr V 0) = (false, ((D.map Prod.snd : List (Ky × V)) : Tr V 0)) := by
  rw [drop0]
  have hh : ¬ hasK (D.map Prod.snd) k = true := by show ¬ (kys D).contains k = true; rw [hc]; decide
  rw [if_neg hh]
variable {h i : Nat} {K : List DK} {ts : List (Tr V h)} {c : Tr V h}
theorem drop_few (hc : ts[way (K.map Prod.snd) k]? = some c) (hs : szT h (dropT h k c).2 < 3) : dropT (h + 1) k ((K.map Prod.snd, ts) : Tr V (h + 1)) = ((dropT h k c).1, mendsT h ((K.map Prod.snd, ts.set (way (K.map Prod.snd) k) (dropT h k c).2) : Tr V (h + 1)) (way (K.map Prod.snd) k)) := by
  rw [drops, getD_of hc]
  exact congrArg (Prod.mk _) (if_pos hs)
theorem drop_enough (hc : ts[way (K.map Prod.snd) k]? = some c) (hs : ¬ szT h (dropT h k c).2 < 3) : dropT (h + 1) k ((K.map Prod.snd, ts) : Tr V (h + 1)) = ((dropT h k c).1, ((K.map Prod.snd, ts.set (way (K.map Prod.snd) k) (dropT h k c).2) : Tr V (h + 1))) := by
  rw [drops, getD_of hc]
  exact congrArg (Prod.mk _) (if_neg hs)
variable {κ : Kd V} {R R' W F H : Nat → Prop} {w w' : World} {p q : Nat} {o : TO V} {t : Tr V h}
/-- What becomes of a root. -/
theorem root_view : ∀ {h q : Nat} {t : Tr V h} {W : Nat → Prop}, TreeR κ R w h q t W → Ok h t → ∃ L, NodeV κ w.heap.size w q (szT h t) L ∧ (L.length = 1 → ∃ W', TreeO κ R w (shrunk h t) (L.getD 0 default) W' ∧ ∀ k, W' k → W k) ∧ (L.length ≠ 1 → szT h t = 0 → shrunk h t = none) ∧ (L.length ≠ 1 → szT h t ≠ 0 → shrunk h t = some ⟨h, t⟩)
  | 0, q, t, W, T, O => by
    refine ⟨[], leaf_view T, fun e => absurd e (by decide), fun _ e => ?_, fun _ e => ?_⟩
    · exact if_pos e
    · exact if_neg e
  | h + 1, q, t, W, T, O => by
    have hk : t.2.length = t.1.length + 1 := (ok_node.1 (show Ok (h + 1) ((t.1, t.2) : Tr V (h + 1)) from O)).1.1
    obtain ⟨L, G, hV, hKs, hG⟩ := node_view T hk
    have hl : L.length = t.2.length := Kids.len hKs
    refine ⟨L, hV, fun e => ?_, fun e e2 => ?_, fun e e2 => ?_⟩
    · have hc : t.2[0]? = some (t.2[0]'(by omega)) := List.getElem?_eq_getElem (by omega)
      obtain ⟨f, hf, hfG⟩ := Kids.get hKs hc
      have es : shrunk (h + 1) t = some ⟨h, t.2.getD 0 default⟩ := if_pos (by omega)
      rw [es, getD_of hc]
      exact ⟨f, hf, fun k hk => hG k (hfG k hk)⟩
    · have : t.1.length = 0 := e2
      omega
    · exact if_neg (by omega)
end
end Go.Gx

/- Walks, written by a program: what each function of the translation hands back. -/
namespace Go.Proofs.Ytcpfdfejojghbaa
open Go.Gx Go.RowKit
attribute [local irreducible] wpList wpStill Code.wp Calls
open Go.Bt
def Drop (h : Nat) : Prop := ∀ ⦃k : List UInt8⦄ ⦃xv : Value⦄ ⦃R W : Nat → Prop⦄ ⦃p : Nat⦄ ⦃t : Tr Int h⦄ ⦃w : World⦄, TreeR kI R w h p t W → Ok h t → szT h t ≤ 6 → (h = 0 ∨ 1 ≤ szT h t) → RdC w 0 w.heap.size 1 xv k.length (k.map u8v) →
  Ret Try.prog 51 #[ptr p 0, xv] w (fun v' w' => Gr w w' W ∧ v' = .bool (dropT h k t).1 ∧ ∃ W', TreeR kI R w' h p (dropT h k t).2 W' ∧ NewF w.heap.size W W')
theorem dropLf {k : List UInt8} {xv : Value} {R W : Nat → Prop} {p : Nat} {pv : Value} {D : List (DP Int)} {w : World} (hL : LeafR kI R w p pv D W) (hs : Sorted (kys D)) (hn : D.length ≤ 7) (hxr : RdC w 0 w.heap.size 1 xv k.length (k.map u8v)) : Ret Try.prog 51 #[(ptr p 0), xv] w (fun v' w' => Gr w w' W ∧ v' = .bool (dropT 0 k ((D.map Prod.snd : List (Ky × Int)) : Tr Int 0)).1 ∧ ∃ W', TreeR kI R w' 0 p (dropT 0 k ((D.map Prod.snd : List (Ky × Int)) : Tr Int 0)).2 W' ∧ NewF w.heap.size W W') := by
 have hx : Bx w p 115 [pv, .slice none 0 0, .slice none 0 0] := hL.bx
 have op : Own w 0 51 2 pv D.length (D.flatMap cI) := hL.op
 have ks := hL.ks
 have hi_p := hx.lt
 have hb := Gr.refl w W
 refine enter (N := 55) Try.func51 rfl rfl (by simp) fun a0 hN hd hA => ?_
 have s0 : a0.tmps.getD 0 undef = (ptr p 0) := hA 0 (by simp)
 have s1 : a0.tmps.getD 1 undef = xv := hA 1 (by simp)
 clear hA
 refine seq_any fun K1 hK1 => ?_
 refine one_reg ?_
 refine op_assign rfl ?_
 refine reg_nil ?_
 refine hK1 _ _ ?_
 refine seq_any fun K2 hK2 => ?_
 refine seq_any fun K3 hK3 => ?_
 refine one_reg ?_
 refine op_move (ev_base hN rfl s0) ?_
 refine op_fn (vs := [(ptr p 0)]) ok81 ⟨(ev_hit hN rfl), trivial⟩ (Ret.flip (leafLI hx op)) ?_
 rintro _ _ ⟨rfl, rfl⟩
 refine reg_nil ?_
 refine hK3 _ _ ?_
 refine wp_cond_true (ev_hit hN rfl) ?_
 refine seq_any fun K4 hK4 => ?_
 refine one_reg ?_
 refine op_move (ev_base hN rfl s0) ?_
 refine op_move (ev_base hN rfl s1) ?_
 refine op_fn (vs := [(ptr p 0), xv]) ok82 ⟨(ev_hit hN rfl), ⟨(ev_hit hN rfl), trivial⟩⟩ (findI hx op ks hs (by omega) (hxr.mono (Nat.zero_le _) (by omega))) ?_
 rintro _ w5 ⟨E6, rfl⟩
 have E6 := grown_of_below E6
 have z_w5 := E6.size
 have hx := hx.keep0 E6
 have op := op.keep0 E6
 have ks : ∀ x9 ∈ (D.map pk), Own w5 0 5 1 x9.1 x9.2.length (x9.2.map u8v) := fun x9 hx9 => (ks x9 hx9).keep0 E6
 have hxr := hxr.keep0 E6
 have hb := hb.step0 E6
 refine op_move (ev_hit hN rfl) ?_
 refine op_extract (ev_hit hN rfl) rfl ?_
 refine op_extract (ev_hit hN rfl) rfl ?_
 refine op_assign (ev_hit hN rfl) ?_
 rcases Bool.eq_false_or_eq_true (((kys D).contains k)) with c6 | c6
 · -- 6T
  rw [c6]
  refine op_assign (ev_hit hN rfl) ?_
  refine reg_nil ?_
  refine hK4 _ _ ?_
  refine seq_any fun K7 hK7 => ?_
  refine seq_any fun K8 hK8 => ?_
  refine one_reg ?_
  refine op_move (ev_hit hN rfl) ?_
  refine reg_nil ?_
  refine hK8 _ _ ?_
  refine wp_cond_true (ev_hit hN rfl) ?_
  refine one_reg ?_
  have hpl := pos_ltP hs c6
  skip
  refine op_move (ev_base hN rfl s0) ?_
  refine op_move (ev_base hN rfl s0) ?_
  refine op_nil (ev_hit hN rfl) ?_
  refine op_field fld115_0 (ev_hit hN rfl) ?_
  refine op_load1 (v := pv) one48 (ev_hit hN rfl) (hx.cell rfl) ?_
  refine op_move (ev_hit hN rfl) ?_
  refine op_move (ev_hit hN rfl) ?_
  refine op_add (ev_hit hN rfl) rfl (add64 (by omega)) ?_
  refine op_fn (vs := [pv, (Value.int .i64 (((pos (kys D) k) : Nat) : Int)), (Value.int .i64 ((((pos (kys D) k) : Nat) : Int) + 1))]) ok87 ⟨(ev_hit hN rfl), ⟨(ev_hit hN rfl), ⟨(ev_hit hN rfl), trivial⟩⟩⟩ (DelI (i := (pos (kys D) k)) op (one_pI ks (fun _ h => h)) (by omega) (by omega)) ?_
  rintro v9 w10 ⟨E11, hO9, hm9⟩
  have hm9 : v9.ownBlock = pv.ownBlock ∨ ∀ k, v9.ownBlock = some k → w5.heap.size ≤ k := .inl hm9
  have hin12 := inF_step (n := w.heap.size) hm9 (by omega) (fun k _ h => hL.wv k h)
  have z_w10 := E11.size
  have hx := hx.keepO op E11 (by decide)
  have ks : ∀ x9 ∈ (D.map pk), Own w10 0 5 1 x9.1 x9.2.length (x9.2.map u8v) := fun x9 hx9 => (ks x9 hx9).keepT op E11 (by decide)
  have hb := hb.stepL E11 (fun k _ h => hL.wv k h)
  have hO9 : Own w10 0 51 2 v9 (D.eraseIdx (pos (kys D) k)).length ((D.eraseIdx (pos (kys D) k)).flatMap cI) := hO9.cast (by rw [List.length_eraseIdx, if_pos (by omega)]) (flat_del cI_len _ _)
  refine op_nil (ev_hit hN rfl) ?_
  refine op_field fld115_0 (ev_hit hN rfl) ?_
  have hx_old := hx
  refine op_store (vs := [v9]) (cs' := [v9, (Value.slice none 0 0), (Value.slice none 0 0)]) size48 (ev_hit hN rfl) (ev_hit hN rfl) hO9.cl rfl (by simp only [List.all_cons, List.all_nil, Bool.true_and, Bool.and_true, hO9.one]; try rfl) hx (Nat.le_of_ble_eq_true rfl) rfl ?_
  intro w15 hx E16
  have z_w15 := E16.size
  have ks : ∀ x9 ∈ (D.map pk), Own w15 0 5 1 x9.1 x9.2.length (x9.2.map u8v) := fun x9 hx9 => (ks x9 hx9).keepX hx_old E16 (by decide)
  have hO9 := hO9.keepX hx_old E16 (by decide)
  have hb := hb.stepB E16 hL.wp
  refine reg_nil ?_
  refine hK7 _ _ ?_
  refine seq_any fun K17 hK17 => ?_
  refine one_reg ?_
  refine op_move (ev_hit hN rfl) ?_
  refine op_assign (ev_hit hN rfl) ?_
  refine reg_nil ?_
  refine hK17 _ _ ?_
  refine wp_ret (then_ret ( ?_))
  refine ret1 rfl hd (ev_hit hN rfl) ⟨_, rfl, ?_⟩
  -- path 6T
  rw [drop_found c6]
  exact ⟨hb, rfl, _, mkLeaf (D := D.eraseIdx (pos (kys D) k)) (κ := kI) hx hO9 (ks_sub ks (fun _ h => List.mem_of_mem_eraseIdx h)) (ks_sub hL.kr (fun _ h => List.mem_of_mem_eraseIdx h)) rfl, (newF_in (leafW_in (fun _ => hL.wp) hin12))⟩
 · -- 6F
  rw [c6]
  refine op_assign (ev_hit hN rfl) ?_
  refine reg_nil ?_
  refine hK4 _ _ ?_
  refine seq_any fun K18 hK18 => ?_
  refine seq_any fun K19 hK19 => ?_
  refine one_reg ?_
  refine op_move (ev_hit hN rfl) ?_
  refine reg_nil ?_
  refine hK19 _ _ ?_
  refine wp_cond_false (ev_hit hN rfl) ?_
  refine wp_skip ?_
  refine hK18 _ _ ?_
  refine seq_any fun K20 hK20 => ?_
  refine one_reg ?_
  refine op_move (ev_hit hN rfl) ?_
  refine op_assign (ev_hit hN rfl) ?_
  refine reg_nil ?_
  refine hK20 _ _ ?_
  refine wp_ret (then_ret ( ?_))
  refine ret1 rfl hd (ev_hit hN rfl) ⟨_, rfl, ?_⟩
  -- path 6F
  rw [drop_miss c6]
  exact ⟨hb, rfl, _, mkLeaf (D := D) (κ := kI) hx op ks hL.kr rfl, (newF_in (leafW_in (fun _ => hL.wp) (fun k _ h => hL.wv k h)))⟩

end Go.Proofs.Ytcpfdfejojghbaa

/- Walks, written by a program: what each function of the translation hands back. -/
namespace Go.Proofs.Ytcpfdfejojghbaa
open Go.Gx Go.RowKit
attribute [local irreducible] wpList wpStill Code.wp Calls
open Go.Bt
theorem dropN {h : Nat} {k : List UInt8} {xv : Value} {R W G : Nat → Prop} {p : Nat} {kv cv : Value} {K : List DK} {P : List Nat} {cs : List (Tr Int h)} {w : World} (IH : Drop h) (hNd : NodeR kI R w p kv cv K P G W) (hKs : KidsR kI R w h P cs G) (hO : Nd h (K.map Prod.snd) cs) (hz : ∀ c ∈ cs, okSz h c) (hn : K.length ≤ 6) (h1K : 1 ≤ K.length) (hxr : RdC w 0 w.heap.size 1 xv k.length (k.map u8v)) : Ret Try.prog 51 #[(ptr p 0), xv] w (fun v' w' => Gr w w' W ∧ v' = .bool (dropT (h + 1) k ((K.map Prod.snd, cs) : Tr Int (h + 1))).1 ∧ ∃ W', TreeR kI R w' (h + 1) p (dropT (h + 1) k ((K.map Prod.snd, cs) : Tr Int (h + 1))).2 W' ∧ NewF w.heap.size W W') := by
 have hx : Bx w p 115 [.slice none 0 0, kv, cv] := hNd.bx
 have ok := hNd.ok
 have oc : Own w 0 69 1 cv P.length (P.flatMap cN) := hNd.oc
 have ks := hNd.ks
 have hs := hO.2.1
 have hi_p := hx.lt
 have hPc : P.length = cs.length := Kids.len hKs
 have hcl : cs.length = K.length + 1 := hO.1.trans (by simp)
 have hPl : P.length = K.length + 1 := hPc.trans hcl
 have hwl : (way (K.map Prod.snd) k) ≤ K.length := by have := way_le (K.map Prod.snd) k; simpa using this
 obtain ⟨c, hc, hcO, hcw⟩ := hO.at (i := (way (K.map Prod.snd) k)) (by simpa using hwl)
 have hic : (way (K.map Prod.snd) k) < cs.length := by omega
 obtain ⟨f, G0, hkid, hrest, hfG, hfs, hGs⟩ := Kids.cutc hKs hc
 have hkid : TreeR kI R w h (P.getD (way (K.map Prod.snd) k) default) c f := hkid
 have hrest : KidsR kI R w h (P.eraseIdx (way (K.map Prod.snd) k)) (cs.eraseIdx (way (K.map Prod.snd) k)) G0 := hrest
 have djpf : ¬ f p := fun q => hNd.np (hfs p q)
 have djpG : ¬ G0 p := fun q => hNd.np (hGs p q)
 have djkf := hNd.nk.mono hfs
 have djkG := hNd.nk.mono hGs
 have djcf := hNd.nc.mono hfs
 have djcG := hNd.nc.mono hGs
 have hdk := drop_ok (k := k) hcO (.inr (by have := (hz c (List.mem_of_getElem? hc)).1; omega))
 have hsh9 : ∀ c9 ∈ (cs.set (way (K.map Prod.snd) k) (dropT h k c).2), Ok h c9 ∧ szT h c9 ≤ 7 := fun c9 hc9 => (List.mem_or_eq_of_mem_set hc9).elim (fun q => by
     obtain ⟨m, hm, rfl⟩ := List.getElem_of_mem q
     exact ⟨(hO.2.2 m _ (List.getElem?_eq_getElem hm)).1, by have := (hz _ q).2; omega⟩) (fun q => by
     subst q
     exact ⟨hdk.2.1, by have := hdk.2.2.1; have := (hz c (List.mem_of_getElem? hc)).2; omega⟩)
 have hb := Gr.refl w W
 refine enter (N := 55) Try.func51 rfl rfl (by simp) fun a0 hN hd hA => ?_
 have s0 : a0.tmps.getD 0 undef = (ptr p 0) := hA 0 (by simp)
 have s1 : a0.tmps.getD 1 undef = xv := hA 1 (by simp)
 clear hA
 refine seq_any fun K4801 hK4801 => ?_
 refine one_reg ?_
 refine op_assign rfl ?_
 refine reg_nil ?_
 refine hK4801 _ _ ?_
 refine seq_any fun K4802 hK4802 => ?_
 refine seq_any fun K4803 hK4803 => ?_
 refine one_reg ?_
 refine op_move (ev_base hN rfl s0) ?_
 refine op_fn (vs := [(ptr p 0)]) ok81 ⟨(ev_hit hN rfl), trivial⟩ (Ret.flip (leafNI hx ok oc (by omega) (by omega))) ?_
 rintro _ _ ⟨rfl, rfl⟩
 refine reg_nil ?_
 refine hK4803 _ _ ?_
 refine wp_cond_false (ev_hit hN rfl) ?_
 refine wp_skip ?_
 refine hK4802 _ _ ?_
 refine seq_any fun K4804 hK4804 => ?_
 refine one_reg ?_
 refine op_move (ev_base hN rfl s0) ?_
 refine op_move (ev_base hN rfl s1) ?_
 refine op_fn (vs := [(ptr p 0), xv]) ok84 ⟨(ev_hit hN rfl), ⟨(ev_hit hN rfl), trivial⟩⟩ (wayI hx ok oc ks hs (by omega) (hxr.mono (Nat.zero_le _) (by omega))) ?_
 rintro _ w4805 ⟨E4806, rfl⟩
 have E4806 := grown_of_below E4806
 have z_w4805 := E4806.size
 have hx := hx.keep0 E4806
 have ok := ok.keep0 E4806
 have oc := oc.keep0 E4806
 have ks : ∀ x9 ∈ K, Own w4805 0 5 1 x9.1 x9.2.length (x9.2.map u8v) := fun x9 hx9 => (ks x9 hx9).keep0 E4806
 have hxr := hxr.keep0 E4806
 have hkid := hkid.keepG (Gr.of0 E4806 NoB) (fun _ _ h => h) (NoK.no _)
 have hrest := hrest.keepG (Gr.of0 E4806 NoB) (fun _ _ h => h) (NoK.no _)
 have hb := hb.step0 E4806
 refine op_assign (ev_hit hN rfl) ?_
 refine reg_nil ?_
 refine hK4804 _ _ ?_
 refine seq_any fun K4807 hK4807 => ?_
 refine one_reg ?_
 refine op_move (ev_base hN rfl s0) ?_
 refine op_nil (ev_hit hN rfl) ?_
 refine op_field fld115_2 (ev_hit hN rfl) ?_
 refine op_load1 (v := cv) one113 (ev_hit hN rfl) (hx.cell rfl) ?_
 refine op_move (ev_hit hN rfl) ?_
 refine op_index_rd slt113 (ev_hit hN rfl) oc.rdw (ev_hit hN rfl) (by omega) (by omega) ?_
 intro b4808 o4809 h0b4808 h1b4808 hc4810
 refine op_load1 (v := (ptr (P.getD ((way (K.map Prod.snd) k)) default) 0)) one69 (ev_hit hN rfl) (by have := hc4810 0 (ptr (P.getD ((way (K.map Prod.snd) k)) default) 0) (by decide) (el_pn (i := ((way (K.map Prod.snd) k))) (by omega) (by first | omega | (simp only [List.length_drop, List.length_take]; omega))); simpa using this) ?_
 refine op_move (ev_base hN rfl s1) ?_
 refine op_fn (vs := [(ptr (P.getD ((way (K.map Prod.snd) k)) default) 0), xv]) ok51 ⟨(ev_hit hN rfl), ⟨(ev_hit hN rfl), trivial⟩⟩ (IH hkid hcO (by have := (hz c (List.mem_of_getElem? hc)).2; omega) (.inr (by have := (hz c (List.mem_of_getElem? hc)).1; omega)) (hxr.mono (Nat.le_refl _) (by omega))) ?_
 rintro _ w4812 ⟨E4813, rfl, W1_4811, hT4811, hN1_4811⟩
 have bd4814 := hx.lt
 have bd4815 := ok.lt
 have bd4816 := oc.lt
 have bd4817 := hrest.lt
 have hkid_old := hkid
 have z_w4812 := E4813.size
 have hx := hx.keepG E4813 djpf
 have ok := ok.keepG E4813 djkf
 have oc := oc.keepG E4813 djcf
 have ks : ∀ x9 ∈ K, Own w4812 0 5 1 x9.1 x9.2.length (x9.2.map u8v) := fun x9 hx9 => (ks x9 hx9).keepG E4813 (hkid_old.notOwn (ks x9 hx9) (by decide) (by decide) (by decide) (by decide))
 have hrest := hrest.keepG E4813 hfG.symm (hkid_old.noK kI_fine)
 have hb := hb.stepF E4813 (fun k _ h => hNd.wg k (hfs k h))
 have dj4818 : ¬ W1_4811 p := ne_stepF hN1_4811 bd4814 djpf
 have dj4819 : Dj (Bl kv) W1_4811 := Dj.stepF hN1_4811 (fun k hk => (bd4815 k hk).2) djkf
 have dj4820 : Dj (Bl cv) W1_4811 := Dj.stepF hN1_4811 (fun k hk => (bd4816 k hk).2) djcf
 have dj4821 : Dj G0 W1_4811 := Dj.stepF hN1_4811 (fun k hk => (bd4817 k hk).2) hfG.symm
 have hin4822 := in_newF (hN1_4811.mono (t := w.heap.size) (by omega)) (fun k hk => hNd.wg k (hfs k hk))
 refine op_assign (ev_hit hN rfl) ?_
 refine reg_nil ?_
 refine hK4807 _ _ ?_
 refine seq_any fun K4823 hK4823 => ?_
 refine seq_any fun K4824 hK4824 => ?_
 refine one_reg ?_
 refine op_move (ev_base hN rfl s0) ?_
 refine op_nil (ev_hit hN rfl) ?_
 refine op_field fld115_2 (ev_hit hN rfl) ?_
 refine op_load1 (v := cv) one113 (ev_hit hN rfl) (hx.cell rfl) ?_
 refine op_move (ev_hit hN rfl) ?_
 refine op_index_rd slt113 (ev_hit hN rfl) oc.rdw (ev_hit hN rfl) (by omega) (by omega) ?_
 intro b4825 o4826 h0b4825 h1b4825 hc4827
 refine op_load1 (v := (ptr (P.getD ((way (K.map Prod.snd) k)) default) 0)) one69 (ev_hit hN rfl) (by have := hc4827 0 (ptr (P.getD ((way (K.map Prod.snd) k)) default) 0) (by decide) (el_pn (i := ((way (K.map Prod.snd) k))) (by omega) (by first | omega | (simp only [List.length_drop, List.length_take]; omega))); simpa using this) ?_
 refine op_fn (vs := [(ptr (P.getD ((way (K.map Prod.snd) k)) default) 0)]) ok52 ⟨(ev_hit hN rfl), trivial⟩ (Ret.flip (sizeTree hT4811 hdk.2.1)) ?_
 rintro _ _ ⟨rfl, rfl⟩
 refine op_lss (ev_hit hN rfl) rfl (fun c50 => ?_) (fun c50 => ?_)
 · -- 50T
  refine reg_nil ?_
  refine hK4824 _ _ ?_
  refine wp_cond_true (ev_hit hN rfl) ?_
  refine one_reg ?_
  refine op_move (ev_base hN rfl s0) ?_
  refine op_move (ev_hit hN rfl) ?_
  have hT8 := (mkNode (κ := kI) (K := K) (P := P) hx ok oc ks hNd.kr (Kids.back1 (i := (way (K.map Prod.snd) k)) (A := TreeR kI R w4812 h) hrest hPc hic hT4811 dj4821.symm) (fun h1 => (h1).elim (fun y0 => dj4818 y0) (fun z0 => djpG z0)) (fun j h1 h2 => (h2).elim (fun y20 => dj4819 _ h1 y20) (fun z20 => djkG _ h1 z20)) (fun j h1 h2 => (h2).elim (fun y20 => dj4820 _ h1 y20) (fun z20 => djcG _ h1 z20)))
  have hN8 := (fun (j : Nat) (hj : j < w.heap.size) (h1 : nodeW p kv cv (fun k => W1_4811 k ∨ G0 k) j) => (show W j from (h1).elim (fun y0 => (y0 ▸ hNd.wp)) (fun z0 => (z0).elim (fun y1 => (fun k _ h => hNd.wk k h) j hj y1) (fun z1 => (z1).elim (fun y2 => (fun k _ h => hNd.wc k h) j hj y2) (fun z2 => (z2).elim (fun y3 => (fun _ q => hin4822 _ hj q) j y3) (fun z3 => (fun j q => hNd.wg j (hGs j q)) j z3))))))
  refine op_fn (vs := [(ptr p 0), (Value.int .i64 (((way (K.map Prod.snd) k) : Nat) : Int))]) ok88 ⟨(ev_hit hN rfl), ⟨(ev_hit hN rfl), trivial⟩⟩ (mendsTree (t := ((K.map Prod.snd, (cs.set (way (K.map Prod.snd) k) (dropT h k c).2)) : Tr Int (h + 1))) hT8 (by simp; omega) hsh9 (by simp; omega) (by simp; omega) (by simp; omega)) ?_
  rintro _ w4828 ⟨E4829, rfl, W9, hT9, hN9⟩
  have z_w4828 := E4829.size
  have hs8 : w.heap.size ≤ w4812.heap.size := by omega
  have hb := hb.stepF E4829 hN8
  refine reg_nil ?_
  refine hK4823 _ _ ?_
  refine seq_any fun K4830 hK4830 => ?_
  refine one_reg ?_
  refine op_move (ev_hit hN rfl) ?_
  refine op_assign (ev_hit hN rfl) ?_
  refine reg_nil ?_
  refine hK4830 _ _ ?_
  refine wp_ret ?_
  refine ret1 rfl hd (ev_hit hN rfl) ⟨_, rfl, ?_⟩
  -- path 50T
  rw [drop_few hc (by omega)]
  exact ⟨hb, rfl, W9, hT9, NewF.trans (newF_in hN8) hN9 hs8⟩
 · -- 50F
  refine reg_nil ?_
  refine hK4824 _ _ ?_
  refine wp_cond_false (ev_hit hN rfl) ?_
  refine wp_skip ?_
  refine hK4823 _ _ ?_
  refine seq_any fun K4831 hK4831 => ?_
  refine one_reg ?_
  refine op_move (ev_hit hN rfl) ?_
  refine op_assign (ev_hit hN rfl) ?_
  refine reg_nil ?_
  refine hK4831 _ _ ?_
  refine wp_ret ?_
  refine ret1 rfl hd (ev_hit hN rfl) ⟨_, rfl, ?_⟩
  -- path 50F
  rw [drop_enough hc (by omega)]
  have hT9 := (mkNode (κ := kI) (K := K) (P := P) hx ok oc ks hNd.kr (Kids.back1 (i := (way (K.map Prod.snd) k)) (A := TreeR kI R w4812 h) hrest hPc hic hT4811 dj4821.symm) (fun h1 => (h1).elim (fun y0 => dj4818 y0) (fun z0 => djpG z0)) (fun j h1 h2 => (h2).elim (fun y20 => dj4819 _ h1 y20) (fun z20 => djkG _ h1 z20)) (fun j h1 h2 => (h2).elim (fun y20 => dj4820 _ h1 y20) (fun z20 => djcG _ h1 z20)))
  exact ⟨hb, rfl, _, hT9, (newF_in (fun j hj h1 => (h1).elim (fun y0 => (y0 ▸ hNd.wp)) (fun z0 => (z0).elim (fun y1 => (fun k _ h => hNd.wk k h) j hj y1) (fun z1 => (z1).elim (fun y2 => (fun k _ h => hNd.wc k h) j hj y2) (fun z2 => (z2).elim (fun y3 => (fun _ q => hin4822 _ hj q) j y3) (fun z3 => (fun j q => hNd.wg j (hGs j q)) j z3))))))⟩

end Go.Proofs.Ytcpfdfejojghbaa

/- Walks, written by a program: what each function of the translation hands back. -/
namespace Go.Proofs.Ytcpfdfejojghbaa
open Go.Gx Go.RowKit
attribute [local irreducible] wpList wpStill Code.wp Calls
open Go.Bt
theorem dropAll : ∀ h, Drop h
  | 0 => by
    intro k xv R W p t w T hO h6 _ hxr
    obtain ⟨pv, D, hL, e⟩ := T
    have e' : (D.map Prod.snd : List (Ky × Int)) = t := e
    subst e'
    exact dropLf hL (show Sorted ((D.map Prod.snd).map Prod.fst) from hO) (by have h9 : (D.map Prod.snd).length ≤ 6 := h6; rw [List.length_map] at h9; omega) hxr
  | h + 1 => by
    intro k xv R W p t w T hO h6 h1 hxr
    obtain ⟨kv, cv, K, P, G, hN, hKs, e⟩ := T
    obtain ⟨kl, cs⟩ := t
    have e' : K.map Prod.snd = kl := e
    subst e'
    obtain ⟨g1, g2⟩ := ok_node.1 hO
    exact dropN (dropAll h) hN hKs g1 g2 (by have h9 : (K.map Prod.snd).length ≤ 6 := h6; simpa using h9) (by have h9 : 1 ≤ (K.map Prod.snd).length := h1.resolve_left (by omega); simpa using h9) hxr
end Go.Proofs.Ytcpfdfejojghbaa

/- Walks, written by a program: what each function of the translation hands back. -/
namespace Go.Proofs.Ytcpfdfejojghbaa
open Go.Gx Go.RowKit
attribute [local irreducible] wpList wpStill Code.wp Calls
open Go.Bt
theorem dropT0 {p : Nat} {xv : Value} {w : World} (hx : Bx w p 71 [.pointer none]) : Ret Try.prog 28 #[(ptr p 0), xv] w (fun v' w' => Below w.heap.size w w' ∧ v' = .bool false) := by
 have hb := Below.refl w.heap.size w
 refine enter (N := 54) Try.func28 rfl rfl (by simp) fun a0 hN hd hA => ?_
 have s0 : a0.tmps.getD 0 undef = (ptr p 0) := hA 0 (by simp)
 have s1 : a0.tmps.getD 1 undef = xv := hA 1 (by simp)
 clear hA
 refine seq_any fun K4832 hK4832 => ?_
 refine one_reg ?_
 refine op_assign rfl ?_
 refine reg_nil ?_
 refine hK4832 _ _ ?_
 refine seq_any fun K4833 hK4833 => ?_
 refine seq_any fun K4834 hK4834 => ?_
 refine one_reg ?_
 refine op_move (ev_base hN rfl s0) ?_
 refine op_peq_some ptrt45 (ev_hit hN rfl) rfl ?_
 refine op_move (ev_hit hN rfl) ?_
 refine g_true (j := 2) (dj := 8) (b := false) rfl rfl rfl (ev_hit hN rfl) ?_
 refine op_move (ev_base hN rfl s0) ?_
 refine g_true (j := 2) (dj := 8) (b := false) rfl rfl rfl (ev_hit hN rfl) ?_
 refine op_nil (ev_hit hN rfl) ?_
 refine g_true (j := 2) (dj := 8) (b := false) rfl rfl rfl (ev_hit hN rfl) ?_
 refine op_field fld71_0 (ev_hit hN rfl) ?_
 refine g_true (j := 2) (dj := 8) (b := false) rfl rfl rfl (ev_hit hN rfl) ?_
 refine op_load1 (v := (Value.pointer none)) one69 (ev_hit hN rfl) (hx.cell rfl) ?_
 refine g_true (j := 2) (dj := 8) (b := false) rfl rfl rfl (ev_hit hN rfl) ?_
 refine op_peq_none ptrt69 (ev_hit hN rfl) rfl ?_
 refine op_pick_f (ev_hit hN rfl) (ev_hit hN rfl) ?_
 refine reg_nil ?_
 refine hK4834 _ _ ?_
 refine wp_cond_true (ev_hit hN rfl) ?_
 refine seq_any fun K4835 hK4835 => ?_
 refine one_reg ?_
 refine op_assign rfl ?_
 refine reg_nil ?_
 refine hK4835 _ _ ?_
 refine wp_ret (then_ret ( ?_))
 refine ret1 rfl hd (ev_hit hN rfl) ⟨_, rfl, ?_⟩
 -- path
 exact ⟨hb, rfl⟩

theorem dropT1 {k : List UInt8} {xv : Value} {F : Nat → Prop} {p h q : Nat} {t : Tr Int h} {R W : Nat → Prop} {w : World} (hx : Bx w p 71 [ptr q 0]) (hFp : F p) (hT : TreeR kI R w h q t W) (hFW : ∀ j, W j → F j) (hO : Ok h t) (h1 : 1 ≤ szT h t) (h6 : szT h t ≤ 6) (hxr : RdC w 0 w.heap.size 1 xv k.length (k.map u8v)) : Ret Try.prog 28 #[(ptr p 0), xv] w (fun v' w' => Gr w w' F ∧ v' = .bool (dropT h k t).1 ∧ ((∃ q2 W2, Bx w' p 71 [ptr q2 0] ∧ TreeO kI R w' (shrunk h (dropT h k t).2) q2 W2 ∧ ∀ j, W2 j → F j ∨ w.heap.size ≤ j) ∨ (Bx w' p 71 [.pointer none] ∧ shrunk h (dropT h k t).2 = none))) := by
 have hi_p := hx.lt
 have hT1 := hT
 have djp : ¬ W p := hT.notBx hx (by decide) (by decide) (by decide) (by decide)
 have hb := Gr.refl w F
 refine enter (N := 54) Try.func28 rfl rfl (by simp) fun a0 hN hd hA => ?_
 have s0 : a0.tmps.getD 0 undef = (ptr p 0) := hA 0 (by simp)
 have s1 : a0.tmps.getD 1 undef = xv := hA 1 (by simp)
 clear hA
 refine seq_any fun K4836 hK4836 => ?_
 refine one_reg ?_
 refine op_assign rfl ?_
 refine reg_nil ?_
 refine hK4836 _ _ ?_
 refine seq_any fun K4837 hK4837 => ?_
 refine seq_any fun K4838 hK4838 => ?_
 refine one_reg ?_
 refine op_move (ev_base hN rfl s0) ?_
 refine op_peq_some ptrt45 (ev_hit hN rfl) rfl ?_
 refine op_move (ev_hit hN rfl) ?_
 refine g_true (j := 2) (dj := 8) (b := false) rfl rfl rfl (ev_hit hN rfl) ?_
 refine op_move (ev_base hN rfl s0) ?_
 refine g_true (j := 2) (dj := 8) (b := false) rfl rfl rfl (ev_hit hN rfl) ?_
 refine op_nil (ev_hit hN rfl) ?_
 refine g_true (j := 2) (dj := 8) (b := false) rfl rfl rfl (ev_hit hN rfl) ?_
 refine op_field fld71_0 (ev_hit hN rfl) ?_
 refine g_true (j := 2) (dj := 8) (b := false) rfl rfl rfl (ev_hit hN rfl) ?_
 refine op_load1 (v := (ptr q 0)) one69 (ev_hit hN rfl) (hx.cell rfl) ?_
 refine g_true (j := 2) (dj := 8) (b := false) rfl rfl rfl (ev_hit hN rfl) ?_
 refine op_peq_some ptrt69 (ev_hit hN rfl) rfl ?_
 refine op_pick_f (ev_hit hN rfl) (ev_hit hN rfl) ?_
 refine reg_nil ?_
 refine hK4838 _ _ ?_
 refine wp_cond_false (ev_hit hN rfl) ?_
 refine wp_skip ?_
 refine hK4837 _ _ ?_
 refine seq_any fun K4839 hK4839 => ?_
 refine one_reg ?_
 refine op_move (ev_base hN rfl s0) ?_
 refine op_nil (ev_hit hN rfl) ?_
 refine op_field fld71_0 (ev_hit hN rfl) ?_
 refine op_load1 (v := (ptr q 0)) one69 (ev_hit hN rfl) (hx.cell rfl) ?_
 refine op_move (ev_base hN rfl s1) ?_
 refine op_fn (vs := [(ptr q 0), xv]) ok51 ⟨(ev_hit hN rfl), ⟨(ev_hit hN rfl), trivial⟩⟩ (dropAll h hT1 hO h6 (.inr h1) hxr) ?_
 rintro _ w4841 ⟨E4842, rfl, W1_4840, hT4840, hN1_4840⟩
 have bd4843 := hx.lt
 have hT1_old := hT1
 have z_w4841 := E4842.size
 have hx := hx.keepG E4842 djp
 have hb := hb.stepF E4842 (fun k _ h => hFW k h)
 have dj4844 : ¬ W1_4840 p := ne_stepF hN1_4840 bd4843 djp
 have hin4845 : ∀ j, W1_4840 j → F j ∨ w.heap.size ≤ j := fun j hj => (hN1_4840 j hj).imp (hFW j) (fun h => by omega)
 obtain ⟨L9, ⟨hpB, pv4840, kv4840, cv4840, a_4840, b_4840, ca4840, cb4840, hxq4840, h2_4840, h3_4840, h4_4840, h5_4840⟩, hr1, hr2, hr3⟩ := root_view hT4840 (drop_ok hO (.inr h1)).2.1
 have hxq4840 : Bx w4841 q 115 [pv4840, kv4840, cv4840] := hxq4840
 refine op_assign (ev_hit hN rfl) ?_
 refine reg_nil ?_
 refine hK4839 _ _ ?_
 refine seq_any fun K4846 hK4846 => ?_
 refine wp_block ?_
 refine seq_any fun K4847 hK4847 => ?_
 refine one_reg ?_
 refine op_move (ev_base hN rfl s0) ?_
 refine op_nil (ev_hit hN rfl) ?_
 refine op_field fld71_0 (ev_hit hN rfl) ?_
 refine op_load1 (v := (ptr q 0)) one69 (ev_hit hN rfl) (hx.cell rfl) ?_
 refine op_nil (ev_hit hN rfl) ?_
 refine op_field fld115_2 (ev_hit hN rfl) ?_
 refine op_load1 (v := cv4840) one113 (ev_hit hN rfl) (hxq4840.cell rfl) ?_
 refine op_len_rd Try.underlying113 (ev_hit hN rfl) h4_4840 ?_
 refine op_eql (ev_hit hN rfl) rfl (fun c30 => ?_) (fun c30 => ?_)
 · -- 30T
  refine op_assign (ev_hit hN rfl) ?_
  refine reg_nil ?_
  refine hK4847 _ _ ?_
  refine wp_cond_true (ev_hit hN rfl) ?_
  refine one_reg ?_
  obtain ⟨W8, hT8, hs8⟩ := hr1 (by omega)
  have dj8 : ¬ W8 p := fun z => hT4840.notBx hx (by decide) (by decide) (by decide) (by decide) (hs8 _ z)
  refine op_move (ev_base hN rfl s0) ?_
  refine op_move (ev_base hN rfl s0) ?_
  refine op_nil (ev_hit hN rfl) ?_
  refine op_field fld71_0 (ev_hit hN rfl) ?_
  refine op_load1 (v := (ptr q 0)) one69 (ev_hit hN rfl) (hx.cell rfl) ?_
  refine op_nil (ev_hit hN rfl) ?_
  refine op_field fld115_2 (ev_hit hN rfl) ?_
  refine op_load1 (v := cv4840) one113 (ev_hit hN rfl) (hxq4840.cell rfl) ?_
  refine op_index_rd slt113 (ev_hit hN rfl) h4_4840 rfl (by omega) (by omega) ?_
  intro b4848 o4849 h0b4848 h1b4848 hc4850
  refine op_load1 (v := (ptr (L9.getD 0 default) 0)) one69 (ev_hit hN rfl) (by have := hc4850 0 (ptr (L9.getD 0 default) 0) (by decide) (el_pn (i := 0) (by omega) (by first | omega | (simp only [List.length_drop, List.length_take]; omega))); simpa using this) ?_
  skip
  refine op_nil (ev_hit hN rfl) ?_
  refine op_field fld71_0 (ev_hit hN rfl) ?_
  have hx_old := hx
  refine op_store (vs := [(ptr (L9.getD 0 default) 0)]) (cs' := [(ptr (L9.getD 0 default) 0)]) size69 (ev_hit hN rfl) (ev_hit hN rfl) rfl rfl rfl hx (Nat.le_of_ble_eq_true rfl) rfl ?_
  intro w4853 hx E4854
  have z_w4853 := E4854.size
  have hT4840 := hT4840.keepG (Gr.of E4854) (Dj.one dj4844) (NoK.ofBx hx_old (by decide))
  have hT8 := hT8.keepG (Gr.of E4854) (Dj.one dj8) (NoK.ofBx hx_old (by decide))
  have hb := hb.stepB E4854 hFp
  refine reg_nil ?_
  refine hK4846 _ _ ?_
  refine seq_any fun K4855 hK4855 => ?_
  refine one_reg ?_
  refine op_move (ev_hit hN rfl) ?_
  refine op_assign (ev_hit hN rfl) ?_
  refine reg_nil ?_
  refine hK4855 _ _ ?_
  refine wp_ret ?_
  refine ret1 rfl hd (ev_hit hN rfl) ⟨_, rfl, ?_⟩
  -- path 30T
  exact ⟨hb, rfl, .inl ⟨_, W8, hx, hT8, fun j hj => hin4845 j (hs8 j hj)⟩⟩
 · -- 30F
  refine op_assign (ev_hit hN rfl) ?_
  refine reg_nil ?_
  refine hK4847 _ _ ?_
  refine wp_cond_false (ev_hit hN rfl) ?_
  refine seq_any fun K4856 hK4856 => ?_
  refine one_reg ?_
  refine op_move (ev_base hN rfl s0) ?_
  refine op_nil (ev_hit hN rfl) ?_
  refine op_field fld71_0 (ev_hit hN rfl) ?_
  refine op_load1 (v := (ptr q 0)) one69 (ev_hit hN rfl) (hx.cell rfl) ?_
  refine op_fn (vs := [(ptr q 0)]) ok52 ⟨(ev_hit hN rfl), trivial⟩ (Ret.flip (sizeUI hxq4840 h2_4840 h3_4840 h4_4840 h5_4840)) ?_
  rintro _ _ ⟨rfl, rfl⟩
  refine op_eql (ev_hit hN rfl) rfl (fun c49 => ?_) (fun c49 => ?_)
  · -- 49T
   refine op_assign (ev_hit hN rfl) ?_
   refine reg_nil ?_
   refine hK4856 _ _ ?_
   refine wp_cond_true (ev_hit hN rfl) ?_
   refine one_reg ?_
   skip
   refine op_move (ev_base hN rfl s0) ?_
   refine op_nil (ev_hit hN rfl) ?_
   refine op_field fld71_0 (ev_hit hN rfl) ?_
   have hx_old := hx
   refine op_store (vs := [(Value.pointer none)]) (cs' := [(Value.pointer none)]) size69 (ev_hit hN rfl) rfl rfl rfl rfl hx (Nat.le_of_ble_eq_true rfl) rfl ?_
   intro w4859 hx E4860
   have z_w4859 := E4860.size
   have hT4840 := hT4840.keepG (Gr.of E4860) (Dj.one dj4844) (NoK.ofBx hx_old (by decide))
   have hb := hb.stepB E4860 hFp
   refine reg_nil ?_
   refine hK4846 _ _ ?_
   refine seq_any fun K4861 hK4861 => ?_
   refine one_reg ?_
   refine op_move (ev_hit hN rfl) ?_
   refine op_assign (ev_hit hN rfl) ?_
   refine reg_nil ?_
   refine hK4861 _ _ ?_
   refine wp_ret ?_
   refine ret1 rfl hd (ev_hit hN rfl) ⟨_, rfl, ?_⟩
   -- path 30F 49T
   exact ⟨hb, rfl, .inr ⟨hx, hr2 (by omega) (by omega)⟩⟩
  · -- 49F
   refine op_assign (ev_hit hN rfl) ?_
   refine reg_nil ?_
   refine hK4856 _ _ ?_
   refine wp_cond_false (ev_hit hN rfl) ?_
   refine wp_skip ?_
   refine hK4846 _ _ ?_
   refine seq_any fun K4862 hK4862 => ?_
   refine one_reg ?_
   refine op_move (ev_hit hN rfl) ?_
   refine op_assign (ev_hit hN rfl) ?_
   refine reg_nil ?_
   refine hK4862 _ _ ?_
   refine wp_ret ?_
   refine ret1 rfl hd (ev_hit hN rfl) ⟨_, rfl, ?_⟩
   -- path 30F 49F
   exact ⟨hb, rfl, .inl ⟨q, _, hx, by rw [hr3 (by omega) (by omega)]; exact hT4840, hin4845⟩⟩

end Go.Proofs.Ytcpfdfejojghbaa

/- Walks, written by a program: what each function of the translation hands back. -/
namespace Go.Proofs.Ytcpfdfejojghbaa
open Go.Gx Go.RowKit
attribute [local irreducible] wpList wpStill Code.wp Calls
open Go.Bt
theorem dropTop {o : TO Int} {k : List UInt8} {xv : Value} {F : Nat → Prop} {p base : Nat} {w : World} (hT : TopR kI 71 base w p o F) (hb : base ≤ w.heap.size) (hxr : RdC w 0 w.heap.size 1 xv k.length (k.map u8v)) :
    Ret Try.prog 28 #[ptr p 0, xv] w (fun v' w' => Gr w w' F ∧ v' = .bool (dropO k o).1 ∧ ∃ F', TopR kI 71 base w' p (dropO k o).2 F' ∧ NewF w.heap.size F F') := by
  obtain ⟨hF, hlt, hO, root, hB', hr⟩ := id hT
  rcases hr with ⟨rfl, rfl⟩ | ⟨q, R, W, rfl, hTO, hFW, hFR⟩
  · refine (dropT0 hB').mono fun v' w' h => ?_
    obtain ⟨E, rfl⟩ := h
    exact ⟨Gr.ofBelow E _, rfl, F, hT.keepG (Gr.ofBelow E NoB) (fun _ _ h => h), NewF.refl _ _⟩
  · match o, hT, hO, hTO with
    | some ⟨h, t⟩, hT, hO, hTO =>
      have ho := (dropO_ok (k := k) (o := some ⟨h, t⟩) hO).1
      refine (dropT1 hB' hF hTO hFW hO.1 hO.2.1 hO.2.2 hxr).mono fun v' w' h => ?_
      obtain ⟨E, hv, ⟨q2, W2, hB2, hT2, hW2⟩ | ⟨hB2, hn⟩⟩ := h
      · exact ⟨E, hv, hT.after hb E.size ho hB2 (TreeO.monoR hT2 fun j h => .inl (hFR j h)) hW2⟩
      · obtain ⟨F', h1, h2⟩ := hT.gone hb E.size hB2
        exact ⟨E, hv, F', (show (dropO k (some ⟨h, t⟩)).2 = none from hn) ▸ h1, h2⟩
end Go.Proofs.Ytcpfdfejojghbaa

/- What trees have, as rising lists: putting, dropping, looking up. -/
namespace Go.Bt
section
variable {V : Type} {h : Nat} {k x y : Ky} {v : V} {o : TO V} {l : List (Ky × V)}
abbrev ks1 (l : List (Ky × V)) : List Ky := l.map Prod.fst
abbrev SortedL (l : List (Ky × V)) : Prop := Sorted (ks1 l)
def ltL (x : Ky) (l : List (Ky × V)) : List (Ky × V) := l.filter fun p => decide (p.1 < x)
def gtL (x : Ky) (l : List (Ky × V)) : List (Ky × V) := l.filter fun p => decide (x < p.1)
def putL (k : Ky) (v : V) (l : List (Ky × V)) : List (Ky × V) := ltL k l ++ (k, v) :: gtL k l
def dropL (k : Ky) (l : List (Ky × V)) : List (Ky × V) := ltL k l ++ gtL k l
def getL (k : Ky) (l : List (Ky × V)) : Option V := (l.find? fun p => decide (p.1 = k)).map Prod.snd
theorem mem_ltL {p : Ky × V} : p ∈ ltL k l ↔ p ∈ l ∧ p.1 < k := by simp [ltL]
theorem mem_gtL {p : Ky × V} : p ∈ gtL k l ↔ p ∈ l ∧ k < p.1 := by simp [gtL]
theorem sub_sorted (P : Ky × V → Bool) (H : SortedL l) : SortedL (l.filter P) := List.Pairwise.sublist (List.Sublist.map _ List.filter_sublist) H
theorem sorted_app {a b : List (Ky × V)} : SortedL (a ++ b) ↔ SortedL a ∧ SortedL b ∧ ∀ p ∈ a, ∀ q ∈ b, p.1 < q.1 := by
  show List.Pairwise _ ((a ++ b).map Prod.fst) ↔ _
  rw [List.map_append, List.pairwise_append]
  refine and_congr Iff.rfl (and_congr Iff.rfl ⟨fun H p hp q hq => H _ (List.mem_map.2 ⟨p, hp, rfl⟩) _ (List.mem_map.2 ⟨q, hq, rfl⟩), fun H a ha b hb => ?_⟩)
  obtain ⟨p, hp, rfl⟩ := List.mem_map.1 ha
  obtain ⟨q, hq, rfl⟩ := List.mem_map.1 hb
  exact H p hp q hq
theorem sorted_cons {p : Ky × V} {b : List (Ky × V)} : SortedL (p :: b) ↔ (∀ q ∈ b, p.1 < q.1) ∧ SortedL b := by
  show List.Pairwise _ (p.1 :: b.map Prod.fst) ↔ _
  rw [List.pairwise_cons]
  refine and_congr ⟨fun H q hq => H _ (List.mem_map.2 ⟨q, hq, rfl⟩), fun H a ha => ?_⟩ Iff.rfl
  obtain ⟨q, hq, rfl⟩ := List.mem_map.1 ha
  exact H q hq
theorem putL_sorted (H : SortedL l) : SortedL (putL k v l) := by
  refine sorted_app.2 ⟨sub_sorted _ H, sorted_cons.2 ⟨fun q hq => (mem_gtL.1 hq).2, sub_sorted _ H⟩, fun p hp q hq => ?_⟩
  have h1 := (mem_ltL.1 hp).2
  rcases List.mem_cons.1 hq with rfl | hq
  · exact h1
  · have := (mem_gtL.1 hq).2; grind
theorem dropL_sorted (H : SortedL l) : SortedL (dropL k l) :=
  sorted_app.2 ⟨sub_sorted _ H, sub_sorted _ H, fun p hp q hq => by have := (mem_ltL.1 hp).2; have := (mem_gtL.1 hq).2; grind⟩
theorem mem_putL {p : Ky × V} : p ∈ putL k v l ↔ p = (k, v) ∨ (p.1 ≠ k ∧ p ∈ l) := by
  unfold putL
  rw [List.mem_append, List.mem_cons, mem_ltL, mem_gtL]
  grind
theorem mem_dropL {p : Ky × V} : p ∈ dropL k l ↔ p.1 ≠ k ∧ p ∈ l := by
  unfold dropL
  rw [List.mem_append, mem_ltL, mem_gtL]
  grind
theorem put_toL (H : OkO o) : toLO (putO k v o).2 = putL k v (toLO o) := by
  obtain ⟨a, _, b⟩ := putO_ok (k := k) (x := v) H
  exact sorted_ext (toLO_sorted a) (putL_sorted (toLO_sorted H)) fun p => (b p).trans mem_putL.symm
theorem drop_toL (H : OkO o) : toLO (dropO k o).2 = dropL k (toLO o) := by
  obtain ⟨a, _, b⟩ := dropO_ok (k := k) H
  exact sorted_ext (toLO_sorted a) (dropL_sorted (toLO_sorted H)) fun p => (b p).trans mem_dropL.symm
theorem has_iff : (ks1 l).contains k = true ↔ ∃ p ∈ l, p.1 = k := by rw [List.contains_iff_mem, List.mem_map]
theorem put_was (H : OkO o) : (putO k v o).1 = (ks1 (toLO o)).contains k := Bool.eq_iff_iff.2 ((putO_ok H).2.1.trans has_iff.symm)
theorem drop_was (H : OkO o) : (dropO k o).1 = (ks1 (toLO o)).contains k := Bool.eq_iff_iff.2 ((dropO_ok H).2.1.trans has_iff.symm)
/-! as positions -/
theorem pos_cons {ks : List Ky} {y : Ky} : pos (y :: ks) x = pos ks x + if y < x then 1 else 0 := by
  unfold pos; rw [List.countP_cons]; simp
theorem pos_zero {ks : List Ky} (h : ∀ y ∈ ks, ¬ y < x) : pos ks x = 0 := by
  unfold pos; rw [List.countP_eq_zero]; intro a ha; simpa using h a ha
theorem ltL_take : ∀ {l : List (Ky × V)}, SortedL l → ltL x l = l.take (pos (ks1 l) x)
  | [], _ => rfl
  | p :: l, H => by
    obtain ⟨h1, h2⟩ := sorted_cons.1 H
    have ih := ltL_take h2
    have e : pos (ks1 (p :: l)) x = pos (ks1 l) x + if p.1 < x then 1 else 0 := pos_cons
    rw [e]
    by_cases hp : p.1 < x
    · rw [if_pos hp, List.take_succ_cons, ← ih]; simp [ltL, hp]
    · rw [if_neg hp]
      have z : pos (ks1 l) x = 0 := pos_zero fun y hy => by
        obtain ⟨q, hq, rfl⟩ := List.mem_map.1 hy
        have := h1 q hq; grind
      rw [z] at ih ⊢
      show ltL x (p :: l) = []
      have : ltL x (p :: l) = ltL x l := by simp [ltL, hp]
      rw [this, ih]; rfl
theorem gtL_drop : ∀ {l : List (Ky × V)}, SortedL l → gtL x l = l.drop (pos (ks1 l) x + if (ks1 l).contains x then 1 else 0)
  | [], _ => rfl
  | p :: l, H => by
    obtain ⟨h1, h2⟩ := sorted_cons.1 H
    have ih := gtL_drop h2
    have e : pos (ks1 (p :: l)) x = pos (ks1 l) x + if p.1 < x then 1 else 0 := pos_cons
    have ec : (ks1 (p :: l)).contains x = (x == p.1 || (ks1 l).contains x) := rfl
    rw [e, ec]
    by_cases hp : p.1 < x
    · rw [if_pos hp]
      have e1 : (x == p.1) = false := by simp only [beq_eq_false_iff_ne]; intro e; grind
      rw [e1, Bool.false_or, show ∀ a b : Nat, a + 1 + b = a + b + 1 by intro a b; omega, List.drop_succ_cons, ← ih]
      have : ¬ x < p.1 := by grind
      simp [gtL, this]
    · rw [if_neg hp]
      have z : pos (ks1 l) x = 0 := pos_zero fun y hy => by
        obtain ⟨q, hq, rfl⟩ := List.mem_map.1 hy
        have := h1 q hq; grind
      have c : (ks1 l).contains x = false := by
        rw [Bool.eq_false_iff]; intro h
        obtain ⟨q, hq, rfl⟩ := has_iff.1 h
        exact hp (h1 q hq)
      have a : gtL x l = l := by rw [ih, z, c]; rfl
      rw [z, c, Bool.or_false]
      by_cases hx : x = p.1
      · subst hx
        have : ¬ p.1 < p.1 := by grind
        simp only [beq_self_eq_true, if_true, Nat.zero_add, List.drop_succ_cons, List.drop_zero]
        rw [← a]; simp [gtL, this]
      · have e1 : (x == p.1) = false := by simpa using hx
        rw [e1]
        have : x < p.1 := by grind
        show gtL x (p :: l) = p :: l
        have e2 : gtL x (p :: l) = p :: gtL x l := by simp [gtL, this]
        rw [e2, a]
theorem putL_pos (H : SortedL l) : putL k v l = l.take (pos (ks1 l) k) ++ (k, v) :: l.drop (pos (ks1 l) k + if (ks1 l).contains k then 1 else 0) := by
  unfold putL; rw [ltL_take H, gtL_drop H]
theorem dropL_pos (H : SortedL l) : dropL k l = l.take (pos (ks1 l) k) ++ l.drop (pos (ks1 l) k + if (ks1 l).contains k then 1 else 0) := by
  unfold dropL; rw [ltL_take H, gtL_drop H]
theorem putL_len (H : SortedL l) : (putL k v l).length = l.length + if (ks1 l).contains k then 0 else 1 := by
  rw [putL_pos H, List.length_append, List.length_cons, List.length_take, List.length_drop]
  have h1 := pos_le (ks1 l) k
  have h2 : (ks1 l).length = l.length := List.length_map ..
  by_cases hc : (ks1 l).contains k = true
  · obtain ⟨h, _⟩ := pos_hit (show Sorted (ks1 l) from H) (List.contains_iff_mem.1 hc)
    rw [if_pos hc, if_pos hc]; omega
  · rw [if_neg hc, if_neg hc]; omega
theorem dropL_len (H : SortedL l) : (dropL k l).length + (if (ks1 l).contains k then 1 else 0) = l.length := by
  rw [dropL_pos H, List.length_append, List.length_take, List.length_drop]
  have h1 := pos_le (ks1 l) k
  have h2 : (ks1 l).length = l.length := List.length_map ..
  by_cases hc : (ks1 l).contains k = true
  · obtain ⟨h, _⟩ := pos_hit (show Sorted (ks1 l) from H) (List.contains_iff_mem.1 hc)
    rw [if_pos hc]; omega
  · rw [if_neg hc]; omega
theorem getL_hit (H : SortedL l) {q : Ky × V} {r : List (Ky × V)} (h : (geL x l).take 1 = q :: r) (e : q.1 = x) : getL x l = some q.2 := by
  have hq : q ∈ geL x l := List.mem_of_mem_take (h ▸ List.mem_cons_self ..)
  have hq : q ∈ l := (List.mem_filter.1 hq).1
  have hf : (l.find? fun p => decide (p.1 = x)).isSome = true := by rw [List.find?_isSome]; exact ⟨q, hq, by simpa using e⟩
  obtain ⟨p, hp⟩ := Option.isSome_iff_exists.1 hf
  have h1 := List.mem_of_find?_eq_some hp
  have h2 : p.1 = x := by simpa using List.find?_some hp
  have : p = q := mem_key (show Sorted (l.map Prod.fst) from H) h1 hq (h2.trans e.symm)
  unfold getL; rw [hp, this]; rfl
theorem getL_none (h : ∀ p ∈ l, p.1 ≠ x) : getL x l = none := by
  unfold getL
  rw [List.find?_eq_none.2 fun p hp => by simpa using h p hp]; rfl
theorem getL_miss0 (h : (geL x l).take 1 = []) : getL x l = none := getL_none fun p hp e => by
  have h0 : geL x l = [] := by cases hg : geL x l with | nil => rfl | cons a t => rw [hg] at h; cases h
  have : p ∈ geL x l := by unfold geL; rw [List.mem_filter]; exact ⟨hp, by subst e; simp⟩
  rw [h0] at this; cases this
theorem getL_miss1 (H : SortedL l) {q : Ky × V} {r : List (Ky × V)} (h : (geL x l).take 1 = q :: r) (e : q.1 ≠ x) : getL x l = none := getL_none fun p hp e2 => by
  have hs := sub_sorted (fun p : Ky × V => decide (x ≤ p.1)) H
  have hg : ∃ t, geL x l = q :: t := by cases hg : geL x l with | nil => rw [hg] at h; cases h | cons a t => rw [hg, List.take_succ_cons] at h; injection h with h1 h2; exact ⟨t, by rw [h1]⟩
  obtain ⟨t, ht⟩ := hg
  have hp' : p ∈ geL x l := by unfold geL; rw [List.mem_filter]; exact ⟨hp, by subst e2; simp⟩
  have hq : x ≤ q.1 := by
    have : q ∈ geL x l := ht ▸ List.mem_cons_self ..
    simpa using (List.mem_filter.1 this).2
  have hs' : SortedL (q :: t) := ht ▸ hs
  rw [ht] at hp'
  rcases List.mem_cons.1 hp' with rfl | hp'
  · exact e e2
  · have := (sorted_cons.1 hs').1 p hp'; grind
end
end Go.Bt
namespace Go.Gx
open Go.Bt Go.RowKit
section
variable {V : Type} {κ : Kd V} {w w' : World} {F H : Nat → Prop} {base tT p n : Nat} {M : List (Ky × V)} {o : TO V}
/-- A tree, told by what it has. -/
def TopL (κ : Kd V) (tT base : Nat) (w : World) (p : Nat) (M : List (Ky × V)) (F : Nat → Prop) : Prop := ∃ o, TopR κ tT base w p o F ∧ toLO o = M
theorem TopL.lt (T : TopL κ tT base w p M F) : ∀ k, F k → base ≤ k ∧ k < w.heap.size := by obtain ⟨o, h, _⟩ := T; exact h.lt
theorem TopL.keepG (T : TopL κ tT base w p M F) (E : Gr w w' H) (hd : Dj F H) : TopL κ tT base w' p M F := by obtain ⟨o, h, e⟩ := T; exact ⟨o, h.keepG E hd, e⟩
theorem TopL.sorted (T : TopL κ tT base w p M F) : SortedL M := by obtain ⟨o, h, rfl⟩ := T; exact toLO_sorted h.2.2.1
end
end Go.Gx

/- What trees' levels are like, plainly. -/
namespace Go.Bt
section
variable {V : Type} {h : Nat} {o : TO V}
/-- How many nodes stand on the i-th level, told by the one above. -/
def wantL (L : List (List Nat)) : Nat → Nat
  | 0 => 1
  | i + 1 => ((L.getD i []).map (· + 1)).sum
def Shp : Nat → Nat → List (List Nat) → Prop
  | _, _, [] => True
  | low, want, r :: rest => r.length = want ∧ (∀ n ∈ r, low ≤ n ∧ n ≤ 6) ∧ Shp 3 ((r.map (· + 1)).sum) rest
theorem Shp.at : ∀ {L : List (List Nat)} {low want i : Nat}, Shp low want L → i < L.length → (L.getD i []).length = (if i = 0 then want else wantL L i) ∧ ∀ n ∈ L.getD i [], (if i = 0 then low else 3) ≤ n ∧ n ≤ 6
  | [], _, _, _, _, hi => absurd hi (Nat.not_lt_zero _)
  | r :: rest, low, want, 0, H, _ => by obtain ⟨h1, h2, _⟩ := H; exact ⟨h1, h2⟩
  | r :: rest, low, want, i + 1, H, hi => by
    obtain ⟨h1, h2, h3⟩ := H
    have := Shp.at h3 (i := i) (by simpa using hi)
    rw [List.getD_cons_succ]
    refine ⟨?_, fun n hn => ?_⟩
    · rw [this.1, if_neg (Nat.succ_ne_zero i)]
      cases i with
      | zero => rfl
      | succ i => rw [if_neg (Nat.succ_ne_zero i)]; rfl
    · have q := this.2 n hn
      rw [if_neg (Nat.succ_ne_zero i)]
      refine ⟨?_, q.2⟩
      have := q.1
      split at this <;> exact this
theorem kids_sum {now : List (Tr V (h + 1))} (H : ∀ t ∈ now, t.2.length = t.1.length + 1) : (now.flatMap fun t => t.2).length = ((now.map (szT (h + 1))).map (· + 1)).sum := by
  induction now with
  | nil => rfl
  | cons t r ih =>
    rw [List.flatMap_cons, List.length_append, ih (fun t ht => H t (List.mem_cons_of_mem _ ht)), H t (List.mem_cons_self ..)]
    simp [szT]
theorem lvl_shp : ∀ {h : Nat} {now : List (Tr V h)} {low : Nat}, (∀ t ∈ now, Ok h t ∧ low ≤ szT h t ∧ szT h t ≤ 6) → Shp low now.length (lvl h now)
  | 0, now, low, H => by
    refine ⟨List.length_map .., fun n hn => ?_, trivial⟩
    obtain ⟨t, ht, rfl⟩ := List.mem_map.1 hn
    exact (H t ht).2
  | h + 1, now, low, H => by
    refine ⟨List.length_map .., fun n hn => ?_, ?_⟩
    · obtain ⟨t, ht, rfl⟩ := List.mem_map.1 hn
      exact (H t ht).2
    · have e := kids_sum (h := h) (now := now) fun t ht => (ok_node.1 (H t ht).1).1.1
      rw [← e]
      refine lvl_shp fun c hc => ?_
      obtain ⟨t, ht, hc⟩ := List.mem_flatMap.1 hc
      obtain ⟨N, hs⟩ := ok_node.1 (H t ht).1
      obtain ⟨i, hi, rfl⟩ := List.getElem_of_mem hc
      exact ⟨(N.2.2 i _ (List.getElem?_eq_getElem hi)).1, hs _ hc⟩
theorem levels_shp (H : OkO o) : Shp 1 1 (levels o) := by
  match o, H with
  | none, _ => trivial
  | some ⟨h, t⟩, H => exact lvl_shp (now := [t]) fun c hc => by rw [List.mem_singleton.1 hc]; exact ⟨H.1, H.2.1, H.2.2⟩
theorem levels_at (H : OkO o) {i : Nat} (hi : i < (levels o).length) : ((levels o).getD i []).length = wantL (levels o) i ∧ ∀ n ∈ (levels o).getD i [], 1 ≤ n ∧ n ≤ 6 ∧ (0 < i → 3 ≤ n) := by
  have a := (levels_shp H).at hi
  refine ⟨?_, fun n hn => ?_⟩
  · rw [a.1]; split
    · rename_i e; subst e; rfl
    · rfl
  · have q := a.2 n hn
    split at q
    · exact ⟨q.1, q.2, fun h => by omega⟩
    · exact ⟨by omega, q.2, fun _ => q.1⟩
theorem levels_none (H : OkO o) : (levels o).length = 0 ↔ (toLO o).length = 0 := by
  match o, H with
  | none, _ => exact ⟨fun _ => rfl, fun _ => rfl⟩
  | some ⟨h, t⟩, H =>
    have h1 : (levels (some ⟨h, t⟩ : TO V)).length = h + 1 := lvl_len
    have h2 := Go.Gx.toL_pos H.1 H.2.1
    exact ⟨fun q => by omega, fun q => by have : (toL h t).length = 0 := q; omega⟩
/-! how deep a tree is -/
theorem sum_low {r : List Nat} {m : Nat} (H : ∀ n ∈ r, m ≤ n) : m * r.length ≤ r.sum := by
  induction r with
  | nil => simp
  | cons a t ih => have := ih (fun n hn => H n (List.mem_cons_of_mem _ hn)); have := H a (List.mem_cons_self ..); rw [List.length_cons, List.sum_cons, Nat.mul_add]; omega
theorem sum_suc {r : List Nat} : (r.map (· + 1)).sum = r.sum + r.length := by
  induction r with
  | nil => rfl
  | cons a t ih => simp only [List.map_cons, List.sum_cons, List.length_cons, ih]; omega
theorem want_grows (H : OkO o) {i : Nat} (hi : i + 1 < (levels o).length) : ((levels o).getD i []).length * (if i = 0 then 2 else 4) ≤ ((levels o).getD (i + 1) []).length := by
  obtain ⟨_, a⟩ := levels_at H (i := i) (by omega)
  obtain ⟨b, _⟩ := levels_at H hi
  rw [b]
  show _ ≤ (((levels o).getD i []).map (· + 1)).sum
  rw [sum_suc]
  split
  · have := sum_low (m := 1) fun n hn => (a n hn).1; omega
  · have := sum_low (m := 3) fun n hn => (a n hn).2.2 (by omega); omega
theorem cons9 {α : Type} [Inhabited α] {l : List α} (h : 0 < l.length) : l = l.getD 0 default :: l.tail := by
  match l, h with
  | a :: t, _ => rfl
/-- What is known of a tree's levels: n keys. -/
structure LevOk (L : List (List Nat)) (n : Nat) : Prop where
  zero : L.length = 0 ↔ n = 0
  at_ : ∀ i, i < L.length → (L.getD i []).length = wantL L i ∧ ∀ m ∈ L.getD i [], 1 ≤ m ∧ m ≤ 6 ∧ (0 < i → 3 ≤ m)
  grows : ∀ i, i + 1 < L.length → (L.getD i []).length * (if i = 0 then 2 else 4) ≤ (L.getD (i + 1) []).length
  sum : (L.getD (L.length - 1) []).sum = n
  le : L.length ≤ n
theorem lev_ok (H : OkO o) : LevOk (levels o) (toLO o).length := ⟨levels_none H, fun _ hi => levels_at H hi, fun _ hi => want_grows H hi, Go.Gx.levels_sum, Go.Gx.levels_le H⟩
/-- The first k nodes' kids. -/
def sumk (r : List Nat) (k : Nat) : Nat := ((r.take k).map (· + 1)).sum
theorem sumk_all {r : List Nat} : sumk r r.length = (r.map (· + 1)).sum := by unfold sumk; rw [List.take_length]
theorem sumk_suc {r : List Nat} {k : Nat} (h : k < r.length) : sumk r (k + 1) = sumk r k + (r.getD k 0 + 1) := by
  unfold sumk
  rw [Go.Gx.take9 (d := 0) h, List.map_append, List.sum_append]
  simp
theorem sumk_le {r : List Nat} {k : Nat} (H : ∀ m ∈ r, m ≤ 6) : sumk r k ≤ 7 * r.length := by
  have h1 : ∀ l : List Nat, (∀ m ∈ l, m ≤ 6) → (l.map (· + 1)).sum ≤ 7 * l.length := fun l => by
    induction l with
    | nil => intro _; simp
    | cons a t ih => intro h; have := ih fun m hm => h m (List.mem_cons_of_mem _ hm); have := h a (List.mem_cons_self ..); simp only [List.map_cons, List.sum_cons, List.length_cons]; omega
  have := h1 (r.take k) fun m hm => H m (List.mem_of_mem_take hm)
  have h2 : (r.take k).length ≤ r.length := by rw [List.length_take]; omega
  unfold sumk; omega
theorem row_le {L : List (List Nat)} {n : Nat} (H : LevOk L n) : ∀ {d i : Nat}, i + d + 1 = L.length → (L.getD i []).length ≤ n
  | 0, i, h => by
    have e : i = L.length - 1 := by omega
    rw [e]
    have a := (H.at_ (L.length - 1) (by omega)).2
    have b := sum_low (m := 1) fun m hm => (a m hm).1
    rw [H.sum] at b; omega
  | d + 1, i, h => by
    have a := row_le H (d := d) (i := i + 1) (by omega)
    have b := H.grows i (by omega)
    split at b <;> omega
theorem row_len {L : List (List Nat)} {n i : Nat} (H : LevOk L n) (hi : i < L.length) (hn : n ≤ 700000) : (L.getD i []).length ≤ 700000 := by
  have := row_le H (d := L.length - i - 1) (i := i) (by omega); omega
end
end Go.Bt

/- Walks, written by a program: what each function of the translation hands back. -/
namespace Go.Proofs.Ytcpfdfejojghbaa
open Go.Gx Go.RowKit
attribute [local irreducible] wpList wpStill Code.wp Calls
open Go.Bt
theorem newLI {w : World} : Ret Try.prog 22 #[] w (fun v' w' => Below w.heap.size w w' ∧ ∃ p F, v' = ptr p 0 ∧ TopL kI 71 w.heap.size w' p [] F) := (newI).mono fun v' w' h => by
  obtain ⟨E, p, e, T⟩ := h
  exact ⟨E, p, _, e, none, T, rfl⟩
theorem putLsI {M : List (Ky × (Int))} {k : List UInt8} {xv : Value} {x : Int} {F : Nat → Prop} {p base L B : Nat} {w : World} (hT : TopL kI 71 base w p M F) (hb : base ≤ w.heap.size) (hk : RdC w L B 1 xv k.length (k.map u8v)) (hB : B ≤ w.heap.size) (hap : ∀ j, F j → j < L ∨ B ≤ j) (hkn : k.length ≤ 1000000000) :
    Ret Try.prog 23 #[ptr p 0, xv, (Value.int .i64 x)] w (fun v' w' => Gr w w' F ∧ v' = .bool ((ks1 M).contains k) ∧ ∃ F', TopL kI 71 base w' p (putL k x M) F' ∧ NewF w.heap.size F F') := by
  obtain ⟨o, T, rfl⟩ := hT
  refine (putTopI T hb hk hB hap hkn).mono fun v' w' h => ?_
  obtain ⟨E, e, F', T', N⟩ := h
  exact ⟨E, e.trans (congrArg Value.bool (put_was T.2.2.1)), F', ⟨_, T', put_toL T.2.2.1⟩, N⟩
theorem scanLsI {M : List (Ky × (Int))} {F : Nat → Prop} {x : List UInt8} {xv : Value} {p base : Nat} {m : Int} {w : World} (hT : TopL kI 71 base w p M F) (hkl : ∀ q ∈ M, q.1.length ≤ 1000000000) (hxr : RdC w 0 w.heap.size 1 xv x.length (x.map u8v)) (hm : m ≤ 9223372036854775807) (hDM : M.length ≤ 100000) : Ret Try.prog 24 #[ptr p 0, xv, .int .i64 m] w (fun v' w' => Below w.heap.size w w' ∧ ∃ D2 : List (DP (Int)), Own w' w.heap.size 51 2 v' D2.length (D2.flatMap cI) ∧ (∀ x9 ∈ D2.map pk, Own w' w.heap.size 5 1 x9.1 x9.2.length (x9.2.map u8v)) ∧ D2.map Prod.snd = (geL x M).take m.toNat ∧ (D2.map pk).Pairwise (fun a b => Dj (Bl a.1) (Bl b.1))) := by
  obtain ⟨o, T, rfl⟩ := hT
  exact scanTopI T hkl hxr hm hDM
theorem lenLsI {M : List (Ky × (Int))} {F : Nat → Prop} {p base : Nat} {w : World} (hT : TopL kI 71 base w p M F) (hDM : M.length ≤ 100000) : Ret Try.prog 25 #[ptr p 0] w (fun v' w' => Below w.heap.size w w' ∧ v' = .int .i64 (M.length : Int)) := by
  obtain ⟨o, T, rfl⟩ := hT
  exact lenTopI T hDM
theorem levLsI {M : List (Ky × (Int))} {F : Nat → Prop} {p base : Nat} {w : World} (hT : TopL kI 71 base w p M F) (hDM : M.length ≤ 100000) : Ret Try.prog 33 #[ptr p 0] w (fun v' w' => Below w.heap.size w w' ∧ ∃ (LL : List (Value × List Int)) (LV : List (List Nat)), Own w' w.heap.size 30 1 v' LL.length (LL.flatMap (fun x9 => [x9.1])) ∧ (∀ x9 ∈ LL, Own w' w.heap.size 3 1 x9.1 x9.2.length (x9.2.map (Value.int .i64))) ∧ LL.map Prod.snd = LV.map (fun l => l.map Int.ofNat) ∧ LevOk LV M.length) := by
  obtain ⟨o, T, rfl⟩ := hT
  refine (levelsTopI T hDM).mono fun v' w' h => ?_
  obtain ⟨E, LL, h1, h2, h3⟩ := h
  exact ⟨E, LL, _, h1, h2, h3, lev_ok T.2.2.1⟩
theorem dropLs {M : List (Ky × Int)} {k : List UInt8} {xv : Value} {F : Nat → Prop} {p base : Nat} {w : World} (hT : TopL kI 71 base w p M F) (hb : base ≤ w.heap.size) (hxr : RdC w 0 w.heap.size 1 xv k.length (k.map u8v)) :
    Ret Try.prog 28 #[ptr p 0, xv] w (fun v' w' => Gr w w' F ∧ v' = .bool ((ks1 M).contains k) ∧ ∃ F', TopL kI 71 base w' p (dropL k M) F' ∧ NewF w.heap.size F F') := by
  obtain ⟨o, T, rfl⟩ := hT
  refine (dropTop T hb hxr).mono fun v' w' h => ?_
  obtain ⟨E, e, F', T', N⟩ := h
  exact ⟨E, e.trans (congrArg Value.bool (drop_was T.2.2.1)), F', ⟨_, T', drop_toL T.2.2.1⟩, N⟩
end Go.Proofs.Ytcpfdfejojghbaa

/- Walks, written by a program: what each function of the translation hands back. -/
namespace Go.Proofs.Ytcpfdfejojghbaa
open Go.Gx Go.RowKit
attribute [local irreducible] wpList wpStill Code.wp Calls
open Go.Bt
theorem getLsI {M : List (Ky × (Int))} {F : Nat → Prop} {x : List UInt8} {xv : Value} {p base : Nat} {w : World} (hT : TopL kI 71 base w p M F) (hkl : ∀ q ∈ M, q.1.length ≤ 1000000000) (hxr : RdC w 0 w.heap.size 1 xv x.length (x.map u8v)) (hDM : M.length ≤ 100000) : Ret Try.prog 30 #[(ptr p 0), xv] w (fun v' w' => Below w.heap.size w w' ∧ v' = .tuple #[.int .i64 ((getL x M).getD 0), .bool (getL x M).isSome]) := by
 have hb := Below.refl w.heap.size w
 refine enter (N := 28) Try.func30 rfl rfl (by simp) fun a0 hN hd hA => ?_
 have s0 : a0.tmps.getD 0 undef = (ptr p 0) := hA 0 (by simp)
 have s1 : a0.tmps.getD 1 undef = xv := hA 1 (by simp)
 clear hA
 refine seq_any fun K1 hK1 => ?_
 refine one_reg ?_
 refine op_assign rfl ?_
 refine op_assign rfl ?_
 refine reg_nil ?_
 refine hK1 _ _ ?_
 refine seq_any fun K2 hK2 => ?_
 refine one_reg ?_
 refine op_assign rfl ?_
 refine reg_nil ?_
 refine hK2 _ _ ?_
 refine seq_any fun K3 hK3 => ?_
 refine one_reg ?_
 refine op_move (ev_base hN rfl s0) ?_
 refine op_move (ev_base hN rfl s1) ?_
 refine op_fn (vs := [(ptr p 0), xv, (Value.int .i64 1)]) ok24 ⟨(ev_hit hN rfl), ⟨(ev_hit hN rfl), ⟨rfl, trivial⟩⟩⟩ (scanLsI (m := 1) (x := x) hT hkl (hxr.mono (Nat.zero_le _) (by omega)) (by omega) hDM) ?_
 rintro v4 w5 ⟨E6, D4, hO4, hks4, hE4, hpw4⟩
 have dj7 : Dj F (Bl v4) := Dj.fresh (fun k hk => (hT.lt k hk).2) (fun k hk => (hO4.lt k hk).1)
 have E6 := grown_of_below E6
 have z_w5 := E6.size
 have hT := hT.keepG (Gr.of0 E6 NoB) (fun _ _ h => h)
 have hxr := hxr.keep0 E6
 have hb := below_step0 hb E6 hb.size
 have hO4 := hO4.mono (base' := w.heap.size) (by omega)
 have hks4 : ∀ x9 ∈ (D4.map pk), Own w5 w.heap.size 5 1 x9.1 x9.2.length (x9.2.map u8v) := fun x9 h9 => (hks4 x9 h9).mono (by omega)
 refine op_assign (ev_hit hN rfl) ?_
 refine reg_nil ?_
 refine hK3 _ _ ?_
 refine seq_any fun K8 hK8 => ?_
 refine seq_any fun K9 hK9 => ?_
 refine one_reg ?_
 refine op_move (ev_hit hN rfl) ?_
 refine op_len_rd Try.underlying48 (ev_hit hN rfl) hO4.rdw ?_
 refine op_eql (ev_hit hN rfl) rfl (fun c13 => ?_) (fun c13 => ?_)
 · -- 13T
  refine op_move (ev_hit hN rfl) ?_
  refine g_false (j := 3) (dj := 14) (b := false) rfl rfl rfl (ev_hit hN rfl) rfl rfl ?_
  refine g_false (j := 3) (dj := 14) (b := false) rfl rfl rfl (ev_hit hN rfl) rfl rfl ?_
  refine g_false (j := 3) (dj := 14) (b := false) rfl rfl rfl (ev_hit hN rfl) rfl rfl ?_
  refine g_false (j := 3) (dj := 14) (b := false) rfl rfl rfl (ev_hit hN rfl) rfl rfl ?_
  refine g_false (j := 3) (dj := 14) (b := false) rfl rfl rfl (ev_hit hN rfl) rfl rfl ?_
  refine g_false (j := 3) (dj := 14) (b := false) rfl rfl rfl (ev_hit hN rfl) rfl rfl ?_
  refine g_false (j := 3) (dj := 14) (b := false) rfl rfl rfl (ev_hit hN rfl) rfl rfl ?_
  refine op_pick_t (ev_hit hN rfl) rfl ?_
  refine reg_nil ?_
  refine hK9 _ _ ?_
  refine wp_cond_true (ev_hit hN rfl) ?_
  refine seq_any fun K10 hK10 => ?_
  refine one_reg ?_
  refine op_move (ev_hit hN rfl) ?_
  refine op_assign (ev_hit hN rfl) ?_
  refine op_assign rfl ?_
  refine reg_nil ?_
  refine hK10 _ _ ?_
  refine wp_ret (then_ret ( ?_))
  refine ret2 rfl hd (ev_hit hN rfl) (ev_hit hN rfl) ⟨_, rfl, ?_⟩
  -- path 13T
  have hE1 : (geL x M).take 1 = D4.map Prod.snd := hE4.symm
  have hD0 : D4 = [] := List.eq_nil_of_length_eq_zero (by omega)
  rw [hD0] at hE1
  rw [getL_miss0 hE1]
  exact ⟨hb, rfl⟩
 · -- 13F
  refine op_move (ev_hit hN rfl) ?_
  refine g_true (j := 3) (dj := 14) (b := false) rfl rfl rfl (ev_hit hN rfl) ?_
  refine op_move (ev_hit hN rfl) ?_
  refine g_true (j := 3) (dj := 14) (b := false) rfl rfl rfl (ev_hit hN rfl) ?_
  refine op_index_rd slt48 (ev_hit hN rfl) hO4.rdw rfl (by omega) (by omega) ?_
  intro b11 o12 h0b11 h1b11 hc13
  refine g_true (j := 3) (dj := 14) (b := false) rfl rfl rfl (ev_hit hN rfl) ?_
  refine op_field fld51_0 (ev_hit hN rfl) ?_
  refine g_true (j := 3) (dj := 14) (b := false) rfl rfl rfl (ev_hit hN rfl) ?_
  refine op_load1 (v := (D4.getD 0 default).1) one27 (ev_hit hN rfl) (hc13 0 ((D4.getD 0 default).1) (by decide) ((el_pI (i := 0) (by omega) (by first | omega | (simp only [List.length_drop, List.length_take]; omega))) 0 ((D4.getD 0 default).1) rfl)) ?_
  refine g_true (j := 3) (dj := 14) (b := false) rfl rfl rfl (ev_hit hN rfl) ?_
  refine op_move (ev_base hN rfl s1) ?_
  refine g_true (j := 3) (dj := 14) (b := false) rfl rfl rfl (ev_hit hN rfl) ?_
  refine op_fn (vs := [(D4.getD 0 default).1, xv]) ok45 ⟨(ev_hit hN rfl), ⟨(ev_hit hN rfl), trivial⟩⟩ (eqK ((show Own _ _ _ _ (D4.getD 0 default).1 (D4.getD 0 default).2.1.length ((D4.getD 0 default).2.1.map u8v) from hks4 (pk (D4.getD 0 default)) (List.mem_map.2 ⟨(D4.getD 0 default), (getD_mem (by first | omega | (simp only [List.length_drop, List.length_take]; omega))), rfl⟩)).rdw.mono (Nat.zero_le _) (by omega)) (hxr.mono (Nat.zero_le _) (by omega))) ?_
  rintro _ w14 ⟨E15, rfl⟩
  have E15 := grown_of_below E15
  have z_w14 := E15.size
  have hT := hT.keepG (Gr.of0 E15 NoB) (fun _ _ h => h)
  have hxr := hxr.keep0 E15
  have hO4 := hO4.keep0 E15
  have hks4 : ∀ x9 ∈ (D4.map pk), Own w14 w.heap.size 5 1 x9.1 x9.2.length (x9.2.map u8v) := fun x9 hx9 => (hks4 x9 hx9).keep0 E15
  have hb := below_step0 hb E15 hb.size
  rcases Bool.eq_false_or_eq_true ((decide ((D4.getD 0 default).2.1 = x))) with c20 | c20
  · -- 20T
   rw [c20]
   refine g_true (j := 3) (dj := 14) (b := false) rfl rfl rfl (ev_hit hN rfl) ?_
   refine op_not (ev_hit hN rfl) ?_
   refine op_pick_f (ev_hit hN rfl) (ev_hit hN rfl) ?_
   refine reg_nil ?_
   refine hK9 _ _ ?_
   refine wp_cond_false (ev_hit hN rfl) ?_
   refine wp_skip ?_
   refine hK8 _ _ ?_
   refine seq_any fun K16 hK16 => ?_
   refine one_reg ?_
   refine op_move (ev_hit hN rfl) ?_
   refine op_index_rd slt48 (ev_hit hN rfl) hO4.rdw rfl (by omega) (by omega) ?_
   intro b17 o18 h0b17 h1b17 hc19
   refine op_field fld51_1 (ev_hit hN rfl) ?_
   refine op_load1 (v := (Value.int .i64 (D4.getD 0 default).2.2)) one3 (ev_hit hN rfl) (hc19 1 ((Value.int .i64 (D4.getD 0 default).2.2)) (by decide) ((el_pI (i := 0) (by omega) (by first | omega | (simp only [List.length_drop, List.length_take]; omega))) 1 ((Value.int .i64 (D4.getD 0 default).2.2)) rfl)) ?_
   refine op_assign (ev_hit hN rfl) ?_
   refine op_assign rfl ?_
   refine reg_nil ?_
   refine hK16 _ _ ?_
   refine wp_ret ?_
   refine ret2 rfl hd (ev_hit hN rfl) (ev_hit hN rfl) ⟨_, rfl, ?_⟩
   -- path 13F 20T
   have hE1 : (geL x M).take 1 = D4.map Prod.snd := hE4.symm
   rw [show D4 = D4.getD 0 default :: D4.tail from cons9 (by omega), List.map_cons] at hE1
   rw [getL_hit hT.sorted hE1 (of_decide_eq_true c20)]
   exact ⟨hb, rfl⟩
  · -- 20F
   rw [c20]
   refine g_true (j := 3) (dj := 14) (b := false) rfl rfl rfl (ev_hit hN rfl) ?_
   refine op_not (ev_hit hN rfl) ?_
   refine op_pick_f (ev_hit hN rfl) (ev_hit hN rfl) ?_
   refine reg_nil ?_
   refine hK9 _ _ ?_
   refine wp_cond_true (ev_hit hN rfl) ?_
   refine seq_any fun K20 hK20 => ?_
   refine one_reg ?_
   refine op_move (ev_hit hN rfl) ?_
   refine op_assign (ev_hit hN rfl) ?_
   refine op_assign rfl ?_
   refine reg_nil ?_
   refine hK20 _ _ ?_
   refine wp_ret (then_ret ( ?_))
   refine ret2 rfl hd (ev_hit hN rfl) (ev_hit hN rfl) ⟨_, rfl, ?_⟩
   -- path 13F 20F
   have hE1 : (geL x M).take 1 = D4.map Prod.snd := hE4.symm
   rw [show D4 = D4.getD 0 default :: D4.tail from cons9 (by omega), List.map_cons] at hE1
   rw [getL_miss1 hT.sorted hE1 (of_decide_eq_false c20)]
   exact ⟨hb, rfl⟩

end Go.Proofs.Ytcpfdfejojghbaa

/- The list that laws keep beside a tree: keys and values, rising. -/
namespace Go.Gx
open Go.Bt Go.RowKit
section
variable {w w' : World} {base p n : Nat} {M : List (Ky × Int)} {F H : Nat → Prop} {k : Ky} {v : Int}
def PairsR (base : Nat) (w : World) (p : Nat) (M : List (Ky × Int)) (F : Nat → Prop) : Prop :=
  ∃ kv vv, Bx w p 58 [kv, vv] ∧ Own w base 9 1 kv (M.map Prod.fst).length ((M.map Prod.fst).map sv) ∧ Own w base 3 1 vv (M.map Prod.snd).length ((M.map Prod.snd).map (Value.int .i64)) ∧ base ≤ p ∧ ∀ k, F k ↔ k = p ∨ Bl kv k ∨ Bl vv k
theorem PairsR.lt (T : PairsR base w p M F) : ∀ k, F k → base ≤ k ∧ k < w.heap.size := fun k hk => by
  obtain ⟨kv, vv, hB, h1, h2, hp, hF⟩ := T
  rcases (hF k).1 hk with rfl | hk | hk
  · exact ⟨hp, hB.lt⟩
  · exact h1.lt k hk
  · exact h2.lt k hk
theorem PairsR.keepG (T : PairsR base w p M F) (E : Gr w w' H) (hd : Dj F H) : PairsR base w' p M F := by
  obtain ⟨kv, vv, hB, h1, h2, hp, hF⟩ := T
  exact ⟨kv, vv, hB.keepG E (hd p ((hF p).2 (.inl rfl))), h1.keepG E (fun k h => hd k ((hF k).2 (.inr (.inl h)))), h2.keepG E (fun k h => hd k ((hF k).2 (.inr (.inr h)))), hp, hF⟩
theorem dropL_no (hc : (ks1 M).contains k = false) (H : SortedL M) : Go.Bt.dropL k M = M := by
  rw [dropL_pos H, hc]
  exact List.take_append_drop _ _
end
end Go.Gx
namespace Go.Gx
end Go.Gx
namespace Go.Gx
theorem getD_mem9 {α : Type} {l : List α} {i : Nat} {d : α} (h : i < l.length) : l.getD i d ∈ l := by
  rw [List.getD_eq_getElem?_getD, List.getElem?_eq_getElem h]; exact List.getElem_mem h
end Go.Gx
namespace Go.Gx
open Go.Bt Go.RowKit
section
variable {D : List (DP Int)} {M : List (Ky × Int)} {i k n : Nat}
end
end Go.Gx
namespace Go.Gx
open Go.Bt Go.RowKit
section
variable {V : Type} {κ : Kd V} {w : World} {F : Nat → Prop} {b base base' p tT e sz n : Nat} {M : List (Ky × V)} {v : Value} {cs : List Value}
theorem hapB (h : ¬ F b) : ∀ j, F j → j < b ∨ b + 1 ≤ j := fun j hj => by
  rcases Nat.lt_trichotomy j b with q | q | q
  · exact .inl q
  · subst q; exact absurd hj h
  · exact .inr q
theorem own_at (O : Own w base e sz v n cs) (hd : Dj (Bl v) F) : ∃ L B, RdC w L B sz v n cs ∧ B ≤ w.heap.size ∧ ∀ j, F j → j < L ∨ B ≤ j := by
  rcases hv : v.ownBlock with _ | b
  · refine ⟨w.heap.size, 0, ?_, Nat.zero_le _, fun j _ => .inr (Nat.zero_le _)⟩
    rcases O.2 with ⟨rfl, _⟩ | ⟨g, off, cap, cur, fr, rfl, _⟩
    · have hn : n = 0 := by rcases O with ⟨_, ⟨_, h⟩ | ⟨g, off, cap, cur, fr, h, _⟩⟩; exact h; cases h
      have hc : cs = [] := List.eq_nil_of_length_eq_zero (by rw [O.1, hn, Nat.zero_mul])
      subst hn; subst hc; exact RdC.nil _ _ _ _
    · cases hv
  · have h1 := O.rebase (base' := b) (fun k hk => by rw [hv] at hk; injection hk with hk; omega)
    refine ⟨b, b + 1, h1.rd (fun k hk => by rw [hv] at hk; injection hk with hk; omega), (O.lt b hv).2, hapB fun hf => hd b hv hf⟩
theorem TopL.rebase (T : TopL κ tT base w p M F) (h : base' ≤ base) : TopL κ tT base' w p M F := by
  obtain ⟨o, ⟨h1, h2, h3, h4⟩, e⟩ := T
  exact ⟨o, ⟨h1, fun k hk => ⟨Nat.le_trans h (h2 k hk).1, (h2 k hk).2⟩, h3, h4⟩, e⟩
end
end Go.Gx
namespace Go.Bt
theorem one_sum {r : List Nat} {n : Nat} (h : r.length = 1) (hs : r.sum = n) : r.getD 0 0 = n := by
  match r, h with
  | [a], _ => simpa using hs
end Go.Bt

/- Walks, written by a program: what each function of the translation hands back. -/
namespace Go.Proofs.Ytcpfdfejojghbaa
open Go.Gx Go.RowKit
attribute [local irreducible] wpList wpStill Code.wp Calls
open Go.Bt
end Go.Proofs.Ytcpfdfejojghbaa

/- Walks, written by a program: what each function of the translation hands back. -/
namespace Go.Proofs.Ytcpfdfejojghbaa
open Go.Gx Go.RowKit
attribute [local irreducible] wpList wpStill Code.wp Calls
open Go.Bt
end Go.Proofs.Ytcpfdfejojghbaa

/- Walks, written by a program: what each function of the translation hands back. -/
namespace Go.Proofs.Ytcpfdfejojghbaa
open Go.Gx Go.RowKit
attribute [local irreducible] wpList wpStill Code.wp Calls
open Go.Bt
end Go.Proofs.Ytcpfdfejojghbaa

/- Walks, written by a program: what each function of the translation hands back. -/
namespace Go.Proofs.Ytcpfdfejojghbaa
open Go.Gx Go.RowKit
attribute [local irreducible] wpList wpStill Code.wp Calls
open Go.Bt
end Go.Proofs.Ytcpfdfejojghbaa

/- Walks, written by a program: what each function of the translation hands back. -/
namespace Go.Proofs.Ytcpfdfejojghbaa
open Go.Gx Go.RowKit
attribute [local irreducible] wpList wpStill Code.wp Calls
open Go.Bt
theorem shapeLs {M : List (Ky × Int)} {F : Nat → Prop} {p base : Nat} {w : World} (hT : TopL kI 71 base w p M F) (hDM : M.length ≤ 100000) : Ret Try.prog 26 #[(ptr p 0)] w (fun v' w' => Below w.heap.size w w' ∧ v' = .bool true) := by
 have hb := Below.refl w.heap.size w
 refine enter (N := 91) Try.func26 rfl rfl (by simp) fun a0 hN hd hA => ?_
 have s0 : a0.tmps.getD 0 undef = (ptr p 0) := hA 0 (by simp)
 clear hA
 refine seq_any fun K1 hK1 => ?_
 refine one_reg ?_
 refine op_assign rfl ?_
 refine reg_nil ?_
 refine hK1 _ _ ?_
 refine seq_any fun K2 hK2 => ?_
 refine one_reg ?_
 refine op_move (ev_base hN rfl s0) ?_
 refine op_fn (vs := [(ptr p 0)]) ok33 ⟨(ev_hit hN rfl), trivial⟩ (levLsI hT hDM) ?_
 rintro v3 w4 ⟨E5, LL3, LV3, hO3, hA3, hlev3, hLK3⟩
 have dj6 : Dj F (Bl v3) := Dj.fresh (fun k hk => (hT.lt k hk).2) (fun k hk => (hO3.lt k hk).1)
 have E5 := grown_of_below E5
 have z_w4 := E5.size
 have hT := hT.keepG (Gr.of0 E5 NoB) (fun _ _ h => h)
 have hb := below_step0 hb E5 hb.size
 have hLn3 := lev_len hlev3
 have hz3 := hLK3.zero
 have hle3 := hLK3.le
 have hO3 := hO3.mono (base' := w.heap.size) (by omega)
 have hA3 : ∀ x9 ∈ LL3, Own w4 w.heap.size 3 1 x9.1 x9.2.length (x9.2.map (Value.int .i64)) := fun x9 h9 => (hA3 x9 h9).mono (by omega)
 refine op_assign (ev_hit hN rfl) ?_
 refine reg_nil ?_
 refine hK2 _ _ ?_
 refine seq_any fun K7 hK7 => ?_
 refine seq_any fun K8 hK8 => ?_
 refine one_reg ?_
 refine op_move (ev_base hN rfl s0) ?_
 refine op_fn (vs := [(ptr p 0)]) ok25 ⟨(ev_hit hN rfl), trivial⟩ (lenLsI hT hDM) ?_
 rintro _ w9 ⟨E10, rfl⟩
 have E10 := grown_of_below E10
 have z_w9 := E10.size
 have hT := hT.keepG (Gr.of0 E10 NoB) (fun _ _ h => h)
 have hO3 := hO3.keep0 E10
 have hA3 : ∀ x9 ∈ LL3, Own w9 w.heap.size 3 1 x9.1 x9.2.length (x9.2.map (Value.int .i64)) := fun x9 hx9 => (hA3 x9 hx9).keep0 E10
 have hb := below_step0 hb E10 hb.size
 refine op_eql (ev_hit hN rfl) rfl (fun c15 => ?_) (fun c15 => ?_)
 · -- 15T
  refine reg_nil ?_
  refine hK8 _ _ ?_
  refine wp_cond_true (ev_hit hN rfl) ?_
  refine seq_any fun K11 hK11 => ?_
  refine one_reg ?_
  refine op_move (ev_hit hN rfl) ?_
  refine op_len_rd Try.underlying28 (ev_hit hN rfl) hO3.rdw ?_
  refine op_eql (ev_hit hN rfl) rfl (fun c18 => ?_) (fun c18 => ?_)
  · -- 18T
   refine op_assign (ev_hit hN rfl) ?_
   refine reg_nil ?_
   refine hK11 _ _ ?_
   refine wp_ret (then_ret ( ?_))
   refine ret1 rfl hd (ev_hit hN rfl) ⟨_, rfl, ?_⟩
   -- path 15T 18T
   exact ⟨hb, rfl⟩
  · -- 18F
   exfalso; omega
 · -- 15F
  refine reg_nil ?_
  refine hK8 _ _ ?_
  refine wp_cond_false (ev_hit hN rfl) ?_
  refine wp_skip ?_
  refine hK7 _ _ ?_
  refine seq_any fun K12 hK12 => ?_
  refine one_reg ?_
  refine op_assign rfl ?_
  refine reg_nil ?_
  refine hK12 _ _ ?_
  refine seq_any fun K13 hK13 => ?_
  refine seq_any fun K14 hK14 => ?_
  refine one_reg ?_
  refine op_assign rfl ?_
  refine reg_nil ?_
  refine hK14 _ _ ?_
  refine wp_block ?_
  refine loop_m (fun mz_ az_ w' => ∃ (i : Nat), mz_ = LL3.length - i ∧ (az_.tmps.getD 0 undef = (ptr p 0)) ∧ (az_.tmps.getD 3 undef = v3) ∧ (az_.tmps.getD 5 undef = (Value.int .i64 ((i : Nat) : Int))) ∧ (az_.tmps.getD 4 undef = (Value.int .i64 (((wantL LV3 i) : Nat) : Int))) ∧ (i ≤ LL3.length) ∧ (Below w.heap.size w w') ∧ (w9.heap.size ≤ w'.heap.size) ∧ (TopL kI 71 base w' p M F) ∧ (Own w' w.heap.size 30 1 v3 LL3.length (LL3.flatMap (fun x9 => [x9.1]))) ∧ (∀ x9 ∈ LL3, Own w' w.heap.size 3 1 x9.1 x9.2.length (x9.2.map (Value.int .i64)))) _ hN hd ⟨0, rfl, (sl_base hN rfl s0), (sl_hit hN rfl), (sl_hit hN rfl), (sl_hit hN rfl), (Nat.zero_le _), hb, (Nat.le_refl _), hT, hO3, hA3⟩ ?_
  rintro _ a15 w15 hN15 hd15 ⟨i, rfl, s15_0, s15_3, s15_5, s15_4, hi, hb, zl_w15, hT, hO3, hA3⟩
  have z_w15 := hb.size
  refine seq_any fun K16 hK16 => ?_
  refine seq_any fun K17 hK17 => ?_
  refine one_reg ?_
  refine op_move (ev_base hN15 rfl s15_5) ?_
  refine op_move (ev_base hN15 rfl s15_3) ?_
  refine op_len_rd Try.underlying28 (ev_hit hN15 rfl) hO3.rdw ?_
  refine op_lss (ev_hit hN15 rfl) (ev_hit hN15 rfl) (fun c22 => ?_) (fun c22 => ?_)
  · -- 22T
   refine reg_nil ?_
   refine hK17 _ _ ?_
   refine wp_cond_true (ev_hit hN15 rfl) ?_
   refine wp_skip ?_
   refine hK16 _ _ ?_
   refine seq_any fun K18 hK18 => ?_
   refine wp_block ?_
   refine seq_any fun K19 hK19 => ?_
   refine seq_any fun K20 hK20 => ?_
   refine one_reg ?_
   have hat := lev_at hlev3 i
   have hw := (hLK3.at_ i (by omega)).1
   have hlen9 : (LL3.getD i default).2.length = (LV3.getD i []).length := by rw [hat, List.length_map]
   have hall := (hLK3.at_ i (by omega)).2
   have hwle : (LV3.getD i []).length ≤ 700000 := row_len hLK3 (by omega) (by omega)
   refine op_move (ev_base hN15 rfl s15_3) ?_
   refine op_move (ev_base hN15 rfl s15_5) ?_
   refine op_index_rd slt28 (ev_hit hN15 rfl) hO3.rdw (ev_hit hN15 rfl) (by omega) (by omega) ?_
   intro b21 o22 h0b21 h1b21 hc23
   have hs24 : Own w15 w.heap.size 3 1 (LL3.getD i default).1 (LL3.getD i default).2.length ((LL3.getD i default).2.map (Value.int .i64)) := hA3 _ (getD_mem (by omega))
   refine op_load1 (v := (LL3.getD i default).1) one30 (ev_hit hN15 rfl) (by have := hc23 0 (LL3.getD i default).1 (by decide) (el_ll (i := i) (d := default) (by omega) (by omega)); simpa using this) ?_
   refine op_len_rd Try.underlying30 (ev_hit hN15 rfl) hs24.rdw ?_
   refine op_move (ev_base hN15 rfl s15_4) ?_
   refine op_neq (ev_hit hN15 rfl) (ev_hit hN15 rfl) (fun c31 => ?_) (fun c31 => ?_)
   · -- 31T
    exfalso; omega
   · -- 31F
    refine reg_nil ?_
    refine hK20 _ _ ?_
    refine wp_cond_false (ev_hit hN15 rfl) ?_
    refine wp_skip ?_
    refine hK19 _ _ ?_
    refine seq_any fun K25 hK25 => ?_
    refine one_reg ?_
    refine op_assign rfl ?_
    refine reg_nil ?_
    refine hK25 _ _ ?_
    refine seq_any fun K26 hK26 => ?_
    refine one_reg ?_
    refine op_assign rfl ?_
    refine reg_nil ?_
    refine hK26 _ _ ?_
    refine wp_block ?_
    refine loop_m (fun mz_ az_ w' => ∃ (k : Nat), mz_ = (LV3.getD i []).length - k ∧ (az_.tmps.getD 0 undef = (ptr p 0)) ∧ (az_.tmps.getD 3 undef = v3) ∧ (az_.tmps.getD 5 undef = (Value.int .i64 ((i : Nat) : Int))) ∧ (az_.tmps.getD 6 undef = (Value.int .i64 ((k : Nat) : Int))) ∧ (az_.tmps.getD 4 undef = (Value.int .i64 (((sumk (LV3.getD i []) k) : Nat) : Int))) ∧ (k ≤ (LV3.getD i []).length) ∧ (Below w.heap.size w w') ∧ (w15.heap.size ≤ w'.heap.size) ∧ (TopL kI 71 base w' p M F) ∧ (Own w' w.heap.size 30 1 v3 LL3.length (LL3.flatMap (fun x9 => [x9.1]))) ∧ (∀ x9 ∈ LL3, Own w' w.heap.size 3 1 x9.1 x9.2.length (x9.2.map (Value.int .i64)))) _ hN15 hd15 ⟨0, rfl, (sl_base hN15 rfl s15_0), (sl_base hN15 rfl s15_3), (sl_base hN15 rfl s15_5), (sl_hit hN15 rfl), (sl_hit hN15 rfl), (Nat.zero_le _), hb, (Nat.le_refl _), hT, hO3, hA3⟩ ?_
    rintro _ a27 w27 hN27 hd27 ⟨k, rfl, s27_0, s27_3, s27_5, s27_6, s27_4, hk, hb, zl_w27, hT, hO3, hA3⟩
    have z_w27 := hb.size
    refine seq_any fun K28 hK28 => ?_
    refine seq_any fun K29 hK29 => ?_
    refine one_reg ?_
    refine op_move (ev_base hN27 rfl s27_6) ?_
    refine op_move (ev_base hN27 rfl s27_3) ?_
    refine op_move (ev_base hN27 rfl s27_5) ?_
    refine op_index_rd slt28 (ev_hit hN27 rfl) hO3.rdw (ev_hit hN27 rfl) (by omega) (by omega) ?_
    intro b30 o31 h0b30 h1b30 hc32
    have hs33 : Own w27 w.heap.size 3 1 (LL3.getD i default).1 (LL3.getD i default).2.length ((LL3.getD i default).2.map (Value.int .i64)) := hA3 _ (getD_mem (by omega))
    refine op_load1 (v := (LL3.getD i default).1) one30 (ev_hit hN27 rfl) (by have := hc32 0 (LL3.getD i default).1 (by decide) (el_ll (i := i) (d := default) (by omega) (by omega)); simpa using this) ?_
    refine op_len_rd Try.underlying30 (ev_hit hN27 rfl) hs33.rdw ?_
    refine op_lss (ev_hit hN27 rfl) (ev_hit hN27 rfl) (fun c38 => ?_) (fun c38 => ?_)
    · -- 38T
     refine reg_nil ?_
     refine hK29 _ _ ?_
     refine wp_cond_true (ev_hit hN27 rfl) ?_
     refine wp_skip ?_
     refine hK28 _ _ ?_
     refine seq_any fun K34 hK34 => ?_
     refine wp_block ?_
     refine seq_any fun K35 hK35 => ?_
     refine one_reg ?_
     have hnk : (LL3.getD i default).2.getD k 0 = (((LV3.getD i []).getD k 0 : Nat) : Int) := by rw [hat]; exact ints_at
     have hm := hall _ (getD_mem9 (d := 0) (show k < (LV3.getD i []).length by omega))
     have hX := sumk_le (k := k) fun m h => (hall m h).2.1
     refine op_move (ev_base hN27 rfl s27_3) ?_
     refine op_move (ev_base hN27 rfl s27_5) ?_
     refine op_index_rd slt28 (ev_hit hN27 rfl) hO3.rdw (ev_hit hN27 rfl) (by omega) (by omega) ?_
     intro b36 o37 h0b36 h1b36 hc38
     refine op_load1 (v := (LL3.getD i default).1) one30 (ev_hit hN27 rfl) (by have := hc38 0 (LL3.getD i default).1 (by decide) (el_ll (i := i) (d := default) (by omega) (by omega)); simpa using this) ?_
     refine op_move (ev_base hN27 rfl s27_6) ?_
     refine op_index_rd slt30 (ev_hit hN27 rfl) hs33.rdw (ev_hit hN27 rfl) (by omega) (by omega) ?_
     intro b40 o41 h0b40 h1b40 hc42
     refine op_load1 (v := (Value.int .i64 ((LL3.getD i default).2.getD k 0))) one3 (ev_hit hN27 rfl) (by have := hc42 0 (Value.int .i64 ((LL3.getD i default).2.getD k 0)) (by decide) (el_i64 (i := k) (by omega) (by omega)); simpa using this) ?_
     refine op_assign (ev_hit hN27 rfl) ?_
     refine reg_nil ?_
     refine hK35 _ _ ?_
     refine seq_any fun K43 hK43 => ?_
     refine seq_any fun K44 hK44 => ?_
     refine one_reg ?_
     refine op_move (ev_hit hN27 rfl) ?_
     refine op_gtr (ev_hit hN27 rfl) rfl (fun c49 => ?_) (fun c49 => ?_)
     · -- 49T
      exfalso; omega
     · -- 49F
      refine op_move (ev_hit hN27 rfl) ?_
      refine g_true (j := 2) (dj := 50) (b := false) rfl rfl rfl (ev_hit hN27 rfl) ?_
      refine op_move (ev_hit hN27 rfl) ?_
      refine g_true (j := 2) (dj := 50) (b := false) rfl rfl rfl (ev_hit hN27 rfl) ?_
      refine op_lss (ev_hit hN27 rfl) rfl (fun c52 => ?_) (fun c52 => ?_)
      · -- 52T
       exfalso; omega
      · -- 52F
       refine op_pick_f (ev_hit hN27 rfl) (ev_hit hN27 rfl) ?_
       refine op_move (ev_hit hN27 rfl) ?_
       refine g_true (j := 6) (dj := 54) (b := false) rfl rfl rfl (ev_hit hN27 rfl) ?_
       refine op_move (ev_base hN27 rfl s27_5) ?_
       refine g_true (j := 6) (dj := 54) (b := false) rfl rfl rfl (ev_hit hN27 rfl) ?_
       refine op_gtr (ev_hit hN27 rfl) rfl (fun c56 => ?_) (fun c56 => ?_)
       · -- 56T
        refine g_true (j := 6) (dj := 54) (b := false) rfl rfl rfl (ev_hit hN27 rfl) ?_
        refine op_move (ev_hit hN27 rfl) ?_
        refine g_true (j := 9) (dj := 57) (b := true) rfl rfl rfl (ev_hit hN27 rfl) ?_
        refine op_move (ev_hit hN27 rfl) ?_
        refine g_true (j := 9) (dj := 57) (b := true) rfl rfl rfl (ev_hit hN27 rfl) ?_
        refine op_lss (ev_hit hN27 rfl) rfl (fun c59 => ?_) (fun c59 => ?_)
        · -- 59T
         exfalso; have := hm.2.2 (by omega); omega
        · -- 59F
         refine g_true (j := 6) (dj := 54) (b := false) rfl rfl rfl (ev_hit hN27 rfl) ?_
         refine op_pick_t (ev_hit hN27 rfl) (ev_hit hN27 rfl) ?_
         refine op_pick_f (ev_hit hN27 rfl) (ev_hit hN27 rfl) ?_
         refine reg_nil ?_
         refine hK44 _ _ ?_
         refine wp_cond_false (ev_hit hN27 rfl) ?_
         refine wp_skip ?_
         refine hK43 _ _ ?_
         refine one_reg ?_
         refine op_move (ev_base hN27 rfl s27_4) ?_
         refine op_move (ev_hit hN27 rfl) ?_
         refine op_add (r := (((sumk (LV3.getD i []) k) + (LV3.getD i []).getD k 0 : Nat) : Int)) (ev_hit hN27 rfl) (ev_hit hN27 rfl) (by rw [hnk]; exact (add64 (by omega)).trans (by omega)) ?_
         refine op_add (r := (((sumk (LV3.getD i []) k) + (LV3.getD i []).getD k 0 + 1 : Nat) : Int)) (ev_hit hN27 rfl) rfl ((add64 (by omega)).trans (by omega)) ?_
         refine op_assign (ev_hit hN27 rfl) ?_
         refine reg_nil ?_
         refine hK34 _ _ ?_
         refine one_reg ?_
         refine op_move (ev_base hN27 rfl s27_6) ?_
         refine op_add (ev_hit hN27 rfl) rfl (add64 (by omega)) ?_
         refine op_assign (ev_hit hN27 rfl) ?_
         refine reg_nil ?_
         -- round 15F 22T 31F 38T 49F 52F 56T 59F
         exact loop_next _ hN27 hd27 ⟨(k + 1), rfl, (sl_base hN27 rfl s27_0), (sl_base hN27 rfl s27_3), (sl_base hN27 rfl s27_5), (sl_hit hN27 rfl).trans (congrArg (Value.int .i64) (by omega)), (sl_hit hN27 rfl).trans (congrArg (Value.int .i64) (by rw [sumk_suc (by omega)]; omega)), (by omega), hb, (by omega), hT, hO3, hA3⟩ (by omega)
       · -- 56F
        refine g_true (j := 6) (dj := 54) (b := false) rfl rfl rfl (ev_hit hN27 rfl) ?_
        refine op_move (ev_hit hN27 rfl) ?_
        refine g_false (j := 9) (dj := 57) (b := true) rfl rfl rfl (ev_hit hN27 rfl) rfl rfl ?_
        refine g_false (j := 9) (dj := 57) (b := true) rfl rfl rfl (ev_hit hN27 rfl) rfl rfl ?_
        refine g_true (j := 6) (dj := 54) (b := false) rfl rfl rfl (ev_hit hN27 rfl) ?_
        refine op_pick_f (ev_hit hN27 rfl) rfl ?_
        refine op_pick_f (ev_hit hN27 rfl) (ev_hit hN27 rfl) ?_
        refine reg_nil ?_
        refine hK44 _ _ ?_
        refine wp_cond_false (ev_hit hN27 rfl) ?_
        refine wp_skip ?_
        refine hK43 _ _ ?_
        refine one_reg ?_
        refine op_move (ev_base hN27 rfl s27_4) ?_
        refine op_move (ev_hit hN27 rfl) ?_
        refine op_add (r := (((sumk (LV3.getD i []) k) + (LV3.getD i []).getD k 0 : Nat) : Int)) (ev_hit hN27 rfl) (ev_hit hN27 rfl) (by rw [hnk]; exact (add64 (by omega)).trans (by omega)) ?_
        refine op_add (r := (((sumk (LV3.getD i []) k) + (LV3.getD i []).getD k 0 + 1 : Nat) : Int)) (ev_hit hN27 rfl) rfl ((add64 (by omega)).trans (by omega)) ?_
        refine op_assign (ev_hit hN27 rfl) ?_
        refine reg_nil ?_
        refine hK34 _ _ ?_
        refine one_reg ?_
        refine op_move (ev_base hN27 rfl s27_6) ?_
        refine op_add (ev_hit hN27 rfl) rfl (add64 (by omega)) ?_
        refine op_assign (ev_hit hN27 rfl) ?_
        refine reg_nil ?_
        -- round 15F 22T 31F 38T 49F 52F 56F
        exact loop_next _ hN27 hd27 ⟨(k + 1), rfl, (sl_base hN27 rfl s27_0), (sl_base hN27 rfl s27_3), (sl_base hN27 rfl s27_5), (sl_hit hN27 rfl).trans (congrArg (Value.int .i64) (by omega)), (sl_hit hN27 rfl).trans (congrArg (Value.int .i64) (by rw [sumk_suc (by omega)]; omega)), (by omega), hb, (by omega), hT, hO3, hA3⟩ (by omega)
    · -- 38F
     refine reg_nil ?_
     refine hK29 _ _ ?_
     refine wp_cond_false (ev_hit hN27 rfl) ?_
     refine wp_exit (then_exit (then_exit (blk_hit ?_)))
     refine hK18 _ _ ?_
     refine one_reg ?_
     refine op_move (ev_base hN27 rfl s27_5) ?_
     refine op_add (ev_hit hN27 rfl) rfl (add64 (by omega)) ?_
     refine op_assign (ev_hit hN27 rfl) ?_
     refine reg_nil ?_
     -- round 15F 22T 31F 38F
     exact loop_next _ hN27 hd27 ⟨(i + 1), rfl, (sl_base hN27 rfl s27_0), (sl_base hN27 rfl s27_3), (sl_hit hN27 rfl).trans (congrArg (Value.int .i64) (by omega)), (sl_base hN27 rfl s27_4).trans (congrArg (Value.int .i64) (by rw [show k = (LV3.getD i []).length by omega, sumk_all]; rfl)), (by omega), hb, (by omega), hT, hO3, hA3⟩ (by omega)
  · -- 22F
   refine reg_nil ?_
   refine hK17 _ _ ?_
   refine wp_cond_false (ev_hit hN15 rfl) ?_
   refine wp_exit (then_exit (then_exit (blk_hit ?_)))
   refine hK13 _ _ ?_
   refine seq_any fun K45 hK45 => ?_
   refine one_reg ?_
   refine op_assign rfl ?_
   refine reg_nil ?_
   refine hK45 _ _ ?_
   refine seq_any fun K46 hK46 => ?_
   refine seq_any fun K47 hK47 => ?_
   refine one_reg ?_
   refine op_move (ev_base hN15 rfl s15_3) ?_
   refine op_len_rd Try.underlying28 (ev_hit hN15 rfl) hO3.rdw ?_
   refine op_eql (ev_hit hN15 rfl) rfl (fun c68 => ?_) (fun c68 => ?_)
   · -- 68T
    exfalso; omega
   · -- 68F
    refine reg_nil ?_
    refine hK47 _ _ ?_
    refine wp_cond_false (ev_hit hN15 rfl) ?_
    refine wp_skip ?_
    refine hK46 _ _ ?_
    refine seq_any fun K48 hK48 => ?_
    refine one_reg ?_
    have hLat := lev_at hlev3 (LL3.length - 1)
    have hsum := hLK3.sum
    rw [← hLn3] at hsum
    have hLl : (LL3.getD (LL3.length - 1) default).2.length = (LV3.getD (LL3.length - 1) []).length := by rw [hLat]; simp
    have hrl := row_len hLK3 (i := LL3.length - 1) (by omega) (by omega)
    refine op_move (ev_base hN15 rfl s15_3) ?_
    refine op_move (ev_base hN15 rfl s15_3) ?_
    refine op_len_rd Try.underlying28 (ev_hit hN15 rfl) hO3.rdw ?_
    refine op_sub (r := ((LL3.length - 1 : Nat) : Int)) (ev_hit hN15 rfl) rfl ((sub64 (by omega)).trans (by omega)) ?_
    refine op_index_rd slt28 (ev_hit hN15 rfl) hO3.rdw (ev_hit hN15 rfl) (by omega) (by omega) ?_
    intro b49 o50 h0b49 h1b49 hc51
    have hs52 : Own w15 w.heap.size 3 1 (LL3.getD (LL3.length - 1) default).1 (LL3.getD (LL3.length - 1) default).2.length ((LL3.getD (LL3.length - 1) default).2.map (Value.int .i64)) := hA3 _ (getD_mem (by omega))
    refine op_load1 (v := (LL3.getD (LL3.length - 1) default).1) one30 (ev_hit hN15 rfl) (by have := hc51 0 (LL3.getD (LL3.length - 1) default).1 (by decide) (el_ll (i := (LL3.length - 1)) (d := default) (by omega) (by omega)); simpa using this) ?_
    refine op_assign (ev_hit hN15 rfl) ?_
    refine reg_nil ?_
    refine hK48 _ _ ?_
    refine seq_any fun K53 hK53 => ?_
    refine seq_any fun K54 hK54 => ?_
    refine one_reg ?_
    refine op_assign rfl ?_
    refine reg_nil ?_
    refine hK54 _ _ ?_
    refine wp_block ?_
    refine loop_m (fun mz_ az_ w' => ∃ (i : Nat), mz_ = (LV3.getD (LL3.length - 1) []).length - i ∧ (az_.tmps.getD 0 undef = (ptr p 0)) ∧ (az_.tmps.getD 9 undef = (LL3.getD (LL3.length - 1) default).1) ∧ (az_.tmps.getD 10 undef = (Value.int .i64 ((i : Nat) : Int))) ∧ (az_.tmps.getD 8 undef = (Value.int .i64 (((((LV3.getD (LL3.length - 1) []).take i).sum) : Nat) : Int))) ∧ (i ≤ (LV3.getD (LL3.length - 1) []).length) ∧ (Below w.heap.size w w') ∧ (w15.heap.size ≤ w'.heap.size) ∧ (TopL kI 71 base w' p M F) ∧ (Own w' w.heap.size 30 1 v3 LL3.length (LL3.flatMap (fun x9 => [x9.1]))) ∧ (∀ x9 ∈ LL3, Own w' w.heap.size 3 1 x9.1 x9.2.length (x9.2.map (Value.int .i64))) ∧ (Own w' w.heap.size 3 1 (LL3.getD (LL3.length - 1) default).1 (LL3.getD (LL3.length - 1) default).2.length ((LL3.getD (LL3.length - 1) default).2.map (Value.int .i64)))) _ hN15 hd15 ⟨0, rfl, (sl_base hN15 rfl s15_0), (sl_hit hN15 rfl), (sl_hit hN15 rfl), (sl_hit hN15 rfl), (Nat.zero_le _), hb, (Nat.le_refl _), hT, hO3, hA3, hs52⟩ ?_
    rintro _ a55 w55 hN55 hd55 ⟨i, rfl, s55_0, s55_9, s55_10, s55_8, hi, hb, zl_w55, hT, hO3, hA3, hs52⟩
    have z_w55 := hb.size
    refine seq_any fun K56 hK56 => ?_
    refine seq_any fun K57 hK57 => ?_
    refine one_reg ?_
    refine op_move (ev_base hN55 rfl s55_10) ?_
    refine op_move (ev_base hN55 rfl s55_9) ?_
    refine op_len_rd Try.underlying30 (ev_hit hN55 rfl) hs52.rdw ?_
    refine op_lss (ev_hit hN55 rfl) (ev_hit hN55 rfl) (fun c78 => ?_) (fun c78 => ?_)
    · -- 78T
     refine reg_nil ?_
     refine hK57 _ _ ?_
     refine wp_cond_true (ev_hit hN55 rfl) ?_
     refine wp_skip ?_
     refine hK56 _ _ ?_
     refine seq_any fun K58 hK58 => ?_
     refine wp_block ?_
     refine one_reg ?_
     refine op_move (ev_base hN55 rfl s55_8) ?_
     refine op_move (ev_base hN55 rfl s55_9) ?_
     refine op_move (ev_base hN55 rfl s55_10) ?_
     refine op_index_rd slt30 (ev_hit hN55 rfl) hs52.rdw (ev_hit hN55 rfl) (by omega) (by omega) ?_
     intro b59 o60 h0b59 h1b59 hc61
     refine op_load1 (v := (Value.int .i64 ((LL3.getD (LL3.length - 1) default).2.getD i 0))) one3 (ev_hit hN55 rfl) (by have := hc61 0 (Value.int .i64 ((LL3.getD (LL3.length - 1) default).2.getD i 0)) (by decide) (el_i64 (i := i) (by omega) (by omega)); simpa using this) ?_
     refine op_add (r := ((((LV3.getD (LL3.length - 1) []).take i).sum + (LV3.getD (LL3.length - 1) []).getD i 0 : Nat) : Int)) (ev_hit hN55 rfl) (ev_hit hN55 rfl) (by rw [hLat, ints_at]; have q1 := sum_take9 (L := (LV3.getD (LL3.length - 1) [])) (i := i) (by omega); have q2 := sum_le9 (L := (LV3.getD (LL3.length - 1) [])) (i := i + 1); exact (add64 (by omega)).trans (by omega)) ?_
     refine op_assign (ev_hit hN55 rfl) ?_
     refine reg_nil ?_
     refine hK58 _ _ ?_
     refine one_reg ?_
     refine op_move (ev_base hN55 rfl s55_10) ?_
     refine op_add (ev_hit hN55 rfl) rfl (add64 (by omega)) ?_
     refine op_assign (ev_hit hN55 rfl) ?_
     refine reg_nil ?_
     -- round 15F 22F 68F 78T
     exact loop_next _ hN55 hd55 ⟨(i + 1), rfl, (sl_base hN55 rfl s55_0), (sl_base hN55 rfl s55_9), (sl_hit hN55 rfl).trans (congrArg (Value.int .i64) (by omega)), (sl_hit hN55 rfl).trans (congrArg (Value.int .i64) (by rw [sum_take9 (by omega)])), (by omega), hb, (by omega), hT, hO3, hA3, hs52⟩ (by omega)
    · -- 78F
     refine reg_nil ?_
     refine hK57 _ _ ?_
     refine wp_cond_false (ev_hit hN55 rfl) ?_
     refine wp_exit (then_exit (then_exit (blk_hit ?_)))
     refine hK53 _ _ ?_
     refine seq_any fun K62 hK62 => ?_
     refine one_reg ?_
     refine op_move (ev_base hN55 rfl s55_8) ?_
     refine op_move (ev_base hN55 rfl s55_0) ?_
     refine op_fn (vs := [(ptr p 0)]) ok25 ⟨(ev_hit hN55 rfl), trivial⟩ (lenLsI hT hDM) ?_
     rintro _ w63 ⟨E64, rfl⟩
     have E64 := grown_of_below E64
     have z_w63 := E64.size
     have hT := hT.keepG (Gr.of0 E64 NoB) (fun _ _ h => h)
     have hO3 := hO3.keep0 E64
     have hA3 : ∀ x9 ∈ LL3, Own w63 w.heap.size 3 1 x9.1 x9.2.length (x9.2.map (Value.int .i64)) := fun x9 hx9 => (hA3 x9 hx9).keep0 E64
     have hs52 := hs52.keep0 E64
     have hb := below_step0 hb E64 hb.size
     refine op_eql (ev_hit hN55 rfl) (ev_hit hN55 rfl) (fun c90 => ?_) (fun c90 => ?_)
     · -- 90T
      refine op_assign (ev_hit hN55 rfl) ?_
      refine reg_nil ?_
      refine hK62 _ _ ?_
      refine wp_ret ?_
      refine ret1 rfl hd55 (ev_hit hN55 rfl) ⟨_, rfl, ?_⟩
      -- path 15F 22F 68F 78F 90T
      exact ⟨hb, rfl⟩
     · -- 90F
      exfalso; rw [← hsum, show i = (LV3.getD (LL3.length - 1) []).length by omega, List.take_of_length_le (Nat.le_refl _)] at c90; omega

end Go.Proofs.Ytcpfdfejojghbaa

/- Walks, written by a program: what each function of the translation hands back. -/
namespace Go.Proofs.Ytcpfdfejojghbaa
open Go.Gx Go.RowKit
attribute [local irreducible] wpList wpStill Code.wp Calls
open Go.Bt
end Go.Proofs.Ytcpfdfejojghbaa

/- Walks, written by a program: what each function of the translation hands back. -/
namespace Go.Proofs.Ytcpfdfejojghbaa
open Go.Gx Go.RowKit
attribute [local irreducible] wpList wpStill Code.wp Calls
open Go.Bt
theorem putLsE {M M' : List (Ky × Int)} {k : List UInt8} {xv : Value} {x : Int} {c : Bool} {F : Nat → Prop} {p base L B : Nat} {w : World} (hT : TopL kI 71 base w p M F) (hb : base ≤ w.heap.size) (hk : RdC w L B 1 xv k.length (k.map u8v)) (hB : B ≤ w.heap.size) (hap : ∀ j, F j → j < L ∨ B ≤ j) (hkn : k.length ≤ 1000000000) (hM : putL k x M = M') (hc : (ks1 M).contains k = c) :
    Ret Try.prog 23 #[ptr p 0, xv, .int .i64 x] w (fun v' w' => Gr w w' F ∧ v' = .bool c ∧ ∃ F', TopL kI 71 base w' p M' F' ∧ NewF w.heap.size F F') := by
  subst hM; subst hc
  exact putLsI hT hb hk hB hap hkn
theorem getLsE {M : List (Ky × Int)} {F : Nat → Prop} {x : List UInt8} {xv : Value} {p base : Nat} {g : Int} {c : Bool} {w : World} (hT : TopL kI 71 base w p M F) (hkl : ∀ q ∈ M, q.1.length ≤ 1000000000) (hxr : RdC w 0 w.heap.size 1 xv x.length (x.map u8v)) (hDM : M.length ≤ 100000) (hg : (getL x M).getD 0 = g) (hc : (getL x M).isSome = c) : Ret Try.prog 30 #[ptr p 0, xv] w (fun v' w' => Below w.heap.size w w' ∧ v' = .tuple #[.int .i64 g, .bool c]) := by
  subst hg; subst hc
  exact getLsI hT hkl hxr hDM
theorem begun15 {w : World} : Ret Try.prog 11 #[] w (fun v' w' => Below w.heap.size w w' ∧ v' = .bool true) := by
 have hb := Below.refl w.heap.size w
 refine enter (N := 62) Try.func11 rfl rfl (by simp) fun a0 hN hd hA => ?_
 clear hA
 refine seq_any fun K1 hK1 => ?_
 refine one_reg ?_
 refine op_assign rfl ?_
 refine reg_nil ?_
 refine hK1 _ _ ?_
 refine seq_any fun K2 hK2 => ?_
 refine one_reg ?_
 refine op_fn (vs := []) ok22 trivial (newLI) ?_
 rintro _ w4 ⟨E5, p3, F3, rfl, hT3⟩
 have E5 := grown_of_below E5
 have hlo6 : ∀ k, F3 k → w.heap.size ≤ k := fun k hk => (hT3.lt k hk).1
 have z_w4 := E5.size
 have hb := below_step0 hb E5 hb.size
 have hT3 : TopL kI 71 w.heap.size w4 p3 [] F3 := hT3.rebase (by omega)
 refine op_assign (ev_hit hN rfl) ?_
 refine reg_nil ?_
 refine hK2 _ _ ?_
 refine seq_any fun K7 hK7 => ?_
 refine one_reg ?_
 refine op_move (ev_hit hN rfl) ?_
 refine op_bslice (e := 5) (pv := [(0, (Value.int .u8 98))]) (cs := [(Value.int .u8 98)]) ⟨rfl, rfl, trivial⟩ (by kernel_rfl) ?_
 intro w8 b9 lo_b9 hi_b9 hB11 E10
 have dj12 : ¬ F3 b9 := fun hf => by have := (hT3.lt _ hf).2; omega
 have z_w8 := E10.size
 have hT3 := hT3.keepG (Gr.of0 E10 NoB) (fun _ _ h => h)
 have hb := below_step0 hb E10 hb.size
 have hB11_old := hB11
 refine op_conv_bytes (base := w.heap.size) Try.underlying27 Try.underlying5 (ev_hit hN rfl) hB11 rfl (by decide) (by omega) ?_
 intro w13 hO15 E14
 have z_w13 := E14.size
 have hT3 := hT3.keepG (Gr.of E14) (Dj.one dj12)
 have hb := below_step1 hb E14 hb.size (by omega)
 have dj16 : Dj (Bl (Value.slice (some ⟨b9, 0, none⟩) 1 1)) F3 := (Dj.one dj12).symm
 obtain ⟨L18, B18, hr18, hB18, hq18⟩ := own_at hO15 dj16
 refine op_fn (vs := [(ptr p3 0), (Value.slice (some ⟨b9, 0, none⟩) 1 1), (Value.int .i64 1)]) ok23 ⟨(ev_hit hN rfl), ⟨(ev_hit hN rfl), ⟨rfl, trivial⟩⟩⟩ (putLsE (k := [98]) (x := 1) (M := []) (M' := ([([98], 1)] : List (Ky × Int))) (c := false) hT3 hb.size hr18 hB18 hq18 (by decide) (by decide) (by decide)) ?_
 rintro _ w19 ⟨E20, rfl, F17, hT17, hN17⟩
 have bd21 := hO15.lt
 have hT3_old := hT3
 have z_w19 := E20.size
 have hO15 := hO15.keepG E20 dj16
 have hb := below_stepG hb E20 hb.size (fun k hk => (hT3_old.lt k hk).1)
 have dj22 : Dj (Bl (Value.slice (some ⟨b9, 0, none⟩) 1 1)) F17 := Dj.stepF hN17 (fun k hk => (bd21 k hk).2) dj16
 refine op_assign (ev_hit hN rfl) ?_
 refine reg_nil ?_
 refine hK7 _ _ ?_
 refine seq_any fun K23 hK23 => ?_
 refine one_reg ?_
 skip
 refine op_move (ev_hit hN rfl) ?_
 refine op_bslice (e := 5) (pv := [(0, (Value.int .u8 98))]) (cs := [(Value.int .u8 98)]) ⟨rfl, rfl, trivial⟩ (by kernel_rfl) ?_
 intro w24 b25 lo_b25 hi_b25 hB27 E26
 have dj28 : ¬ F17 b25 := fun hf => by have := (hT17.lt _ hf).2; omega
 have z_w24 := E26.size
 have hT17 := hT17.keepG (Gr.of0 E26 NoB) (fun _ _ h => h)
 have hb := below_step0 hb E26 hb.size
 have hB27_old := hB27
 refine op_conv_bytes (base := w.heap.size) Try.underlying27 Try.underlying5 (ev_hit hN rfl) hB27 rfl (by decide) (by omega) ?_
 intro w29 hO31 E30
 have z_w29 := E30.size
 have hT17 := hT17.keepG (Gr.of E30) (Dj.one dj28)
 have hb := below_step1 hb E30 hb.size (by omega)
 have dj32 : Dj (Bl (Value.slice (some ⟨b25, 0, none⟩) 1 1)) F17 := (Dj.one dj28).symm
 obtain ⟨L34, B34, hr34, hB34, hq34⟩ := own_at hO31 dj32
 refine op_fn (vs := [(ptr p3 0), (Value.slice (some ⟨b25, 0, none⟩) 1 1), (Value.int .i64 2)]) ok23 ⟨(ev_hit hN rfl), ⟨(ev_hit hN rfl), ⟨rfl, trivial⟩⟩⟩ (putLsE (k := [98]) (x := 2) (M := ([([98], 1)] : List (Ky × Int))) (M' := ([([98], 2)] : List (Ky × Int))) (c := true) hT17 hb.size hr34 hB34 hq34 (by decide) (by decide) (by decide)) ?_
 rintro _ w35 ⟨E36, rfl, F33, hT33, hN33⟩
 have bd37 := hO31.lt
 have hT17_old := hT17
 have z_w35 := E36.size
 have hO31 := hO31.keepG E36 dj32
 have hb := below_stepG hb E36 hb.size (fun k hk => (hT17_old.lt k hk).1)
 have dj38 : Dj (Bl (Value.slice (some ⟨b25, 0, none⟩) 1 1)) F33 := Dj.stepF hN33 (fun k hk => (bd37 k hk).2) dj32
 refine op_assign (ev_hit hN rfl) ?_
 refine reg_nil ?_
 refine hK23 _ _ ?_
 refine seq_any fun K39 hK39 => ?_
 refine one_reg ?_
 skip
 refine op_move (ev_hit hN rfl) ?_
 refine op_bslice (e := 5) (pv := [(0, (Value.int .u8 98))]) (cs := [(Value.int .u8 98)]) ⟨rfl, rfl, trivial⟩ (by kernel_rfl) ?_
 intro w40 b41 lo_b41 hi_b41 hB43 E42
 have dj44 : ¬ F33 b41 := fun hf => by have := (hT33.lt _ hf).2; omega
 have z_w40 := E42.size
 have hT33 := hT33.keepG (Gr.of0 E42 NoB) (fun _ _ h => h)
 have hb := below_step0 hb E42 hb.size
 have hB43_old := hB43
 refine op_conv_bytes (base := w.heap.size) Try.underlying27 Try.underlying5 (ev_hit hN rfl) hB43 rfl (by decide) (by omega) ?_
 intro w45 hO47 E46
 have z_w45 := E46.size
 have hT33 := hT33.keepG (Gr.of E46) (Dj.one dj44)
 have hb := below_step1 hb E46 hb.size (by omega)
 have dj48 : Dj (Bl (Value.slice (some ⟨b41, 0, none⟩) 1 1)) F33 := (Dj.one dj44).symm
 refine op_fn (vs := [(ptr p3 0), (Value.slice (some ⟨b41, 0, none⟩) 1 1)]) ok30 ⟨(ev_hit hN rfl), ⟨(ev_hit hN rfl), trivial⟩⟩ (getLsE (x := [98]) (g := 2) (c := true) hT33 (by decide) (hO47.rdw.mono (Nat.zero_le _) (by omega)) (by decide) (by decide) (by decide)) ?_
 rintro _ w49 ⟨E50, rfl⟩
 have E50 := grown_of_below E50
 have z_w49 := E50.size
 have hT33 := hT33.keepG (Gr.of0 E50 NoB) (fun _ _ h => h)
 have hO47 := hO47.keep0 E50
 have hb := below_step0 hb E50 hb.size
 refine op_move (ev_hit hN rfl) ?_
 refine op_extract (ev_hit hN rfl) rfl ?_
 refine op_extract (ev_hit hN rfl) rfl ?_
 refine op_assign (ev_hit hN rfl) ?_
 refine op_assign (ev_hit hN rfl) ?_
 refine reg_nil ?_
 refine hK39 _ _ ?_
 refine seq_any fun K51 hK51 => ?_
 refine one_reg ?_
 skip
 refine op_move (ev_hit hN rfl) ?_
 refine op_fn (vs := [(ptr p3 0)]) ok33 ⟨(ev_hit hN rfl), trivial⟩ (levLsI hT33 (by decide)) ?_
 rintro v52 w53 ⟨E54, LL52, LV52, hO52, hA52, hlev52, hLK52⟩
 have dj55 : Dj F33 (Bl v52) := Dj.fresh (fun k hk => (hT33.lt k hk).2) (fun k hk => (hO52.lt k hk).1)
 have E54 := grown_of_below E54
 have z_w53 := E54.size
 have hT33 := hT33.keepG (Gr.of0 E54 NoB) (fun _ _ h => h)
 have hb := below_step0 hb E54 hb.size
 have hLn52 := lev_len hlev52
 have hz52 := hLK52.zero
 have hle52 := hLK52.le
 have hO52 := hO52.mono (base' := w.heap.size) (by omega)
 have hA52 : ∀ x9 ∈ LL52, Own w53 w.heap.size 3 1 x9.1 x9.2.length (x9.2.map (Value.int .i64)) := fun x9 h9 => (hA52 x9 h9).mono (by omega)
 refine op_assign (ev_hit hN rfl) ?_
 refine reg_nil ?_
 refine hK51 _ _ ?_
 refine seq_any fun K56 hK56 => ?_
 refine one_reg ?_
 have hM1 : ([([98], 2)] : List (Ky × Int)).length = 1 := rfl
 have hLL1 : LL52.length = 1 := by omega
 have hat := lev_at hlev52 0
 have hw : (LV52.getD 0 []).length = 1 := (hLK52.at_ 0 (by omega)).1
 have hlen9 : (LL52.getD 0 default).2.length = 1 := by rw [hat, List.length_map]; exact hw
 have hs9 : (LV52.getD 0 []).sum = 1 := by have := hLK52.sum; rw [show LV52.length - 1 = 0 by omega] at this; exact this
 have h00 : (LL52.getD 0 default).2.getD 0 0 = 1 := by rw [hat, ints_at]; have := one_sum hw hs9; omega
 refine op_move (ev_hit hN rfl) ?_
 refine op_not (ev_hit hN rfl) ?_
 refine op_move (ev_hit hN rfl) ?_
 refine g_true (j := 2) (dj := 27) (b := true) rfl rfl rfl (ev_hit hN rfl) ?_
 refine op_move (ev_hit hN rfl) ?_
 refine op_pick_t (ev_hit hN rfl) (ev_hit hN rfl) ?_
 refine op_move (ev_hit hN rfl) ?_
 refine g_true (j := 5) (dj := 30) (b := true) rfl rfl rfl (ev_hit hN rfl) ?_
 refine op_move (ev_hit hN rfl) ?_
 refine op_pick_t (ev_hit hN rfl) (ev_hit hN rfl) ?_
 refine op_move (ev_hit hN rfl) ?_
 refine g_true (j := 8) (dj := 33) (b := true) rfl rfl rfl (ev_hit hN rfl) ?_
 refine op_move (ev_hit hN rfl) ?_
 refine g_true (j := 8) (dj := 33) (b := true) rfl rfl rfl (ev_hit hN rfl) ?_
 refine op_bin (v := .bool true) (ev_hit hN rfl) rfl (by rw [binOp_eql]; rfl) ?_
 refine op_pick_t (ev_hit hN rfl) (ev_hit hN rfl) ?_
 refine op_move (ev_hit hN rfl) ?_
 refine g_true (j := 12) (dj := 37) (b := true) rfl rfl rfl (ev_hit hN rfl) ?_
 refine op_move (ev_hit hN rfl) ?_
 refine g_true (j := 12) (dj := 37) (b := true) rfl rfl rfl (ev_hit hN rfl) ?_
 refine op_fn (vs := [(ptr p3 0)]) ok25 ⟨(ev_hit hN rfl), trivial⟩ (lenLsI hT33 (by decide)) ?_
 rintro _ w57 ⟨E58, rfl⟩
 have E58 := grown_of_below E58
 have z_w57 := E58.size
 have hT33 := hT33.keepG (Gr.of0 E58 NoB) (fun _ _ h => h)
 have hO52 := hO52.keep0 E58
 have hA52 : ∀ x9 ∈ LL52, Own w57 w.heap.size 3 1 x9.1 x9.2.length (x9.2.map (Value.int .i64)) := fun x9 hx9 => (hA52 x9 hx9).keep0 E58
 have hb := below_step0 hb E58 hb.size
 refine g_true (j := 12) (dj := 37) (b := true) rfl rfl rfl (ev_hit hN rfl) ?_
 refine op_eql (ev_hit hN rfl) rfl (fun c40 => ?_) (fun c40 => ?_)
 · -- 40T
  refine op_pick_t (ev_hit hN rfl) (ev_hit hN rfl) ?_
  refine op_move (ev_hit hN rfl) ?_
  refine g_true (j := 17) (dj := 42) (b := true) rfl rfl rfl (ev_hit hN rfl) ?_
  refine op_move (ev_hit hN rfl) ?_
  refine g_true (j := 17) (dj := 42) (b := true) rfl rfl rfl (ev_hit hN rfl) ?_
  refine op_len_rd Try.underlying28 (ev_hit hN rfl) hO52.rdw ?_
  refine g_true (j := 17) (dj := 42) (b := true) rfl rfl rfl (ev_hit hN rfl) ?_
  refine op_eql (ev_hit hN rfl) rfl (fun c45 => ?_) (fun c45 => ?_)
  · -- 45T
   refine op_pick_t (ev_hit hN rfl) (ev_hit hN rfl) ?_
   refine op_move (ev_hit hN rfl) ?_
   refine g_true (j := 22) (dj := 47) (b := true) rfl rfl rfl (ev_hit hN rfl) ?_
   refine op_move (ev_hit hN rfl) ?_
   refine g_true (j := 22) (dj := 47) (b := true) rfl rfl rfl (ev_hit hN rfl) ?_
   refine op_index_rd slt28 (ev_hit hN rfl) hO52.rdw rfl (by omega) (by omega) ?_
   intro b59 o60 h0b59 h1b59 hc61
   refine g_true (j := 22) (dj := 47) (b := true) rfl rfl rfl (ev_hit hN rfl) ?_
   have hs62 : Own w57 w.heap.size 3 1 (LL52.getD 0 default).1 (LL52.getD 0 default).2.length ((LL52.getD 0 default).2.map (Value.int .i64)) := hA52 _ (getD_mem (by omega))
   refine op_load1 (v := (LL52.getD 0 default).1) one30 (ev_hit hN rfl) (by have := hc61 0 (LL52.getD 0 default).1 (by decide) (el_ll (i := 0) (d := default) (by omega) (by omega)); simpa using this) ?_
   refine g_true (j := 22) (dj := 47) (b := true) rfl rfl rfl (ev_hit hN rfl) ?_
   refine op_len_rd Try.underlying30 (ev_hit hN rfl) hs62.rdw ?_
   refine g_true (j := 22) (dj := 47) (b := true) rfl rfl rfl (ev_hit hN rfl) ?_
   refine op_eql (ev_hit hN rfl) rfl (fun c52 => ?_) (fun c52 => ?_)
   · -- 52T
    refine op_pick_t (ev_hit hN rfl) (ev_hit hN rfl) ?_
    refine op_move (ev_hit hN rfl) ?_
    refine g_true (j := 29) (dj := 54) (b := true) rfl rfl rfl (ev_hit hN rfl) ?_
    refine op_move (ev_hit hN rfl) ?_
    refine g_true (j := 29) (dj := 54) (b := true) rfl rfl rfl (ev_hit hN rfl) ?_
    refine op_index_rd slt28 (ev_hit hN rfl) hO52.rdw rfl (by omega) (by omega) ?_
    intro b63 o64 h0b63 h1b63 hc65
    refine g_true (j := 29) (dj := 54) (b := true) rfl rfl rfl (ev_hit hN rfl) ?_
    refine op_load1 (v := (LL52.getD 0 default).1) one30 (ev_hit hN rfl) (by have := hc65 0 (LL52.getD 0 default).1 (by decide) (el_ll (i := 0) (d := default) (by omega) (by omega)); simpa using this) ?_
    refine g_true (j := 29) (dj := 54) (b := true) rfl rfl rfl (ev_hit hN rfl) ?_
    refine op_index_rd slt30 (ev_hit hN rfl) hs62.rdw rfl (by omega) (by omega) ?_
    intro b67 o68 h0b67 h1b67 hc69
    refine g_true (j := 29) (dj := 54) (b := true) rfl rfl rfl (ev_hit hN rfl) ?_
    refine op_load1 (v := (Value.int .i64 ((LL52.getD 0 default).2.getD 0 0))) one3 (ev_hit hN rfl) (by have := hc69 0 (Value.int .i64 ((LL52.getD 0 default).2.getD 0 0)) (by decide) (el_i64 (i := 0) (by omega) (by omega)); simpa using this) ?_
    refine g_true (j := 29) (dj := 54) (b := true) rfl rfl rfl (ev_hit hN rfl) ?_
    refine op_eql (ev_hit hN rfl) rfl (fun c60 => ?_) (fun c60 => ?_)
    · -- 60T
     refine op_pick_t (ev_hit hN rfl) (ev_hit hN rfl) ?_
     refine op_assign (ev_hit hN rfl) ?_
     refine reg_nil ?_
     refine hK56 _ _ ?_
     refine wp_ret ?_
     refine ret1 rfl hd (ev_hit hN rfl) ⟨_, rfl, ?_⟩
     -- path 40T 45T 52T 60T
     exact ⟨hb, rfl⟩
    · -- 60F
     exfalso; omega
   · -- 52F
    exfalso; omega
  · -- 45F
   exfalso; omega
 · -- 40F
  exfalso; omega

end Go.Proofs.Ytcpfdfejojghbaa

/- What the laws of trees say, plainly. -/
namespace Go.Bt
section
variable {V : Type} {L : List (List Nat)} {n d m i j : Nat} {M : List (Ky × V)} {v : V}
/-- A number's two low bytes. -/
def k2 (k : Nat) : Ky := [UInt8.ofNat (k / 256), UInt8.ofNat k]
end
end Go.Bt
namespace Go.Bt
section
variable {M N : List (Ky × Int)} {i n kk : Nat} {f g : Nat → UInt16}
theorem put_len (H : SortedL M) {k : Ky} {v : Int} (h : M.length ≤ i) : (putL k v M).length ≤ i + 1 := by
  rw [putL_len H]; split <;> omega
theorem geL_nil : geL ([] : Ky) M = M := geL_all fun p _ => by
  cases p.1 with
  | nil => exact List.le_refl _
  | cons a t => exact Std.le_of_lt (List.nil_lt_cons ..)
end
end Go.Bt
namespace Go.Gx
open Go.Bt
end Go.Gx
namespace Go.Bt
section
variable {M : List (Ky × Int)} {D : List (Ky × Int)} {i n s : Nat} {k : Ky}
theorem put_short (H : ∀ q ∈ M, q.1.length = 2) {x : UInt16} {v : Int} : ∀ q ∈ putL (k2 x.toNat) v M, q.1.length = 2 := fun q hq => by
  rcases mem_putL.1 hq with rfl | ⟨_, h⟩
  · rfl
  · exact H q h
end
end Go.Bt
namespace Go.Gx
open Go.Bt
theorem d0_at {D : List (DP Int)} {M : List (Ky × Int)} {j : Nat} (h : D.map Prod.snd = M) (hj : j < M.length) : (D.getD j default).2 = M.getD j default := by
  subst h
  have hl : j < D.length := by simpa using hj
  rw [List.getD_eq_getElem?_getD, List.getD_eq_getElem?_getD, List.getElem?_map, List.getElem?_eq_getElem hl]
  rfl
end Go.Gx
namespace Go.Bt
theorem dropL_gone {V : Type} {k : Ky} {M : List (Ky × V)} : (ks1 (dropL k M)).contains k = false := by
  rw [Bool.eq_false_iff]; intro h
  obtain ⟨q, hq, e⟩ := has_iff.1 h
  exact (mem_dropL.1 hq).1 e
end Go.Bt
namespace Go.Bt
section
variable {V W : Type} {M : List (Ky × V)} {N : List (Ky × W)} {x k : Ky} {v : V} {u : W} {l : List UInt16} {b : UInt8} {i n j : Nat}
/-- A number's low byte; where it comes last. -/
def b8 (x : UInt16) : UInt8 := UInt8.ofNat x.toNat
end
end Go.Bt
namespace Go.Bt
section
variable {M : List (Ky × Int)} {k : Ky} {v : Int}
end
end Go.Bt

/- Walks, written by a program: what each function of the translation hands back. -/
namespace Go.Proofs.Ytcpfdfejojghbaa
open Go.Gx Go.RowKit
attribute [local irreducible] wpList wpStill Code.wp Calls
open Go.Bt
theorem TreeEmpties_ret (l : List UInt16) (step : UInt8) (vl : Value) (w : World) (hll : l.length ≤ 9223372036854775807) (hr : RdC w 0 w.heap.size 1 vl l.length (l.map u16v)) : Ret Try.prog 8 #[vl, (Value.int .u8 (step.toNat : Int))] w (fun v' w' => Below w.heap.size w w' ∧ v' = .bool true) := by
 have hs9 := step.toNat_lt
 have hb := Below.refl w.heap.size w
 refine enter (N := 95) Try.func8 rfl rfl (by simp) fun a0 hN hd hA => ?_
 have s0 : a0.tmps.getD 0 undef = vl := hA 0 (by simp)
 have s1 : a0.tmps.getD 1 undef = (Value.int .u8 (step.toNat : Int)) := hA 1 (by simp)
 clear hA
 refine seq_any fun K1 hK1 => ?_
 refine one_reg ?_
 refine op_assign rfl ?_
 refine reg_nil ?_
 refine hK1 _ _ ?_
 refine seq_any fun K2 hK2 => ?_
 refine seq_any fun K3 hK3 => ?_
 refine one_reg ?_
 refine op_fn (vs := []) ok11 trivial (begun15) ?_
 rintro _ w4 ⟨E5, rfl⟩
 have E5 := grown_of_below E5
 have z_w4 := E5.size
 have hr := hr.keep0 E5
 have hb := below_step0 hb E5 hb.size
 refine op_not (ev_hit hN rfl) ?_
 refine reg_nil ?_
 refine hK3 _ _ ?_
 refine wp_cond_false (ev_hit hN rfl) ?_
 refine wp_skip ?_
 refine hK2 _ _ ?_
 refine seq_any fun K6 hK6 => ?_
 refine seq_any fun K7 hK7 => ?_
 refine one_reg ?_
 refine op_move (ev_base hN rfl s0) ?_
 refine op_len_rd Try.underlying33 (ev_hit hN rfl) hr ?_
 refine op_gtr (ev_hit hN rfl) rfl (fun c13 => ?_) (fun c13 => ?_)
 · -- 13T
  refine reg_nil ?_
  refine hK7 _ _ ?_
  refine wp_cond_true (ev_hit hN rfl) ?_
  refine seq_any fun K8 hK8 => ?_
  refine one_reg ?_
  refine op_assign rfl ?_
  refine reg_nil ?_
  refine hK8 _ _ ?_
  refine wp_ret (then_ret ( ?_))
  refine ret1 rfl hd (ev_hit hN rfl) ⟨_, rfl, ?_⟩
  -- path 13T
  exact ⟨hb, rfl⟩
 · -- 13F
  refine reg_nil ?_
  refine hK7 _ _ ?_
  refine wp_cond_false (ev_hit hN rfl) ?_
  refine wp_skip ?_
  refine hK6 _ _ ?_
  refine seq_any fun K9 hK9 => ?_
  refine one_reg ?_
  refine op_fn (vs := []) ok22 trivial (newLI) ?_
  rintro _ w11 ⟨E12, p10, F10, rfl, hT10⟩
  have E12 := grown_of_below E12
  have hlo13 : ∀ k, F10 k → w4.heap.size ≤ k := fun k hk => (hT10.lt k hk).1
  have z_w11 := E12.size
  have hr := hr.keep0 E12
  have hb := below_step0 hb E12 hb.size
  have hT10 : TopL kI 71 w.heap.size w11 p10 [] F10 := hT10.rebase (by omega)
  refine op_assign (ev_hit hN rfl) ?_
  refine reg_nil ?_
  refine hK9 _ _ ?_
  refine seq_any fun K14 hK14 => ?_
  refine seq_any fun K15 hK15 => ?_
  refine one_reg ?_
  refine op_assign rfl ?_
  refine reg_nil ?_
  refine hK15 _ _ ?_
  refine wp_block ?_
  refine loop_m (fun mz_ az_ w' => ∃ (i : Nat) (M : List (Ky × Int)) (F9 : Nat → Prop), mz_ = l.length - i ∧ (az_.tmps.getD 0 undef = vl) ∧ (az_.tmps.getD 1 undef = (Value.int .u8 (step.toNat : Int))) ∧ (az_.tmps.getD 4 undef = (Value.bool false)) ∧ (az_.tmps.getD 5 undef = (ptr p10 0)) ∧ (az_.tmps.getD 6 undef = (Value.int .i64 ((i : Nat) : Int))) ∧ (i ≤ l.length) ∧ (M.length ≤ i) ∧ (∀ q ∈ M, q.1.length = 2) ∧ (Below w.heap.size w w') ∧ (w11.heap.size ≤ w'.heap.size) ∧ (RdC w' 0 w.heap.size 1 vl l.length (l.map u16v)) ∧ (TopL kI 71 w.heap.size w' p10 M F9)) _ hN hd ⟨0, [], F10, rfl, (sl_base hN rfl s0), (sl_base hN rfl s1), (sl_hit hN rfl), (sl_hit hN rfl), (sl_hit hN rfl), (Nat.zero_le _), (Nat.le_refl _), (fun _ h => (by cases h)), hb, (Nat.le_refl _), hr, hT10⟩ ?_
  rintro _ a16 w16 hN16 hd16 ⟨i, M, F9, rfl, s16_0, s16_1, s16_4, s16_5, s16_6, hi, hlM, hsh, hb, zl_w16, hr, hTM⟩
  have z_w16 := hb.size
  refine seq_any fun K17 hK17 => ?_
  refine seq_any fun K18 hK18 => ?_
  refine one_reg ?_
  refine op_move (ev_base hN16 rfl s16_6) ?_
  refine op_move (ev_base hN16 rfl s16_0) ?_
  refine op_len_rd Try.underlying33 (ev_hit hN16 rfl) hr ?_
  refine op_lss (ev_hit hN16 rfl) (ev_hit hN16 rfl) (fun c18 => ?_) (fun c18 => ?_)
  · -- 18T
   refine reg_nil ?_
   refine hK18 _ _ ?_
   refine wp_cond_true (ev_hit hN16 rfl) ?_
   refine wp_skip ?_
   refine hK17 _ _ ?_
   refine seq_any fun K19 hK19 => ?_
   refine wp_block ?_
   obtain ⟨b20, o21, hAt22⟩ := hr.atV (i := i) (by decide) (by omega)
   have hsM := hTM.sorted
   refine reg_env (φ := phiV [(fun uz => uz = (ptr p10 0)), (fun uz => uz = vl), (fun uz => uz = (Value.int .i64 ((i : Nat) : Int))), (fun uz => uz = (ptr b20 o21)), (fun uz => uz = (Value.int .u16 ((l.getD i 0).toNat : Int))), (fun uz => uz = (Value.int .u16 (((l.getD i 0).toNat / 256 : Nat) : Int))), (fun uz => uz = (Value.int .u8 ((UInt8.ofNat ((l.getD i 0).toNat / 256)).toNat : Int))), (fun uz => uz = vl), (fun uz => uz = (Value.int .i64 ((i : Nat) : Int))), (fun uz => uz = (ptr b20 o21)), (fun uz => uz = (Value.int .u16 ((l.getD i 0).toNat : Int))), (fun uz => uz = (Value.int .u8 ((UInt8.ofNat (l.getD i 0).toNat).toNat : Int))), (fun _ => True), (fun uz => uz = (Value.int .i64 ((i : Nat) : Int))), (fun _ => True)]) (G := fun w' => RdC w' 0 w.heap.size 1 vl l.length (l.map u16v)) [12, 14] mixed (by kernel_rfl) (by kernel_rfl) (by kernel_rfl) (by kernel_rfl) hN16 (fun w1 w2 E h => h.keep0 E) hr (ObEs.cons ?_ (ObEs.cons ?_ (ObEs.cons ?_ (ObEs.cons ?_ (ObEs.cons ?_ (ObEs.cons ?_ (ObEs.cons ?_ (ObEs.cons ?_ (ObEs.cons ?_ (ObEs.cons ?_ (ObEs.cons ?_ (ObEs.cons ?_ (ObEs.pass rfl (ObEs.cons ?_ (ObEs.pass rfl (ObEs.nil)))))))))))))))) (by simp only [putsL_defers]) ?_
   ·
    intro eA aA wA hNA hGA hbsA hdpA
    have qA_5 := (hbsA 5 rfl).trans (sl_base hN16 rfl s16_5)
    refine op_move (ev_base hNA rfl qA_5) ?_
    exact obE_end rfl rfl rfl
   ·
    intro eA aA wA hNA hGA hbsA hdpA
    have qA_0 := (hbsA 0 rfl).trans (sl_base hN16 rfl s16_0)
    refine op_move (ev_base hNA rfl qA_0) ?_
    exact obE_end rfl rfl rfl
   ·
    intro eA aA wA hNA hGA hbsA hdpA
    have qA_6 := (hbsA 6 rfl).trans (sl_base hN16 rfl s16_6)
    refine op_move (ev_base hNA rfl qA_6) ?_
    exact obE_end rfl rfl rfl
   ·
    intro eA aA wA hNA hGA hbsA hdpA
    have qA_22 : Sl aA 22 vl := (hdpA 1 _ 22 (by kernel_rfl) rfl rfl).2 rfl
    have qA_23 : Sl aA 23 (Value.int .i64 ((i : Nat) : Int)) := (hdpA 2 _ 23 (by kernel_rfl) rfl rfl).2 rfl
    refine op_index_atR (i := i) slt33 (ev_base hNA rfl qA_22) hr (by decide) (ev_base hNA rfl qA_23) (by omega) (by omega) hAt22 ?_
    exact obE_end rfl rfl rfl
   ·
    intro eA aA wA hNA hGA hbsA hdpA
    have qA_24 : Sl aA 24 (ptr b20 o21) := (hdpA 3 _ 24 (by kernel_rfl) rfl rfl).2 rfl
    refine op_load1 (v := (Value.int .u16 ((l.getD i 0).toNat : Int))) one37 (ev_base hNA rfl qA_24) (hGA.cellAt hAt22 0 _ (el_u16 (e := ((i : Nat) : Int)) (i := i) rfl (by omega))) ?_
    exact obE_end rfl rfl rfl
   ·
    intro eA aA wA hNA hGA hbsA hdpA
    have qA_25 : Sl aA 25 (Value.int .u16 ((l.getD i 0).toNat : Int)) := (hdpA 4 _ 25 (by kernel_rfl) rfl rfl).2 rfl
    refine op_shr (r := (((l.getD i 0).toNat / 256 : Nat) : Int)) (ev_base hNA rfl qA_25) rfl (by decide) (shr_nat (j := 8) (by omega) (by decide)) ?_
    exact obE_end rfl rfl rfl
   ·
    intro eA aA wA hNA hGA hbsA hdpA
    have qA_26 : Sl aA 26 (Value.int .u16 (((l.getD i 0).toNat / 256 : Nat) : Int)) := (hdpA 5 _ 26 (by kernel_rfl) rfl rfl).2 rfl
    refine op_conv (r := ((UInt8.ofNat ((l.getD i 0).toNat / 256)).toNat : Int)) (ev_base hNA rfl qA_26) us37 Try.underlying5 conv_u8 ?_
    exact obE_end rfl rfl rfl
   ·
    intro eA aA wA hNA hGA hbsA hdpA
    have qA_0 := (hbsA 0 rfl).trans (sl_base hN16 rfl s16_0)
    refine op_move (ev_base hNA rfl qA_0) ?_
    exact obE_end rfl rfl rfl
   ·
    intro eA aA wA hNA hGA hbsA hdpA
    have qA_6 := (hbsA 6 rfl).trans (sl_base hN16 rfl s16_6)
    refine op_move (ev_base hNA rfl qA_6) ?_
    exact obE_end rfl rfl rfl
   ·
    intro eA aA wA hNA hGA hbsA hdpA
    have qA_28 : Sl aA 28 vl := (hdpA 7 _ 28 (by kernel_rfl) rfl rfl).2 rfl
    have qA_29 : Sl aA 29 (Value.int .i64 ((i : Nat) : Int)) := (hdpA 8 _ 29 (by kernel_rfl) rfl rfl).2 rfl
    refine op_index_atR (i := i) slt33 (ev_base hNA rfl qA_28) hr (by decide) (ev_base hNA rfl qA_29) (by omega) (by omega) hAt22 ?_
    exact obE_end rfl rfl rfl
   ·
    intro eA aA wA hNA hGA hbsA hdpA
    have qA_30 : Sl aA 30 (ptr b20 o21) := (hdpA 9 _ 30 (by kernel_rfl) rfl rfl).2 rfl
    refine op_load1 (v := (Value.int .u16 ((l.getD i 0).toNat : Int))) one37 (ev_base hNA rfl qA_30) (hGA.cellAt hAt22 0 _ (el_u16 (e := ((i : Nat) : Int)) (i := i) rfl (by omega))) ?_
    exact obE_end rfl rfl rfl
   ·
    intro eA aA wA hNA hGA hbsA hdpA
    have qA_31 : Sl aA 31 (Value.int .u16 ((l.getD i 0).toNat : Int)) := (hdpA 10 _ 31 (by kernel_rfl) rfl rfl).2 rfl
    refine op_conv (r := ((UInt8.ofNat (l.getD i 0).toNat).toNat : Int)) (ev_base hNA rfl qA_31) us37 Try.underlying5 conv_u8 ?_
    exact obE_end rfl rfl rfl
   ·
    intro eA aA wA hNA hGA hbsA hdpA
    have qA_6 := (hbsA 6 rfl).trans (sl_base hN16 rfl s16_6)
    refine op_move (ev_base hNA rfl qA_6) ?_
    exact obE_end rfl rfl rfl
   ·
    intro w23 E23 _ a23 hN23 hbs23 hdp23 o_ ho_; obtain rfl := Option.some.inj ho_
    have z_w23 := E23.size
    have hr := hr.keep0 E23
    have hTM := hTM.keepG (Gr.of0 E23 NoB) (fun _ _ h => h)
    have hb := below_step0 hb E23 hb.size
    have q23_27 : Sl a23 27 (Value.int .u8 ((UInt8.ofNat ((l.getD i 0).toNat / 256)).toNat : Int)) := (hdp23 6 _ 27 (by kernel_rfl) rfl rfl).2 rfl
    have q23_32 : Sl a23 32 (Value.int .u8 ((UInt8.ofNat (l.getD i 0).toNat).toNat : Int)) := (hdp23 11 _ 32 (by kernel_rfl) rfl rfl).2 rfl
    refine op_bslice (e := 5) (pv := [(0, (Value.int .u8 ((UInt8.ofNat ((l.getD i 0).toNat / 256)).toNat : Int))), (1, (Value.int .u8 ((UInt8.ofNat (l.getD i 0).toNat).toNat : Int)))]) (cs := [(Value.int .u8 ((UInt8.ofNat ((l.getD i 0).toNat / 256)).toNat : Int)), (Value.int .u8 ((UInt8.ofNat (l.getD i 0).toNat).toNat : Int))]) ⟨rfl, (ev_base hN23 rfl q23_27), ⟨rfl, (ev_base hN23 rfl q23_32), trivial⟩⟩ (by kernel_rfl) ?_
    intro w24 b25 lo_b25 hi_b25 hB27 E26
    have dj28 : ¬ F9 b25 := fun hf => by have := (hTM.lt _ hf).2; omega
    have z_w24 := E26.size
    have hr := hr.keep0 E26
    have hTM := hTM.keepG (Gr.of0 E26 NoB) (fun _ _ h => h)
    have hb := below_step0 hb E26 hb.size
    refine ke_end rfl (by decide) rfl hr ?_
    intro w29 E29 _ a29 hN29 hbs29 hdp29 o_ ho_; obtain rfl := Option.some.inj ho_
    have z_w29 := E29.size
    have hr := hr.keep0 E29
    have hTM := hTM.keepG (Gr.of0 E29 NoB) (fun _ _ h => h)
    have hB27 := hB27.keep0 E29
    have hb := below_step0 hb E29 hb.size
    have q29_21 : Sl a29 21 (ptr p10 0) := (hdp29 0 _ 21 (by kernel_rfl) rfl rfl).2 rfl
    have q29_33 : Sl a29 33 (Value.slice (some ⟨b25, 0, none⟩) 2 2) := (Option.some.inj ((hdp29 12 _ 33 (by kernel_rfl) rfl rfl).1 0 rfl)).symm
    have q29_34 : Sl a29 34 (Value.int .i64 ((i : Nat) : Int)) := (hdp29 13 _ 34 (by kernel_rfl) rfl rfl).2 rfl
    refine op_fn (vs := [(ptr p10 0), (Value.slice (some ⟨b25, 0, none⟩) 2 2), (Value.int .i64 ((i : Nat) : Int))]) ok23 ⟨(ev_base hN29 rfl q29_21), ⟨(ev_base hN29 rfl q29_33), ⟨(ev_base hN29 rfl q29_34), trivial⟩⟩⟩ (putLsI (k := [(UInt8.ofNat ((l.getD i 0).toNat / 256)), (UInt8.ofNat (l.getD i 0).toNat)]) (x := ((i : Nat) : Int)) hTM hb.size (RdC.ofBx (sz := 1) (n := 2) hB27 rfl (by decide)) (by have := hB27.lt; omega) (hapB dj28) (by simp; done)) ?_
    rintro _ w31 ⟨E32, rfl, F30, hT30, hN30⟩
    have bd33 := hB27.lt
    have hTM_old := hTM
    have z_w31 := E32.size
    have hr := hr.keepG E32 (fun k hk => .inr (by have := hTM_old.lt k hk; omega))
    have hB27 := hB27.keepG E32 dj28
    have hb := below_stepG hb E32 hb.size (fun k hk => (hTM_old.lt k hk).1)
    have dj34 : ¬ F30 b25 := ne_stepF hN30 bd33 dj28
    refine ke_end rfl (by decide) rfl hr ?_
    intro w35 E35 a35 hN35 hd35 hbs35 hph35
    have hd35 := hd35.trans ((by simp only [putsL_defers] : _ = _).trans hd16)
    have z_w35 := E35.size
    have hr := hr.keep0 E35
    have hB27 := hB27.keep0 E35
    have hT30 := hT30.keepG (Gr.of0 E35 NoB) (fun _ _ h => h)
    have hb := below_step0 hb E35 hb.size
    have s35_0 := (hbs35 0 rfl).trans (sl_base hN16 rfl s16_0)
    have s35_1 := (hbs35 1 rfl).trans (sl_base hN16 rfl s16_1)
    have s35_4 := (hbs35 4 rfl).trans (sl_base hN16 rfl s16_4)
    have s35_5 := (hbs35 5 rfl).trans (sl_base hN16 rfl s16_5)
    have s35_6 := (hbs35 6 rfl).trans (sl_base hN16 rfl s16_6)
    refine hK19 _ _ ?_
    refine one_reg ?_
    refine op_move (ev_base hN35 rfl s35_6) ?_
    refine op_add (ev_hit hN35 rfl) rfl (add64 (by omega)) ?_
    refine op_assign (ev_hit hN35 rfl) ?_
    refine reg_nil ?_
    -- round 13F 18T
    exact loop_next _ hN35 hd35 ⟨(i + 1), (putL ([(UInt8.ofNat ((l.getD i 0).toNat / 256)), (UInt8.ofNat (l.getD i 0).toNat)]) ((i : Nat) : Int) M), F30, rfl, (sl_base hN35 rfl s35_0), (sl_base hN35 rfl s35_1), (sl_base hN35 rfl s35_4), (sl_base hN35 rfl s35_5), (sl_hit hN35 rfl).trans (congrArg (Value.int .i64) (by omega)), (by omega), (put_len hsM hlM), (put_short hsh), hb, (by omega), hr, hT30⟩ (by omega)
  · -- 18F
   refine reg_nil ?_
   refine hK18 _ _ ?_
   refine wp_cond_false (ev_hit hN16 rfl) ?_
   refine wp_exit (then_exit (then_exit (blk_hit ?_)))
   refine hK14 _ _ ?_
   refine seq_any fun K36 hK36 => ?_
   refine wp_block ?_
   refine loop_m (fun mz_ az_ w' => ∃ (M2 : List (Ky × Int)) (F2 : Nat → Prop), mz_ = (M2.length + 1) ∧ (az_.tmps.getD 1 undef = (Value.int .u8 (step.toNat : Int))) ∧ (az_.tmps.getD 5 undef = (ptr p10 0)) ∧ (∀ q ∈ M2, q.1.length = 2) ∧ (M2.length ≤ 80) ∧ (Below w.heap.size w w') ∧ (w16.heap.size ≤ w'.heap.size) ∧ (RdC w' 0 w.heap.size 1 vl l.length (l.map u16v)) ∧ (TopL kI 71 w.heap.size w' p10 M2 F2)) _ hN16 hd16 ⟨M, F9, rfl, (sl_base hN16 rfl s16_1), (sl_base hN16 rfl s16_5), hsh, (by omega), hb, (Nat.le_refl _), hr, hTM⟩ ?_
   rintro _ a37 w37 hN37 hd37 ⟨M2, F2, rfl, s37_1, s37_5, hs2, hl2, hb, zl_w37, hr, hT2⟩
   have z_w37 := hb.size
   refine seq_any fun K38 hK38 => ?_
   refine seq_any fun K39 hK39 => ?_
   refine one_reg ?_
   refine op_move (ev_base hN37 rfl s37_5) ?_
   refine op_fn (vs := [(ptr p10 0)]) ok25 ⟨(ev_hit hN37 rfl), trivial⟩ (lenLsI hT2 (by omega)) ?_
   rintro _ w40 ⟨E41, rfl⟩
   have E41 := grown_of_below E41
   have z_w40 := E41.size
   have hr := hr.keep0 E41
   have hT2 := hT2.keepG (Gr.of0 E41 NoB) (fun _ _ h => h)
   have hb := below_step0 hb E41 hb.size
   refine op_gtr (ev_hit hN37 rfl) rfl (fun c38 => ?_) (fun c38 => ?_)
   · -- 38T
    refine reg_nil ?_
    refine hK39 _ _ ?_
    refine wp_cond_true (ev_hit hN37 rfl) ?_
    refine wp_skip ?_
    refine hK38 _ _ ?_
    refine wp_block ?_
    refine seq_any fun K42 hK42 => ?_
    refine one_reg ?_
    refine op_move (ev_base hN37 rfl s37_5) ?_
    have bd44 := hT2.lt
    refine op_fn (vs := [(ptr p10 0), (Value.slice none 0 0), (Value.int .i64 1000)]) ok24 ⟨(ev_hit hN37 rfl), ⟨rfl, ⟨rfl, trivial⟩⟩⟩ (scanLsI (m := 1000) (x := ([] : List UInt8)) hT2 (fun q hq => by rw [hs2 q hq]; decide) (RdC.nil _ _ _ _) (by omega) (by omega)) ?_
    rintro v43 w45 ⟨E46, D43, hO43, hks43, hE43, hpw43⟩
    have dj47 : Dj F2 (Bl v43) := Dj.fresh (fun k hk => (hT2.lt k hk).2) (fun k hk => (hO43.lt k hk).1)
    have E46 := grown_of_below E46
    have z_w45 := E46.size
    have hr := hr.keep0 E46
    have hT2 := hT2.keepG (Gr.of0 E46 NoB) (fun _ _ h => h)
    have hb := below_step0 hb E46 hb.size
    have djk48 : ∀ x9 ∈ (D43.map pk), Dj (Bl x9.1) F2 := fun x9 h9 k hk hf => by have q1 := (hks43 x9 h9).lt k hk; have q2 := (bd44 k hf).2; omega
    have hO43 := hO43.mono (base' := w.heap.size) (by omega)
    have hks43 : ∀ x9 ∈ (D43.map pk), Own w45 w.heap.size 5 1 x9.1 x9.2.length (x9.2.map u8v) := fun x9 h9 => (hks43 x9 h9).mono (by omega)
    refine op_assign (ev_hit hN37 rfl) ?_
    refine reg_nil ?_
    refine hK42 _ _ ?_
    refine seq_any fun K49 hK49 => ?_
    refine seq_any fun K50 hK50 => ?_
    refine one_reg ?_
    have e0 : D43.map Prod.snd = M2 := by have q := hE43; rw [geL_nil, List.take_of_length_le (show M2.length ≤ _ from Nat.le_trans hl2 (by decide))] at q; exact q
    have hlen_D43 : D43.length = M2.length := by have := congrArg List.length e0; simpa using this
    have hsT := hT2.sorted
    refine op_move (ev_hit hN37 rfl) ?_
    refine op_len_rd Try.underlying48 (ev_hit hN37 rfl) hO43.rdw ?_
    refine op_eql (ev_hit hN37 rfl) rfl (fun c43 => ?_) (fun c43 => ?_)
    · -- 43T
     exfalso; omega
    · -- 43F
     refine reg_nil ?_
     refine hK50 _ _ ?_
     refine wp_cond_false (ev_hit hN37 rfl) ?_
     refine wp_skip ?_
     refine hK49 _ _ ?_
     refine seq_any fun K51 hK51 => ?_
     refine one_reg ?_
     refine op_move (ev_base hN37 rfl s37_1) ?_
     refine op_conv (r := (step.toNat : Int)) (ev_hit hN37 rfl) us5 Try.underlying3 (wrap_i64 (by have := (step).toNat_lt; omega)) ?_
     refine op_mul (r := ((step.toNat * 7 : Nat) : Int)) (ev_hit hN37 rfl) rfl ((mul64 (by omega)).trans (by omega)) ?_
     refine op_move (ev_hit hN37 rfl) ?_
     refine op_len_rd Try.underlying48 (ev_hit hN37 rfl) hO43.rdw ?_
     refine op_rem (r := (((step.toNat * 7 % D43.length) : Nat) : Int)) (ev_hit hN37 rfl) (ev_hit hN37 rfl) (by omega) (by rw [Int.tmod_eq_emod_of_nonneg (by omega)]; exact (Int.natCast_emod _ _).symm) ?_
     refine op_assign (ev_hit hN37 rfl) ?_
     refine reg_nil ?_
     refine hK51 _ _ ?_
     refine seq_any fun K52 hK52 => ?_
     refine one_reg ?_
     have hk9 : (step.toNat * 7 % D43.length) < D43.length := Nat.mod_lt _ (by omega)
     have hatk := d0_at e0 (j := (step.toNat * 7 % D43.length)) (by omega)
     have hcon : (ks1 M2).contains (D43.getD (step.toNat * 7 % D43.length) default).2.1 = true := by rw [hatk]; exact has_iff.2 ⟨_, getD_mem9 (show (step.toNat * 7 % D43.length) < M2.length by omega), rfl⟩
     have hcon2 : (ks1 (Go.Bt.dropL (D43.getD (step.toNat * 7 % D43.length) default).2.1 M2)).contains (D43.getD (step.toNat * 7 % D43.length) default).2.1 = false := dropL_gone
     have hln := dropL_len (k := (D43.getD (step.toNat * 7 % D43.length) default).2.1) hsT
     rw [hcon] at hln
     simp only [if_true] at hln
     have hdd : Go.Bt.dropL (D43.getD (step.toNat * 7 % D43.length) default).2.1 (Go.Bt.dropL (D43.getD (step.toNat * 7 % D43.length) default).2.1 M2) = Go.Bt.dropL (D43.getD (step.toNat * 7 % D43.length) default).2.1 M2 := dropL_no hcon2 (dropL_sorted hsT)
     have hln2 : (Go.Bt.dropL (D43.getD (step.toNat * 7 % D43.length) default).2.1 (Go.Bt.dropL (D43.getD (step.toNat * 7 % D43.length) default).2.1 M2)).length + 1 = M2.length := by rw [hdd]; exact hln
     refine op_move (ev_base hN37 rfl s37_5) ?_
     refine op_move (ev_hit hN37 rfl) ?_
     refine op_move (ev_hit hN37 rfl) ?_
     refine op_index_rd slt48 (ev_hit hN37 rfl) hO43.rdw (ev_hit hN37 rfl) (by omega) (by omega) ?_
     intro b53 o54 h0b53 h1b53 hc55
     refine op_field fld51_0 (ev_hit hN37 rfl) ?_
     refine op_load1 (v := (D43.getD (step.toNat * 7 % D43.length) default).1) one27 (ev_hit hN37 rfl) (hc55 0 ((D43.getD (step.toNat * 7 % D43.length) default).1) (by decide) ((el_pI (i := (step.toNat * 7 % D43.length)) (by omega) (by first | omega | (simp only [List.length_drop, List.length_take]; omega))) 0 ((D43.getD (step.toNat * 7 % D43.length) default).1) rfl)) ?_
     refine op_fn (vs := [(ptr p10 0), (D43.getD (step.toNat * 7 % D43.length) default).1]) ok28 ⟨(ev_hit hN37 rfl), ⟨(ev_hit hN37 rfl), trivial⟩⟩ (dropLs (k := (D43.getD (step.toNat * 7 % D43.length) default).2.1) hT2 hb.size ((show Own _ _ _ _ (D43.getD (step.toNat * 7 % D43.length) default).1 (D43.getD (step.toNat * 7 % D43.length) default).2.1.length ((D43.getD (step.toNat * 7 % D43.length) default).2.1.map u8v) from hks43 (pk (D43.getD (step.toNat * 7 % D43.length) default)) (List.mem_map.2 ⟨(D43.getD (step.toNat * 7 % D43.length) default), (getD_mem (by first | omega | (simp only [List.length_drop, List.length_take]; omega))), rfl⟩)).rdw.mono (Nat.zero_le _) (by omega))) ?_
     rintro _ w57 ⟨E58, rfl, F56, hT56, hN56⟩
     have bd59 := hO43.lt
     have bd60 := fun x9 (hx9 : x9 ∈ (D43.map pk)) => (hks43 x9 hx9).lt
     have hT2_old := hT2
     have z_w57 := E58.size
     have hr := hr.keepG E58 (fun k hk => .inr (by have := hT2_old.lt k hk; omega))
     have hO43 := hO43.keepG E58 dj47.symm
     have hks43 : ∀ x9 ∈ (D43.map pk), Own w57 w.heap.size 5 1 x9.1 x9.2.length (x9.2.map u8v) := fun x9 hx9 => (hks43 x9 hx9).keepG E58 (djk48 x9 hx9)
     have hb := below_stepG hb E58 hb.size (fun k hk => (hT2_old.lt k hk).1)
     have dj61 : Dj (Bl v43) F56 := Dj.stepF hN56 (fun k hk => (bd59 k hk).2) dj47.symm
     have dj62 : ∀ x9 ∈ (D43.map pk), Dj (Bl x9.1) F56 := fun x9 hx9 => Dj.stepF hN56 (fun k hk => (bd60 x9 hx9 k hk).2) (djk48 x9 hx9)
     rcases Bool.eq_false_or_eq_true (((ks1 M2).contains ((D43.getD (step.toNat * 7 % D43.length) default).2.1))) with c56 | c56
     · -- 56T
      rw [c56]
      refine op_not (ev_hit hN37 rfl) ?_
      refine op_move (ev_hit hN37 rfl) ?_
      refine g_true (j := 8) (dj := 58) (b := false) rfl rfl rfl (ev_hit hN37 rfl) ?_
      refine op_move (ev_base hN37 rfl s37_5) ?_
      refine g_true (j := 8) (dj := 58) (b := false) rfl rfl rfl (ev_hit hN37 rfl) ?_
      refine op_move (ev_hit hN37 rfl) ?_
      refine g_true (j := 8) (dj := 58) (b := false) rfl rfl rfl (ev_hit hN37 rfl) ?_
      refine op_move (ev_hit hN37 rfl) ?_
      refine g_true (j := 8) (dj := 58) (b := false) rfl rfl rfl (ev_hit hN37 rfl) ?_
      refine op_index_rd slt48 (ev_hit hN37 rfl) hO43.rdw (ev_hit hN37 rfl) (by omega) (by omega) ?_
      intro b63 o64 h0b63 h1b63 hc65
      refine g_true (j := 8) (dj := 58) (b := false) rfl rfl rfl (ev_hit hN37 rfl) ?_
      refine op_field fld51_0 (ev_hit hN37 rfl) ?_
      refine g_true (j := 8) (dj := 58) (b := false) rfl rfl rfl (ev_hit hN37 rfl) ?_
      refine op_load1 (v := (D43.getD (step.toNat * 7 % D43.length) default).1) one27 (ev_hit hN37 rfl) (hc65 0 ((D43.getD (step.toNat * 7 % D43.length) default).1) (by decide) ((el_pI (i := (step.toNat * 7 % D43.length)) (by omega) (by first | omega | (simp only [List.length_drop, List.length_take]; omega))) 0 ((D43.getD (step.toNat * 7 % D43.length) default).1) rfl)) ?_
      refine g_true (j := 8) (dj := 58) (b := false) rfl rfl rfl (ev_hit hN37 rfl) ?_
      refine op_fn (vs := [(ptr p10 0), (D43.getD (step.toNat * 7 % D43.length) default).1]) ok28 ⟨(ev_hit hN37 rfl), ⟨(ev_hit hN37 rfl), trivial⟩⟩ (dropLs (k := (D43.getD (step.toNat * 7 % D43.length) default).2.1) hT56 hb.size ((show Own _ _ _ _ (D43.getD (step.toNat * 7 % D43.length) default).1 (D43.getD (step.toNat * 7 % D43.length) default).2.1.length ((D43.getD (step.toNat * 7 % D43.length) default).2.1.map u8v) from hks43 (pk (D43.getD (step.toNat * 7 % D43.length) default)) (List.mem_map.2 ⟨(D43.getD (step.toNat * 7 % D43.length) default), (getD_mem (by first | omega | (simp only [List.length_drop, List.length_take]; omega))), rfl⟩)).rdw.mono (Nat.zero_le _) (by omega))) ?_
      rintro _ w67 ⟨E68, rfl, F66, hT66, hN66⟩
      have bd69 := hO43.lt
      have bd70 := fun x9 (hx9 : x9 ∈ (D43.map pk)) => (hks43 x9 hx9).lt
      have hT56_old := hT56
      have z_w67 := E68.size
      have hr := hr.keepG E68 (fun k hk => .inr (by have := hT56_old.lt k hk; omega))
      have hO43 := hO43.keepG E68 dj61
      have hks43 : ∀ x9 ∈ (D43.map pk), Own w67 w.heap.size 5 1 x9.1 x9.2.length (x9.2.map u8v) := fun x9 hx9 => (hks43 x9 hx9).keepG E68 (dj62 x9 hx9)
      have hb := below_stepG hb E68 hb.size (fun k hk => (hT56_old.lt k hk).1)
      have dj71 : Dj (Bl v43) F66 := Dj.stepF hN66 (fun k hk => (bd69 k hk).2) dj61
      have dj72 : ∀ x9 ∈ (D43.map pk), Dj (Bl x9.1) F66 := fun x9 hx9 => Dj.stepF hN66 (fun k hk => (bd70 x9 hx9 k hk).2) (dj62 x9 hx9)
      rcases Bool.eq_false_or_eq_true (((ks1 (Go.Bt.dropL ((D43.getD (step.toNat * 7 % D43.length) default).2.1) M2)).contains ((D43.getD (step.toNat * 7 % D43.length) default).2.1))) with c65 | c65
      · -- 65T
       exact absurd c65 (by rw [hcon2]; decide)
      · -- 65F
       rw [c65]
       refine op_pick_f (ev_hit hN37 rfl) (ev_hit hN37 rfl) ?_
       refine op_move (ev_hit hN37 rfl) ?_
       refine g_true (j := 17) (dj := 67) (b := false) rfl rfl rfl (ev_hit hN37 rfl) ?_
       refine op_move (ev_base hN37 rfl s37_5) ?_
       refine g_true (j := 17) (dj := 67) (b := false) rfl rfl rfl (ev_hit hN37 rfl) ?_
       refine op_fn (vs := [(ptr p10 0)]) ok26 ⟨(ev_hit hN37 rfl), trivial⟩ (shapeLs hT66 (by omega)) ?_
       rintro _ w73 ⟨E74, rfl⟩
       have E74 := grown_of_below E74
       have z_w73 := E74.size
       have hr := hr.keep0 E74
       have hO43 := hO43.keep0 E74
       have hks43 : ∀ x9 ∈ (D43.map pk), Own w73 w.heap.size 5 1 x9.1 x9.2.length (x9.2.map u8v) := fun x9 hx9 => (hks43 x9 hx9).keep0 E74
       have hT66 := hT66.keepG (Gr.of0 E74 NoB) (fun _ _ h => h)
       have hb := below_step0 hb E74 hb.size
       refine g_true (j := 17) (dj := 67) (b := false) rfl rfl rfl (ev_hit hN37 rfl) ?_
       refine op_not (ev_hit hN37 rfl) ?_
       refine op_pick_f (ev_hit hN37 rfl) (ev_hit hN37 rfl) ?_
       refine op_move (ev_hit hN37 rfl) ?_
       refine g_true (j := 22) (dj := 72) (b := false) rfl rfl rfl (ev_hit hN37 rfl) ?_
       refine op_move (ev_base hN37 rfl s37_5) ?_
       refine g_true (j := 22) (dj := 72) (b := false) rfl rfl rfl (ev_hit hN37 rfl) ?_
       refine op_fn (vs := [(ptr p10 0)]) ok25 ⟨(ev_hit hN37 rfl), trivial⟩ (lenLsI hT66 (by omega)) ?_
       rintro _ w75 ⟨E76, rfl⟩
       have E76 := grown_of_below E76
       have z_w75 := E76.size
       have hr := hr.keep0 E76
       have hO43 := hO43.keep0 E76
       have hks43 : ∀ x9 ∈ (D43.map pk), Own w75 w.heap.size 5 1 x9.1 x9.2.length (x9.2.map u8v) := fun x9 hx9 => (hks43 x9 hx9).keep0 E76
       have hT66 := hT66.keepG (Gr.of0 E76 NoB) (fun _ _ h => h)
       have hb := below_step0 hb E76 hb.size
       refine g_true (j := 22) (dj := 72) (b := false) rfl rfl rfl (ev_hit hN37 rfl) ?_
       refine op_move (ev_hit hN37 rfl) ?_
       refine g_true (j := 22) (dj := 72) (b := false) rfl rfl rfl (ev_hit hN37 rfl) ?_
       refine op_len_rd Try.underlying48 (ev_hit hN37 rfl) hO43.rdw ?_
       refine g_true (j := 22) (dj := 72) (b := false) rfl rfl rfl (ev_hit hN37 rfl) ?_
       refine op_sub (r := ((D43.length - 1 : Nat) : Int)) (ev_hit hN37 rfl) rfl ((sub64 (by omega)).trans (by omega)) ?_
       refine g_true (j := 22) (dj := 72) (b := false) rfl rfl rfl (ev_hit hN37 rfl) ?_
       refine op_neq (ev_hit hN37 rfl) (ev_hit hN37 rfl) (fun c78 => ?_) (fun c78 => ?_)
       · -- 78T
        exfalso; omega
       · -- 78F
        refine op_pick_f (ev_hit hN37 rfl) (ev_hit hN37 rfl) ?_
        refine reg_nil ?_
        refine hK52 _ _ ?_
        refine wp_cond_false (ev_hit hN37 rfl) ?_
        refine wp_skip ?_
        refine blk_normal ?_
        -- round 13F 18F 38T 43F 56T 65F 78F
        exact loop_next _ hN37 hd37 ⟨(Go.Bt.dropL ((D43.getD (step.toNat * 7 % D43.length) default).2.1) (Go.Bt.dropL ((D43.getD (step.toNat * 7 % D43.length) default).2.1) M2)), F66, rfl, (sl_base hN37 rfl s37_1), (sl_base hN37 rfl s37_5), (fun q hq => hs2 q (mem_dropL.1 (mem_dropL.1 hq).2).2), (by omega), hb, (by omega), hr, hT66⟩ (by omega)
     · -- 56F
      exact absurd hcon (by rw [c56]; decide)
   · -- 38F
    refine reg_nil ?_
    refine hK39 _ _ ?_
    refine wp_cond_false (ev_hit hN37 rfl) ?_
    refine wp_exit (then_exit (then_exit (blk_hit ?_)))
    refine hK36 _ _ ?_
    refine seq_any fun K77 hK77 => ?_
    refine one_reg ?_
    have hM0 : M2 = [] := List.eq_nil_of_length_eq_zero (by omega)
    have hc0 : (ks1 M2).contains [1] = false := by rw [hM0]; rfl
    have hl0 : (putL ([1] : Ky) 1 M2).length = 1 := by rw [hM0]; rfl
    refine op_move (ev_base hN37 rfl s37_5) ?_
    refine op_fn (vs := [(ptr p10 0)]) ok33 ⟨(ev_hit hN37 rfl), trivial⟩ (levLsI hT2 (by omega)) ?_
    rintro v78 w79 ⟨E80, LL78, LV78, hO78, hA78, hlev78, hLK78⟩
    have dj81 : Dj F2 (Bl v78) := Dj.fresh (fun k hk => (hT2.lt k hk).2) (fun k hk => (hO78.lt k hk).1)
    have E80 := grown_of_below E80
    have z_w79 := E80.size
    have hr := hr.keep0 E80
    have hT2 := hT2.keepG (Gr.of0 E80 NoB) (fun _ _ h => h)
    have hb := below_step0 hb E80 hb.size
    have hLn78 := lev_len hlev78
    have hz78 := hLK78.zero
    have hle78 := hLK78.le
    have hO78 := hO78.mono (base' := w.heap.size) (by omega)
    have hA78 : ∀ x9 ∈ LL78, Own w79 w.heap.size 3 1 x9.1 x9.2.length (x9.2.map (Value.int .i64)) := fun x9 h9 => (hA78 x9 h9).mono (by omega)
    refine op_len_rd Try.underlying28 (ev_hit hN37 rfl) hO78.rdw ?_
    refine op_eql (ev_hit hN37 rfl) rfl (fun c83 => ?_) (fun c83 => ?_)
    · -- 83T
     refine op_move (ev_hit hN37 rfl) ?_
     skip
     refine g_true (j := 4) (dj := 84) (b := true) rfl rfl rfl (ev_hit hN37 rfl) ?_
     refine op_move (ev_base hN37 rfl s37_5) ?_
     refine g_true (j := 4) (dj := 84) (b := true) rfl rfl rfl (ev_hit hN37 rfl) ?_
     refine op_bslice (e := 5) (pv := [(0, (Value.int .u8 1))]) (cs := [(Value.int .u8 1)]) ⟨rfl, rfl, trivial⟩ (by kernel_rfl) ?_
     intro w82 b83 lo_b83 hi_b83 hB85 E84
     have dj86 : ¬ F2 b83 := fun hf => by have := (hT2.lt _ hf).2; omega
     have z_w82 := E84.size
     have hr := hr.keep0 E84
     have hT2 := hT2.keepG (Gr.of0 E84 NoB) (fun _ _ h => h)
     have hb := below_step0 hb E84 hb.size
     refine g_true (j := 4) (dj := 84) (b := true) rfl rfl rfl (ev_hit hN37 rfl) ?_
     refine op_fn (vs := [(ptr p10 0), (Value.slice (some ⟨b83, 0, none⟩) 1 1), (Value.int .i64 1)]) ok23 ⟨(ev_hit hN37 rfl), ⟨(ev_hit hN37 rfl), ⟨rfl, trivial⟩⟩⟩ (putLsI (k := [1]) (x := 1) hT2 hb.size (RdC.ofBx (sz := 1) (n := 1) hB85 rfl (by decide)) (by have := hB85.lt; omega) (hapB dj86) (by simp; done)) ?_
     rintro _ w88 ⟨E89, rfl, F87, hT87, hN87⟩
     have bd90 := hB85.lt
     have hT2_old := hT2
     have z_w88 := E89.size
     have hr := hr.keepG E89 (fun k hk => .inr (by have := hT2_old.lt k hk; omega))
     have hB85 := hB85.keepG E89 dj86
     have hb := below_stepG hb E89 hb.size (fun k hk => (hT2_old.lt k hk).1)
     have dj91 : ¬ F87 b83 := ne_stepF hN87 bd90 dj86
     rcases Bool.eq_false_or_eq_true (((ks1 M2).contains ([1]))) with c87 | c87
     · -- 87T
      exact absurd c87 (by rw [hc0]; decide)
     · -- 87F
      rw [c87]
      refine g_true (j := 4) (dj := 84) (b := true) rfl rfl rfl (ev_hit hN37 rfl) ?_
      refine op_not (ev_hit hN37 rfl) ?_
      refine op_pick_t (ev_hit hN37 rfl) (ev_hit hN37 rfl) ?_
      refine op_move (ev_hit hN37 rfl) ?_
      refine g_true (j := 10) (dj := 90) (b := true) rfl rfl rfl (ev_hit hN37 rfl) ?_
      refine op_move (ev_base hN37 rfl s37_5) ?_
      refine g_true (j := 10) (dj := 90) (b := true) rfl rfl rfl (ev_hit hN37 rfl) ?_
      refine op_fn (vs := [(ptr p10 0)]) ok25 ⟨(ev_hit hN37 rfl), trivial⟩ (lenLsI hT87 (by omega)) ?_
      rintro _ w92 ⟨E93, rfl⟩
      have E93 := grown_of_below E93
      have z_w92 := E93.size
      have hr := hr.keep0 E93
      have hB85 := hB85.keep0 E93
      have hT87 := hT87.keepG (Gr.of0 E93 NoB) (fun _ _ h => h)
      have hb := below_step0 hb E93 hb.size
      refine g_true (j := 10) (dj := 90) (b := true) rfl rfl rfl (ev_hit hN37 rfl) ?_
      refine op_eql (ev_hit hN37 rfl) rfl (fun c93 => ?_) (fun c93 => ?_)
      · -- 93T
       refine op_pick_t (ev_hit hN37 rfl) (ev_hit hN37 rfl) ?_
       refine op_assign (ev_hit hN37 rfl) ?_
       refine reg_nil ?_
       refine hK77 _ _ ?_
       refine wp_ret ?_
       refine ret1 rfl hd37 (ev_hit hN37 rfl) ⟨_, rfl, ?_⟩
       -- path 13F 18F 38F 83T 87F 93T
       exact ⟨hb, rfl⟩
      · -- 93F
       exfalso; omega
    · -- 83F
     exfalso; omega

end Go.Proofs.Ytcpfdfejojghbaa

/- What the arguments of the laws are, told by their types. -/
namespace Go.Proofs.Ytcpfdfejojghbaa
open Go.Gx Go.RowKit
theorem rd_le {w : World} {L B sz n : Nat} {v : Value} {cs : List Value} (h : RdC w L B sz v n cs) : n ≤ 9223372036854775807 := by obtain ⟨_, _, _, _, hq, hm, _⟩ := h; exact Nat.le_trans hq hm
theorem cells37 : Try.prog.cellsOf 37 = 1 := by kernel_rfl
theorem flat_u16v (l : List UInt16) : l.flatMap (fun c => [u16v c]) = l.map u16v := by induction l with | nil => rfl | cons c l ih => simp [ih]
theorem dec33 {H : Type} {enc : TypeId × Value → H} {w : World} {base : Nat} {spare : Nat → Bool} {held : Bool} : Dec enc Try.prog w base spare held 33 (fun p : Value × List UInt16 => [p.1]) (fun p => RdC w 0 w.heap.size 1 p.1 p.2.length (p.2.map u16v)) :=
  (Dec.slice Try.underlying33 (by rw [cells37]; decide) (Dec.u16 Try.underlying37) (fun _ _ => by rw [cells37]; rfl)).map fun p hp => ⟨p, rfl, by have hq := hp.1; rwa [cells37, flat_u16v] at hq⟩
end Go.Proofs.Ytcpfdfejojghbaa
