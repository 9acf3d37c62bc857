/- Walks, written by a program: what each function of the translation hands back. -/
import Derived.Test.YtcpfdfejojghbaaB4
namespace Go.Proofs.Ytcpfdfejojghbaa
open Go.Gx Go.RowKit
attribute [local irreducible] wpList wpStill Code.wp Calls
open Go.Bt
theorem putNA {h : Nat} {k : List UInt8} {yv : Value} {x : Int × Int} {R W G : Nat → Prop} {p : Nat} {kv cv : Value} {K : List DK} {P : List Nat} {cs : List (Tr (Int × Int) h)} {w : World} (IH : PutA h) (hNd : NodeR kA R w p kv cv K P G W) (hKs : KidsR kA R w h P cs G) (hO : Nd h (K.map Prod.snd) cs) (hz : ∀ c ∈ cs, okSz h c) (hn : K.length ≤ 6) (hk : Own w 0 5 1 yv k.length (k.map u8v)) (hkr : ∀ j, Bl yv j → R j) : Ret Try.prog 43 #[(ptr p 0), (Value.agg #[yv, (Value.int .i64 x.1), (Value.int .i64 x.2)])] w (fun v' w' => Gr w w' W ∧ ∃ u m, v' = .tuple #[.bool (putT (h + 1) k x ((K.map Prod.snd, cs) : Tr (Int × Int) (h + 1))).1, u, m] ∧ OutR kA R w' w.heap.size W (h + 1) p (putT (h + 1) k x ((K.map Prod.snd, cs) : Tr (Int × Int) (h + 1))).2 u m) := by
 have hx : Bx w p 105 [.slice none 0 0, kv, cv] := hNd.bx
 have ok := hNd.ok
 have oc : Own w 0 99 1 cv P.length (P.flatMap cN) := hNd.oc
 have ks := hNd.ks
 have hs := hO.2.1
 have hi_p := hx.lt
 have hPc : P.length = cs.length := hKs.len
 have hcl : cs.length = K.length + 1 := hO.1.trans (by simp)
 have hPl : P.length = K.length + 1 := hPc.trans hcl
 have hwl : (way (K.map Prod.snd) k) ≤ K.length := by have := way_le (K.map Prod.snd) k; simpa using this
 obtain ⟨c, hc, hcO, hcw⟩ := hO.at (i := (way (K.map Prod.snd) k)) (by simpa using hwl)
 have hic : (way (K.map Prod.snd) k) < cs.length := by omega
 obtain ⟨f, G0, hkid, hrest, hfG, hfs, hGs⟩ := Kids.cutc hKs hc
 have hkid : TreeR kA R w h (P.getD (way (K.map Prod.snd) k) default) c f := hkid
 have hrest : KidsR kA R w h (P.eraseIdx (way (K.map Prod.snd) k)) (cs.eraseIdx (way (K.map Prod.snd) k)) G0 := hrest
 have djpf : ¬ f p := fun q => hNd.np (hfs p q)
 have djpG : ¬ G0 p := fun q => hNd.np (hGs p q)
 have djkf := hNd.nk.mono hfs
 have djkG := hNd.nk.mono hGs
 have djcf := hNd.nc.mono hfs
 have djcG := hNd.nc.mono hGs
 have hb := Gr.refl w W
 refine enter (N := 92) Try.func43 rfl rfl (by simp) fun a0 hN hd hA => ?_
 have s0 : a0.tmps.getD 0 undef = (ptr p 0) := hA 0 (by simp)
 have s1 : a0.tmps.getD 1 undef = (Value.agg #[yv, (Value.int .i64 x.1), (Value.int .i64 x.2)]) := hA 1 (by simp)
 clear hA
 refine seq_any fun K228 hK228 => one_reg (op_box (cs := [yv, (Value.int .i64 x.1), (Value.int .i64 x.2)]) (ev_base hN rfl s1) rfl ?_)
 intro w229 b230 lo_b230 hi_b230 hB232 E231
 have dj233 : ¬ f b230 := fun hf => by have := (hkid.lt _ hf).2; omega
 have z_w229 := E231.size
 have hx := hx.keep0 E231
 have ok := ok.keep0 E231
 have oc := oc.keep0 E231
 have ks := all9 ks fun _ h => h.keep0 E231
 have hk := hk.keep0 E231
 have hkid := hkid.keepG (Gr.of0 E231 NoB) (fun _ _ h => h) (NoK.no _)
 have hrest := hrest.keepG (Gr.of0 E231 NoB) (fun _ _ h => h) (NoK.no _)
 have hb := hb.step0 E231
 refine op_assign rfl (op_assign rfl (op_assign rfl ?_))
 refine reg_nil (hK228 _ _ (seq_any fun K235 hK235 => seq_any fun K236 hK236 => one_reg (op_move (ev_base hN rfl s0) (op_fn (vs := [(ptr p 0)]) ok70 ⟨(ev_hit hN rfl), trivial⟩ (Ret.flip (leafNA hx ok oc (by omega) (by omega))) ?_))))
 rintro _ _ ⟨rfl, rfl⟩
 refine reg_nil (hK236 _ _ (wp_cond_false (ev_hit hN rfl) ?_))
 refine seq_any fun K237 hK237 => one_reg (op_move (ev_base hN rfl s0) (op_field fld109_0 (ev_hit hN rfl) (op_load1 (v := yv) one27 (ev_hit hN rfl) (hB232.cell rfl) (op_fn (vs := [(ptr p 0), yv]) ok73 ⟨(ev_hit hN rfl), ⟨(ev_hit hN rfl), trivial⟩⟩ (wayA hx ok oc ks hs (by omega) (hk.rdw.mono (Nat.zero_le _) (by omega))) ?_))))
 rintro _ w238 ⟨E239, rfl⟩
 have E239 := grown_of_below E239
 have z_w238 := E239.size
 have hx := hx.keep0 E239
 have ok := ok.keep0 E239
 have oc := oc.keep0 E239
 have ks := all9 ks fun _ h => h.keep0 E239
 have hk := hk.keep0 E239
 have hkid := hkid.keepG (Gr.of0 E239 NoB) (fun _ _ h => h) (NoK.no _)
 have hrest := hrest.keepG (Gr.of0 E239 NoB) (fun _ _ h => h) (NoK.no _)
 have hB232 := hB232.keep0 E239
 have hb := hb.step0 E239
 refine op_assign (ev_hit hN rfl) ?_
 refine reg_nil (hK237 _ _ (seq_any fun K240 hK240 => one_reg (op_assign rfl (reg_nil (hK240 _ _ ?_)))))
 refine seq_any fun K241 hK241 => one_reg (op_assign rfl (reg_nil (hK241 _ _ (seq_any fun K242 hK242 => reg_from mixed ?_))))
 intro w244 E243
 have z_w244 := E243.size
 have hx := hx.keep0 E243
 have ok := ok.keep0 E243
 have oc := oc.keep0 E243
 have ks := all9 ks fun _ h => h.keep0 E243
 have hk := hk.keep0 E243
 have hkid := hkid.keepG (Gr.of0 E243 NoB) (fun _ _ h => h) (NoK.no _)
 have hrest := hrest.keepG (Gr.of0 E243 NoB) (fun _ _ h => h) (NoK.no _)
 have hB232 := hB232.keep0 E243
 have hb := hb.step0 E243
 refine from_still (m := 8) 8 (hd := [_, _, _, _, _, _, _, _]) (by kernel_rfl) rfl rfl ?_
 refine st_step rfl (fun _ h9 => op_move (ev_base hN rfl s0) h9) ?_
 refine st_step rfl (fun _ h9 => op_nil (ev_hit hN rfl) h9) ?_
 refine st_step rfl (fun _ h9 => op_field fld105_2 (ev_hit hN rfl) h9) ?_
 refine st_step rfl (fun _ h9 => op_load1 (v := cv) one103 (ev_hit hN rfl) (hx.cell rfl) h9) ?_
 refine st_step rfl (fun _ h9 => op_move (ev_hit hN rfl) h9) ?_
 refine st_index_rd slt103 (ev_hit hN rfl) oc.rdw (ev_hit hN rfl) (by omega) (by omega) ?_
 intro b245 o246 h0b245 h1b245 hc247
 refine st_step rfl (fun _ h9 => op_load1 (v := (ptr (P.getD ((way (K.map Prod.snd) k)) default) 0)) one99 (ev_hit hN rfl) (by have := hc247 0 (ptr (P.getD ((way (K.map Prod.snd) k)) default) 0) (by decide) (el_pn (i := ((way (K.map Prod.snd) k))) (by omega) (by first | omega | (simp only [List.length_drop, List.length_take]; omega))); simpa using this) h9) ?_
 refine st_step rfl (fun _ h9 => op_loadA (cs := [yv, (Value.int .i64 x.1), (Value.int .i64 x.2)]) agg109 rfl (ev_hit hN rfl) (fun j u hu => by rw [Nat.zero_add]; exact hB232.cell hu) h9) ?_
 refine st_nil ?_
 refine from_one (k' := 9) (by kernel_rfl) rfl rfl ?_
 rcases Bool.eq_false_or_eq_true (((putT h k x c).2.2.isSome)) with k55 | k55
 · -- 55T
  refine op_fn (vs := [(ptr (P.getD ((way (K.map Prod.snd) k)) default) 0), (Value.agg #[yv, (Value.int .i64 x.1), (Value.int .i64 x.2)])]) ok43 ⟨(ev_hit hN rfl), ⟨(ev_hit hN rfl), trivial⟩⟩ (IH hkid hcO (by have := (hz c (List.mem_of_getElem? hc)).2; omega) hk hkr) ?_
  rintro _ w249 ⟨E250, u248, m248, rfl, ho248⟩
  have bd251 := hx.lt
  have bd252 := ok.lt
  have bd253 := oc.lt
  have bd254 := hk.lt
  have bd255 := hrest.lt
  have bd256 := hB232.lt
  obtain ⟨y248, t2_248, q248, W1_248, W2_248, hr248, rfl, hu248, hur248, hT248, hT2_248, hN1_248, hN2_248, hd248⟩ := outR_some k55 ho248
  have hkid_old := hkid
  have z_w249 := E250.size
  have hx := hx.keepG E250 djpf
  have ok := ok.keepG E250 djkf
  have oc := oc.keepG E250 djcf
  have ks : ∀ x9 ∈ K, Own w249 0 5 1 x9.1 x9.2.length (x9.2.map u8v) := fun x9 hx9 => (ks x9 hx9).keepG E250 (hkid_old.notOwn (ks x9 hx9) (by decide) (by decide) (by decide) (by decide))
  have hk := hk.keepG E250 (hkid_old.notOwn hk (by decide) (by decide) (by decide) (by decide))
  have hrest := hrest.keepG E250 hfG.symm (hkid_old.noK kA_fine)
  have hB232 := hB232.keepG E250 dj233
  have hb := hb.stepF E250 (fun k _ h => hNd.wg k (hfs k h))
  have dj257 : ¬ W1_248 p := ne_stepF hN1_248 bd251 djpf
  have dj258 : Dj (Bl kv) W1_248 := Dj.stepF hN1_248 (fun k hk => (bd252 k hk).2) djkf
  have dj259 : Dj (Bl cv) W1_248 := Dj.stepF hN1_248 (fun k hk => (bd253 k hk).2) djcf
  have dj261 : Dj G0 W1_248 := Dj.stepF hN1_248 (fun k hk => (bd255 k hk).2) hfG.symm
  have dj263 : ¬ W2_248 p := ne_stepF hN2_248 bd251 djpf
  have dj264 : Dj (Bl kv) W2_248 := Dj.stepF hN2_248 (fun k hk => (bd252 k hk).2) djkf
  have dj265 : Dj (Bl cv) W2_248 := Dj.stepF hN2_248 (fun k hk => (bd253 k hk).2) djcf
  have dj267 : Dj G0 W2_248 := Dj.stepF hN2_248 (fun k hk => (bd255 k hk).2) hfG.symm
  have hin269 := in_newF (hN1_248.mono (t := w.heap.size) (by omega)) (fun k hk => hNd.wg k (hfs k hk))
  have hin270 := in_newF (hN2_248.mono (t := w.heap.size) (by omega)) (fun k hk => hNd.wg k (hfs k hk))
  refine from_next ?_
  refine from_still (m := 16) 7 (hd := [_, _, _, _, _, _, _]) (by kernel_rfl) rfl rfl ?_
  refine st_step rfl (fun _ h9 => op_move (ev_hit hN rfl) h9) ?_
  refine st_step rfl (fun _ h9 => op_extract (ev_hit hN rfl) rfl h9) ?_
  refine st_step rfl (fun _ h9 => op_extract (ev_hit hN rfl) rfl h9) ?_
  refine st_step rfl (fun _ h9 => op_extract (ev_hit hN rfl) rfl h9) ?_
  refine st_step rfl (fun _ h9 => op_assign (ev_hit hN rfl) h9) ?_
  refine st_step rfl (fun _ h9 => op_assign (ev_hit hN rfl) h9) ?_
  refine st_step rfl (fun _ h9 => op_assign (ev_hit hN rfl) h9) ?_
  refine st_nil ?_
  refine from_end ?_ rfl
  refine hK242 _ _ (join_at hK235 (N := 92) (fun az_ w' => ∃ (vk vc : Value), (az_.tmps.getD 0 undef = (ptr p 0)) ∧ (az_.tmps.getD 4 undef = (Value.bool (putT h k x c).1)) ∧ (az_.tmps.getD 5 undef = (Value.slice none 0 0)) ∧ (az_.tmps.getD 6 undef = (Value.pointer none)) ∧ (Dj (Bl vk) G0) ∧ (Dj (Bl vk) W1_248) ∧ (Dj (Bl vk) W2_248) ∧ (∀ j, j < w.heap.size → Bl vk j → W j) ∧ (Dj (Bl vc) G0) ∧ (Dj (Bl vc) W1_248) ∧ (Dj (Bl vc) W2_248) ∧ (∀ j, j < w.heap.size → Bl vc j → W j) ∧ (Gr w w' W) ∧ (w249.heap.size ≤ w'.heap.size) ∧ (∀ x9 ∈ K, Own w' 0 5 1 x9.1 x9.2.length (x9.2.map u8v)) ∧ (Own w' 0 5 1 yv k.length (k.map u8v)) ∧ (KidsR kA R w' h (P.eraseIdx (way (K.map Prod.snd) k)) (cs.eraseIdx (way (K.map Prod.snd) k)) G0) ∧ (Bx w' b230 109 [yv, (Value.int .i64 x.1), (Value.int .i64 x.2)]) ∧ (TreeR kA R w' h (P.getD (way (K.map Prod.snd) k) default) (putT h k x c).2.1 W1_248) ∧ (TreeR kA R w' h q248 t2_248 W2_248) ∧ (Own w' 0 5 1 u248 y248.length (y248.map u8v)) ∧ (Own w' 0 27 1 vk (K.insertIdx (way (K.map Prod.snd) k) (u248, y248)).length ((K.insertIdx (way (K.map Prod.snd) k) (u248, y248)).flatMap cK)) ∧ (Own w' 0 99 1 vc (P.insertIdx ((way (K.map Prod.snd) k) + 1) q248).length ((P.insertIdx ((way (K.map Prod.snd) k) + 1) q248).flatMap cN)) ∧ (Bx w' p 105 [(Value.slice none 0 0), vk, vc])) (fun hJ280 => ?_) ?_)
  ·
   refine seq_any fun K283 hK283 => one_reg (op_move (ev_hit hN rfl) (op_pne_some ptrt99 (ev_hit hN rfl) rfl ?_))
   refine reg_nil (hK283 _ _ (wp_cond_true (ev_hit hN rfl) ?_))
   refine reg_split (hd := [_, _, _, _, _, _, _, _, _, _, _, _, _, _, _, _, _, _, _, _, _, _]) (tl := _) 22 mixed (by kernel_rfl) rfl rfl ?_
   refine any_treek (φ := phiV [(fun uz => uz = (ptr p 0)), (fun uz => uz = (ptr p 0)), (fun uz => uz = (ptr p 0)), (fun uz => uz = (ptr p 0)), (fun uz => uz = (ptr p 1)), (fun uz => uz = kv), (fun uz => uz = (Value.int .i64 (((way (K.map Prod.snd) k) : Nat) : Int))), (fun uz => uz = u248), (fun _ => True), (fun _ => True), (fun uz => uz = (ptr p 0)), (fun uz => uz = (ptr p 0)), (fun uz => uz = (ptr p 2)), (fun uz => uz = cv), (fun uz => uz = (Value.int .i64 (((way (K.map Prod.snd) k) : Nat) : Int))), (fun uz => uz = (Value.int .i64 ((((way (K.map Prod.snd) k) : Nat) : Int) + 1))), (fun uz => uz = (ptr q248 0)), (fun _ => True), (fun _ => True), (fun uz => uz = (ptr p 0)), (fun uz => uz = (ptr p 1)), (fun _ => True)]) (G := fun t9 w' => 21 ∈ t9 → (Bx w' p 105 [(Value.slice none 0 0), kv, cv])) [8, 9, 17, 18, 21] (by kernel_rfl) (by kernel_rfl) (by kernel_rfl) (by kernel_rfl) (by kernel_rfl) hN (fun _ w1 w2 E h hc9 => (h hc9).keep0 E) (fun _ => hx) (ObRk9.cons ?_ (ObRk9.cons ?_ (ObRk9.cons ?_ (ObRk9.cons ?_ (ObRk9.cons ?_ (ObRk9.cons ?_ (ObRk9.cons ?_ (ObRk9.cons ?_ (ObRk9.pass rfl (ObRk9.pass rfl (ObRk9.cons ?_ (ObRk9.cons ?_ (ObRk9.cons ?_ (ObRk9.cons ?_ (ObRk9.cons ?_ (ObRk9.cons ?_ (ObRk9.cons ?_ (ObRk9.pass rfl (ObRk9.pass rfl (ObRk9.cons ?_ (ObRk9.cons ?_ (ObRk9.pass rfl (ObRk9.nil))))))))))))))))))))))) (by simp only [putsL_defers]) ?_
   ·
    intro eA tA aA wA hNA hckA hGA hbsA hdpA
    have qA_0 := (hbsA 0 rfl).trans (sl_base hN rfl s0)
    refine op_move (ev_base hNA rfl qA_0) ?_
    exact obTk_end rfl rfl
   ·
    intro eA tA aA wA hNA hckA hGA hbsA hdpA
    have qA_0 := (hbsA 0 rfl).trans (sl_base hN rfl s0)
    refine op_move (ev_base hNA rfl qA_0) ?_
    exact obTk_end rfl rfl
   ·
    intro eA tA aA wA hNA hckA hGA hbsA hdpA
    have qA_0 := (hbsA 0 rfl).trans (sl_base hN rfl s0)
    refine op_move (ev_base hNA rfl qA_0) ?_
    exact obTk_end rfl rfl
   ·
    intro eA tA aA wA hNA hckA hGA hbsA hdpA
    have qA_63 : Sl aA 63 (ptr p 0) := (hdpA 2 _ 63 (by kernel_rfl) rfl rfl).2 rfl
    refine op_nil (ev_base hNA rfl qA_63) ?_
    exact obTk_end rfl rfl
   ·
    intro eA tA aA wA hNA hckA hGA hbsA hdpA
    have qA_64 : Sl aA 64 (ptr p 0) := (hdpA 3 _ 64 (by kernel_rfl) rfl rfl).2 rfl
    refine op_field fld105_1 (ev_base hNA rfl qA_64) ?_
    exact obTk_end rfl rfl
   ·
    intro eA tA aA wA hNA hckA hGA hbsA hdpA
    have qA_65 : Sl aA 65 (ptr p 1) := (hdpA 4 _ 65 (by kernel_rfl) rfl rfl).2 rfl
    have hGA := hGA (hckA 21 rfl (by kernel_rfl))
    refine op_load1 (v := kv) one90 (ev_base hNA rfl qA_65) (hGA.cell rfl) ?_
    exact obTk_end rfl rfl
   ·
    intro eA tA aA wA hNA hckA hGA hbsA hdpA
    have qA_9 := (hbsA 9 rfl).trans (sl_hit hN rfl)
    refine op_move (ev_base hNA rfl qA_9) ?_
    exact obTk_end rfl rfl
   ·
    intro eA tA aA wA hNA hckA hGA hbsA hdpA
    have qA_10 := (hbsA 10 rfl).trans (sl_hit hN rfl)
    refine op_move (ev_base hNA rfl qA_10) ?_
    exact obTk_end rfl rfl
   ·
    intro eA tA aA wA hNA hckA hGA hbsA hdpA
    have qA_0 := (hbsA 0 rfl).trans (sl_base hN rfl s0)
    refine op_move (ev_base hNA rfl qA_0) ?_
    exact obTk_end rfl rfl
   ·
    intro eA tA aA wA hNA hckA hGA hbsA hdpA
    have qA_71 : Sl aA 71 (ptr p 0) := (hdpA 10 _ 71 (by kernel_rfl) rfl rfl).2 rfl
    refine op_nil (ev_base hNA rfl qA_71) ?_
    exact obTk_end rfl rfl
   ·
    intro eA tA aA wA hNA hckA hGA hbsA hdpA
    have qA_72 : Sl aA 72 (ptr p 0) := (hdpA 11 _ 72 (by kernel_rfl) rfl rfl).2 rfl
    refine op_field fld105_2 (ev_base hNA rfl qA_72) ?_
    exact obTk_end rfl rfl
   ·
    intro eA tA aA wA hNA hckA hGA hbsA hdpA
    have qA_73 : Sl aA 73 (ptr p 2) := (hdpA 12 _ 73 (by kernel_rfl) rfl rfl).2 rfl
    have hGA := hGA (hckA 21 rfl (by kernel_rfl))
    refine op_load1 (v := cv) one103 (ev_base hNA rfl qA_73) (hGA.cell rfl) ?_
    exact obTk_end rfl rfl
   ·
    intro eA tA aA wA hNA hckA hGA hbsA hdpA
    have qA_9 := (hbsA 9 rfl).trans (sl_hit hN rfl)
    refine op_move (ev_base hNA rfl qA_9) ?_
    exact obTk_end rfl rfl
   ·
    intro eA tA aA wA hNA hckA hGA hbsA hdpA
    have qA_75 : Sl aA 75 (Value.int .i64 (((way (K.map Prod.snd) k) : Nat) : Int)) := (hdpA 14 _ 75 (by kernel_rfl) rfl rfl).2 rfl
    refine op_add (ev_base hNA rfl qA_75) rfl (add64 (by omega)) ?_
    exact obTk_end rfl rfl
   ·
    intro eA tA aA wA hNA hckA hGA hbsA hdpA
    have qA_11 := (hbsA 11 rfl).trans (sl_hit hN rfl)
    refine op_move (ev_base hNA rfl qA_11) ?_
    exact obTk_end rfl rfl
   ·
    intro eA tA aA wA hNA hckA hGA hbsA hdpA
    have qA_61 : Sl aA 61 (ptr p 0) := (hdpA 0 _ 61 (by kernel_rfl) rfl rfl).2 rfl
    refine op_nil (ev_base hNA rfl qA_61) ?_
    exact obTk_end rfl rfl
   ·
    intro eA tA aA wA hNA hckA hGA hbsA hdpA
    have qA_80 : Sl aA 80 (ptr p 0) := (hdpA 19 _ 80 (by kernel_rfl) rfl rfl).2 rfl
    refine op_field fld105_1 (ev_base hNA rfl qA_80) ?_
    exact obTk_end rfl rfl
   ·
    refine ktk_step (rs := [8, 17]) (by kernel_rfl) ?_
    refine more_mem ?_ ?_
    · -- first 8
     intro w285 E285 _ a285 hN285 hbs285 hdp285 o_ ho_; obtain rfl := Option.some.inj ho_
     have z_w285 := E285.size
     have hx := hx.keep0 E285
     have ok := ok.keep0 E285
     have oc := oc.keep0 E285
     have ks := all9 ks fun _ h => h.keep0 E285
     have hk := hk.keep0 E285
     have hrest := hrest.keepG (Gr.of0 E285 NoB) (fun _ _ h => h) (NoK.no _)
     have hB232 := hB232.keep0 E285
     have hT248 := hT248.keepG (Gr.of0 E285 NoB) (fun _ _ h => h) (NoK.no _)
     have hT2_248 := hT2_248.keepG (Gr.of0 E285 NoB) (fun _ _ h => h) (NoK.no _)
     have hu248 := hu248.keep0 E285
     have hb := hb.step0 E285
     have q285_68 : Sl a285 68 u248 := (hdp285 7 _ 68 (by kernel_rfl) rfl rfl).2 rfl
     refine op_bslice (e := 27) (pv := [(0, u248)]) (cs := [u248]) ⟨rfl, (ev_base hN285 rfl q285_68), trivial⟩ (by obtain ⟨_, _, _, rfl⟩ := hu248.sl; kernel_rfl) ?_
     intro w286 b287 lo_b287 hi_b287 hB289 E288
     have ne_b287_kv : kv.ownBlock ≠ some b287 := fun hh => by have := (ok.lt _ hh).2; omega
     have z_w286 := E288.size
     have hx := hx.keep0 E288
     have ok := ok.keep0 E288
     have oc := oc.keep0 E288
     have ks := all9 ks fun _ h => h.keep0 E288
     have hk := hk.keep0 E288
     have hrest := hrest.keepG (Gr.of0 E288 NoB) (fun _ _ h => h) (NoK.no _)
     have hB232 := hB232.keep0 E288
     have hT248 := hT248.keepG (Gr.of0 E288 NoB) (fun _ _ h => h) (NoK.no _)
     have hT2_248 := hT2_248.keepG (Gr.of0 E288 NoB) (fun _ _ h => h) (NoK.no _)
     have hu248 := hu248.keep0 E288
     have hb := hb.step0 E288
     refine ktk_end (G := fun t9 w' => 21 ∈ t9 → (Bx w' p 105 [(Value.slice none 0 0), kv, cv])) (todo := [8, 9, 17, 18, 21]) (i := 8) rfl (fun _ => hx) ?_
     refine ktk_step (rs := [9, 17]) (by kernel_rfl) ?_
     refine more_mem ?_ ?_
     · -- first 9
      intro w294 E294 _ a294 hN294 hbs294 hdp294 o_ ho_; obtain rfl := Option.some.inj ho_
      have z_w294 := E294.size
      have hx := hx.keep0 E294
      have ok := ok.keep0 E294
      have oc := oc.keep0 E294
      have ks := all9 ks fun _ h => h.keep0 E294
      have hk := hk.keep0 E294
      have hrest := hrest.keepG (Gr.of0 E294 NoB) (fun _ _ h => h) (NoK.no _)
      have hB232 := hB232.keep0 E294
      have hT248 := hT248.keepG (Gr.of0 E294 NoB) (fun _ _ h => h) (NoK.no _)
      have hT2_248 := hT2_248.keepG (Gr.of0 E294 NoB) (fun _ _ h => h) (NoK.no _)
      have hu248 := hu248.keep0 E294
      have hB289 := hB289.keep0 E294
      have hb := hb.step0 E294
      have q294_66 : Sl a294 66 kv := (hdp294 5 _ 66 (by kernel_rfl) rfl rfl).2 rfl
      have q294_67 : Sl a294 67 (Value.int .i64 (((way (K.map Prod.snd) k) : Nat) : Int)) := (hdp294 6 _ 67 (by kernel_rfl) rfl rfl).2 rfl
      have q294_69 : Sl a294 69 (Value.slice (some ⟨b287, 0, none⟩) 1 1) := (Option.some.inj ((hdp294 8 _ 69 (by kernel_rfl) rfl rfl).1 rfl)).symm
      refine op_fn (vs := [kv, (Value.int .i64 (((way (K.map Prod.snd) k) : Nat) : Int)), (Value.slice (some ⟨b287, 0, none⟩) 1 1)]) ok67 ⟨(ev_base hN294 rfl q294_66), ⟨(ev_base hN294 rfl q294_67), ⟨(ev_base hN294 rfl q294_69), trivial⟩⟩⟩ (InsK ok hB289 (one_kd ks (fun _ h => h)) (by simp only [List.all_cons, List.all_nil, Bool.true_and, Bool.and_true, hu248.one]; try rfl) (by first | omega | (simp only [List.length_insertIdx, List.length_set, List.length_drop, List.length_take]; omega) | (simp; omega)) (by first | omega | (simp only [List.length_insertIdx, List.length_set, List.length_drop, List.length_take]; omega) | (simp; omega)) ne_b287_kv) ?_
      rintro v295 w296 ⟨E297, hO295, hm295⟩
      have dj298 : Dj G0 (Bl v295) := Dj.step hm295 (fun k hk => (hrest.lt k hk).2) djkG.symm
      have dj299 : Dj W1_248 (Bl v295) := Dj.step hm295 (fun k hk => (hT248.lt k hk).2) dj258.symm
      have dj300 : Dj W2_248 (Bl v295) := Dj.step hm295 (fun k hk => (hT2_248.lt k hk).2) dj264.symm
      have hin301 := inF_step (n := w.heap.size) hm295 (by omega) (fun k _ h => hNd.wk k h)
      have z_w296 := E297.size
      have hx := hx.keepO ok E297 (by decide)
      have oc := oc.keepT ok E297 (by decide)
      have ks := all9 ks fun _ h => h.keepT ok E297 (by decide)
      have hk := hk.keepT ok E297 (by decide)
      have hrest := hrest.keepG (Gr.of E297) djkG.symm (NoK.ofOwn ok (by decide))
      have hB232 := hB232.keepO ok E297 (by decide)
      have hT248 := hT248.keepG (Gr.of E297) dj258.symm (NoK.ofOwn ok (by decide))
      have hT2_248 := hT2_248.keepG (Gr.of E297) dj264.symm (NoK.ofOwn ok (by decide))
      have hu248 := hu248.keepT ok E297 (by decide)
      have hb := hb.stepL E297 (fun k _ h => hNd.wk k h)
      have hO295 : Own w296 0 27 1 v295 (K.insertIdx (way (K.map Prod.snd) k) (u248, y248)).length ((K.insertIdx (way (K.map Prod.snd) k) (u248, y248)).flatMap cK) := hO295.cast (by rw [List.length_insertIdx, if_pos (by first | omega | (simp only [List.length_insertIdx, List.length_set, List.length_drop, List.length_take]; omega) | (simp; omega))]) (flat_ins cK_len (u248, y248) (by first | omega | (simp only [List.length_insertIdx, List.length_set, List.length_drop, List.length_take]; omega) | (simp; omega)))
      refine ktk_end (G := fun t9 w' => 21 ∈ t9 → (Bx w' p 105 [(Value.slice none 0 0), kv, cv])) (todo := [9, 17, 18, 21]) (i := 9) rfl (fun _ => hx) ?_
      refine ktk_step (rs := [17]) (by kernel_rfl) ?_
      refine one_mem ?_
      intro w303 E303 _ a303 hN303 hbs303 hdp303 o_ ho_; obtain rfl := Option.some.inj ho_
      have z_w303 := E303.size
      have hx := hx.keep0 E303
      have oc := oc.keep0 E303
      have ks := all9 ks fun _ h => h.keep0 E303
      have hk := hk.keep0 E303
      have hrest := hrest.keepG (Gr.of0 E303 NoB) (fun _ _ h => h) (NoK.no _)
      have hB232 := hB232.keep0 E303
      have hT248 := hT248.keepG (Gr.of0 E303 NoB) (fun _ _ h => h) (NoK.no _)
      have hT2_248 := hT2_248.keepG (Gr.of0 E303 NoB) (fun _ _ h => h) (NoK.no _)
      have hu248 := hu248.keep0 E303
      have hO295 := hO295.keep0 E303
      have hb := hb.step0 E303
      have q303_77 : Sl a303 77 (ptr q248 0) := (hdp303 16 _ 77 (by kernel_rfl) rfl rfl).2 rfl
      refine op_bslice (e := 99) (pv := [(0, (ptr q248 0))]) (cs := [(ptr q248 0)]) ⟨rfl, (ev_base hN303 rfl q303_77), trivial⟩ (by kernel_rfl) ?_
      intro w304 b305 lo_b305 hi_b305 hB307 E306
      have ne_b305_cv : cv.ownBlock ≠ some b305 := fun hh => by have := (oc.lt _ hh).2; omega
      have z_w304 := E306.size
      have hx := hx.keep0 E306
      have oc := oc.keep0 E306
      have ks := all9 ks fun _ h => h.keep0 E306
      have hk := hk.keep0 E306
      have hrest := hrest.keepG (Gr.of0 E306 NoB) (fun _ _ h => h) (NoK.no _)
      have hB232 := hB232.keep0 E306
      have hT248 := hT248.keepG (Gr.of0 E306 NoB) (fun _ _ h => h) (NoK.no _)
      have hT2_248 := hT2_248.keepG (Gr.of0 E306 NoB) (fun _ _ h => h) (NoK.no _)
      have hu248 := hu248.keep0 E306
      have hO295 := hO295.keep0 E306
      have hb := hb.step0 E306
      refine ktk_end (G := fun t9 w' => 21 ∈ t9 → (Bx w' p 105 [(Value.slice none 0 0), kv, cv])) (todo := [17, 18, 21]) (i := 17) rfl (fun _ => hx) ?_
      refine ktk_step (rs := [18]) (by kernel_rfl) ?_
      refine one_mem ?_
      intro w312 E312 _ a312 hN312 hbs312 hdp312 o_ ho_; obtain rfl := Option.some.inj ho_
      have z_w312 := E312.size
      have hx := hx.keep0 E312
      have oc := oc.keep0 E312
      have ks := all9 ks fun _ h => h.keep0 E312
      have hk := hk.keep0 E312
      have hrest := hrest.keepG (Gr.of0 E312 NoB) (fun _ _ h => h) (NoK.no _)
      have hB232 := hB232.keep0 E312
      have hT248 := hT248.keepG (Gr.of0 E312 NoB) (fun _ _ h => h) (NoK.no _)
      have hT2_248 := hT2_248.keepG (Gr.of0 E312 NoB) (fun _ _ h => h) (NoK.no _)
      have hu248 := hu248.keep0 E312
      have hO295 := hO295.keep0 E312
      have hB307 := hB307.keep0 E312
      have hb := hb.step0 E312
      have q312_74 : Sl a312 74 cv := (hdp312 13 _ 74 (by kernel_rfl) rfl rfl).2 rfl
      have q312_76 : Sl a312 76 (Value.int .i64 ((((way (K.map Prod.snd) k) : Nat) : Int) + 1)) := (hdp312 15 _ 76 (by kernel_rfl) rfl rfl).2 rfl
      have q312_78 : Sl a312 78 (Value.slice (some ⟨b305, 0, none⟩) 1 1) := (Option.some.inj ((hdp312 17 _ 78 (by kernel_rfl) rfl rfl).1 rfl)).symm
      refine op_fn (vs := [cv, (Value.int .i64 ((((way (K.map Prod.snd) k) : Nat) : Int) + 1)), (Value.slice (some ⟨b305, 0, none⟩) 1 1)]) ok74 ⟨(ev_base hN312 rfl q312_74), ⟨(ev_base hN312 rfl q312_76), ⟨(ev_base hN312 rfl q312_78), trivial⟩⟩⟩ (InsNA oc hB307 (one_pn _) rfl (by first | omega | (simp only [List.length_insertIdx, List.length_set, List.length_drop, List.length_take]; omega) | (simp; omega)) (by first | omega | (simp only [List.length_insertIdx, List.length_set, List.length_drop, List.length_take]; omega) | (simp; omega)) ne_b305_cv) ?_
      rintro v313 w314 ⟨E315, hO313, hm313⟩
      have dj316 : Dj G0 (Bl v313) := Dj.step hm313 (fun k hk => (hrest.lt k hk).2) djcG.symm
      have dj317 : Dj W1_248 (Bl v313) := Dj.step hm313 (fun k hk => (hT248.lt k hk).2) dj259.symm
      have dj318 : Dj W2_248 (Bl v313) := Dj.step hm313 (fun k hk => (hT2_248.lt k hk).2) dj265.symm
      have hin319 := inF_step (n := w.heap.size) hm313 (by omega) (fun k _ h => hNd.wc k h)
      have z_w314 := E315.size
      have hx := hx.keepO oc E315 (by decide)
      have ks := all9 ks fun _ h => h.keepT oc E315 (by decide)
      have hk := hk.keepT oc E315 (by decide)
      have hrest := hrest.keepG (Gr.of E315) djcG.symm (NoK.ofOwn oc (by decide))
      have hB232 := hB232.keepO oc E315 (by decide)
      have hT248 := hT248.keepG (Gr.of E315) dj259.symm (NoK.ofOwn oc (by decide))
      have hT2_248 := hT2_248.keepG (Gr.of E315) dj265.symm (NoK.ofOwn oc (by decide))
      have hu248 := hu248.keepT oc E315 (by decide)
      have hO295 := hO295.keepT oc E315 (by decide)
      have hb := hb.stepL E315 (fun k _ h => hNd.wc k h)
      have hO313 : Own w314 0 99 1 v313 (P.insertIdx (((way (K.map Prod.snd) k)) + 1) q248).length ((P.insertIdx (((way (K.map Prod.snd) k)) + 1) q248).flatMap cN) := hO313.cast (by rw [List.length_insertIdx, if_pos (by first | omega | (simp only [List.length_insertIdx, List.length_set, List.length_drop, List.length_take]; omega) | (simp; omega))]) (flat_ins cN_len q248 (by first | omega | (simp only [List.length_insertIdx, List.length_set, List.length_drop, List.length_take]; omega) | (simp; omega)))
      refine ktk_end (G := fun t9 w' => 21 ∈ t9 → (Bx w' p 105 [(Value.slice none 0 0), kv, cv])) (todo := [18, 21]) (i := 18) rfl (fun _ => hx) ?_
      refine ktk_step (rs := [21]) (by kernel_rfl) ?_
      refine one_mem ?_
      intro w321 E321 _ a321 hN321 hbs321 hdp321 o_ ho_; obtain rfl := Option.some.inj ho_
      have z_w321 := E321.size
      have hx := hx.keep0 E321
      have ks := all9 ks fun _ h => h.keep0 E321
      have hk := hk.keep0 E321
      have hrest := hrest.keepG (Gr.of0 E321 NoB) (fun _ _ h => h) (NoK.no _)
      have hB232 := hB232.keep0 E321
      have hT248 := hT248.keepG (Gr.of0 E321 NoB) (fun _ _ h => h) (NoK.no _)
      have hT2_248 := hT2_248.keepG (Gr.of0 E321 NoB) (fun _ _ h => h) (NoK.no _)
      have hu248 := hu248.keep0 E321
      have hO295 := hO295.keep0 E321
      have hO313 := hO313.keep0 E321
      have hb := hb.step0 E321
      have q321_81 : Sl a321 81 (ptr p 1) := (hdp321 20 _ 81 (by kernel_rfl) rfl rfl).2 rfl
      have q321_70 : Sl a321 70 v295 := (Option.some.inj ((hdp321 9 _ 70 (by kernel_rfl) rfl rfl).1 rfl)).symm
      have hx_old := hx
      refine op_store (vs := [v295]) (cs' := [(Value.slice none 0 0), v295, cv]) size90 (ev_base hN321 rfl q321_81) (ev_base hN321 rfl q321_70) hO295.cl rfl (by simp only [List.all_cons, List.all_nil, Bool.true_and, Bool.and_true, hO295.one]; try rfl) hx (Nat.le_of_ble_eq_true rfl) rfl ?_
      intro w324 hx E325
      have z_w324 := E325.size
      have ks := all9 ks fun _ h => h.keepX hx_old E325 (by decide)
      have hk := hk.keepX hx_old E325 (by decide)
      have hrest := hrest.keepG (Gr.of E325) (Dj.one djpG) (NoK.ofBx hx_old (by decide))
      have hB232 := hB232.keep E325 (fun hh => hB232.ne hx_old (by decide) (Option.some.inj hh))
      have hT248 := hT248.keepG (Gr.of E325) (Dj.one dj257) (NoK.ofBx hx_old (by decide))
      have hT2_248 := hT2_248.keepG (Gr.of E325) (Dj.one dj263) (NoK.ofBx hx_old (by decide))
      have hu248 := hu248.keepX hx_old E325 (by decide)
      have hO295 := hO295.keepX hx_old E325 (by decide)
      have hO313 := hO313.keepX hx_old E325 (by decide)
      have hb := hb.stepB E325 hNd.wp
      refine ktk_end0 (G := fun t9 w' => 21 ∈ t9 → (Bx w' p 105 [(Value.slice none 0 0), kv, cv])) (todo := [21]) (i := 21) rfl (fun h => absurd h (by decide)) ?_
      intro w326 E326 a326 hN326 hd326 hbs326 hph326
      have hd326 := hd326.trans ((by simp only [putsL_defers] : _ = _).trans hd)
      have z_w326 := E326.size
      have ks := all9 ks fun _ h => h.keep0 E326
      have hk := hk.keep0 E326
      have hrest := hrest.keepG (Gr.of0 E326 NoB) (fun _ _ h => h) (NoK.no _)
      have hB232 := hB232.keep0 E326
      have hT248 := hT248.keepG (Gr.of0 E326 NoB) (fun _ _ h => h) (NoK.no _)
      have hT2_248 := hT2_248.keepG (Gr.of0 E326 NoB) (fun _ _ h => h) (NoK.no _)
      have hu248 := hu248.keep0 E326
      have hO295 := hO295.keep0 E326
      have hO313 := hO313.keep0 E326
      have hx := hx.keep0 E326
      have hb := hb.step0 E326
      have s326_0 := (hbs326 0 rfl).trans (sl_base hN rfl s0)
      have s326_4 := (hbs326 4 rfl).trans (sl_hit hN rfl)
      have s326_5 := (hbs326 5 rfl).trans (sl_hit hN rfl)
      have s326_6 := (hbs326 6 rfl).trans (sl_hit hN rfl)
      have s326_62 : Sl a326 62 (ptr p 0) := (hph326 1 _ 62 rfl rfl).2 rfl
      have s326_79 : Sl a326 79 v313 := (Option.some.inj ((hph326 18 _ 79 rfl rfl).1 rfl)).symm
      refine split_end ?_
      refine from_seq (tl := [_, _, _]) (by decide) (by kernel_rfl) rfl ?_
      refine op_nil (ev_base hN326 rfl s326_62) (op_field fld105_2 (ev_hit hN326 rfl) ?_)
      have hx_old := hx
      refine op_store (vs := [v313]) (cs' := [(Value.slice none 0 0), v295, v313]) size103 (ev_hit hN326 rfl) (ev_base hN326 rfl s326_79) hO313.cl rfl (by simp only [List.all_cons, List.all_nil, Bool.true_and, Bool.and_true, hO313.one]; try rfl) hx (Nat.le_of_ble_eq_true rfl) rfl ?_
      intro w329 hx E330
      have z_w329 := E330.size
      have ks := all9 ks fun _ h => h.keepX hx_old E330 (by decide)
      have hk := hk.keepX hx_old E330 (by decide)
      have hrest := hrest.keepG (Gr.of E330) (Dj.one djpG) (NoK.ofBx hx_old (by decide))
      have hB232 := hB232.keep E330 (fun hh => hB232.ne hx_old (by decide) (Option.some.inj hh))
      have hT248 := hT248.keepG (Gr.of E330) (Dj.one dj257) (NoK.ofBx hx_old (by decide))
      have hT2_248 := hT2_248.keepG (Gr.of E330) (Dj.one dj263) (NoK.ofBx hx_old (by decide))
      have hu248 := hu248.keepX hx_old E330 (by decide)
      have hO295 := hO295.keepX hx_old E330 (by decide)
      have hO313 := hO313.keepX hx_old E330 (by decide)
      have hb := hb.stepB E330 hNd.wp
      refine reg_nil (hK235 _ _ ?_)
      exact hJ280 _ _ _ hN326 hd326 ⟨v295, v313, (sl_base hN326 rfl s326_0), (sl_base hN326 rfl s326_4), (sl_base hN326 rfl s326_5), (sl_base hN326 rfl s326_6), dj298.symm, dj299.symm, dj300.symm, hin301, dj316.symm, dj317.symm, dj318.symm, hin319, hb, (by omega), ks, hk, hrest, hB232, hT248, hT2_248, hu248, (hO295.cast (n' := (K.insertIdx (way (K.map Prod.snd) k) (u248, y248)).length) (cs' := (K.insertIdx (way (K.map Prod.snd) k) (u248, y248)).flatMap cK) (by first | rfl | (simp; done) | (simp only [List.length_append, List.length_cons, List.length_nil]; omega)) (by first | rfl | simp [cK, cN, cI])), (hO313.cast (n' := (P.insertIdx ((way (K.map Prod.snd) k) + 1) q248).length) (cs' := (P.insertIdx ((way (K.map Prod.snd) k) + 1) q248).flatMap cN) (by first | rfl | (simp; done) | (simp only [List.length_append, List.length_cons, List.length_nil]; omega)) (by first | rfl | simp [cK, cN, cI])), hx⟩
     refine one_mem ?_
     intro w331 E331 _ a331 hN331 hbs331 hdp331 o_ ho_; obtain rfl := Option.some.inj ho_
     have z_w331 := E331.size
     have hx := hx.keep0 E331
     have ok := ok.keep0 E331
     have oc := oc.keep0 E331
     have ks := all9 ks fun _ h => h.keep0 E331
     have hk := hk.keep0 E331
     have hrest := hrest.keepG (Gr.of0 E331 NoB) (fun _ _ h => h) (NoK.no _)
     have hB232 := hB232.keep0 E331
     have hT248 := hT248.keepG (Gr.of0 E331 NoB) (fun _ _ h => h) (NoK.no _)
     have hT2_248 := hT2_248.keepG (Gr.of0 E331 NoB) (fun _ _ h => h) (NoK.no _)
     have hu248 := hu248.keep0 E331
     have hB289 := hB289.keep0 E331
     have hb := hb.step0 E331
     have q331_77 : Sl a331 77 (ptr q248 0) := (hdp331 16 _ 77 (by kernel_rfl) rfl rfl).2 rfl
     refine op_bslice (e := 99) (pv := [(0, (ptr q248 0))]) (cs := [(ptr q248 0)]) ⟨rfl, (ev_base hN331 rfl q331_77), trivial⟩ (by kernel_rfl) ?_
     intro w332 b333 lo_b333 hi_b333 hB335 E334
     have ne_b333_cv : cv.ownBlock ≠ some b333 := fun hh => by have := (oc.lt _ hh).2; omega
     have z_w332 := E334.size
     have hx := hx.keep0 E334
     have ok := ok.keep0 E334
     have oc := oc.keep0 E334
     have ks := all9 ks fun _ h => h.keep0 E334
     have hk := hk.keep0 E334
     have hrest := hrest.keepG (Gr.of0 E334 NoB) (fun _ _ h => h) (NoK.no _)
     have hB232 := hB232.keep0 E334
     have hT248 := hT248.keepG (Gr.of0 E334 NoB) (fun _ _ h => h) (NoK.no _)
     have hT2_248 := hT2_248.keepG (Gr.of0 E334 NoB) (fun _ _ h => h) (NoK.no _)
     have hu248 := hu248.keep0 E334
     have hB289 := hB289.keep0 E334
     have hb := hb.step0 E334
     refine ktk_end (G := fun t9 w' => 21 ∈ t9 → (Bx w' p 105 [(Value.slice none 0 0), kv, cv])) (todo := [9, 17, 18, 21]) (i := 17) rfl (fun _ => hx) ?_
     refine ktk_step (rs := [9]) (by kernel_rfl) ?_
     refine one_mem ?_
     intro w340 E340 _ a340 hN340 hbs340 hdp340 o_ ho_; obtain rfl := Option.some.inj ho_
     have z_w340 := E340.size
     have hx := hx.keep0 E340
     have ok := ok.keep0 E340
     have oc := oc.keep0 E340
     have ks := all9 ks fun _ h => h.keep0 E340
     have hk := hk.keep0 E340
     have hrest := hrest.keepG (Gr.of0 E340 NoB) (fun _ _ h => h) (NoK.no _)
     have hB232 := hB232.keep0 E340
     have hT248 := hT248.keepG (Gr.of0 E340 NoB) (fun _ _ h => h) (NoK.no _)
     have hT2_248 := hT2_248.keepG (Gr.of0 E340 NoB) (fun _ _ h => h) (NoK.no _)
     have hu248 := hu248.keep0 E340
     have hB289 := hB289.keep0 E340
     have hB335 := hB335.keep0 E340
     have hb := hb.step0 E340
     have q340_66 : Sl a340 66 kv := (hdp340 5 _ 66 (by kernel_rfl) rfl rfl).2 rfl
     have q340_67 : Sl a340 67 (Value.int .i64 (((way (K.map Prod.snd) k) : Nat) : Int)) := (hdp340 6 _ 67 (by kernel_rfl) rfl rfl).2 rfl
     have q340_69 : Sl a340 69 (Value.slice (some ⟨b287, 0, none⟩) 1 1) := (Option.some.inj ((hdp340 8 _ 69 (by kernel_rfl) rfl rfl).1 rfl)).symm
     refine op_fn (vs := [kv, (Value.int .i64 (((way (K.map Prod.snd) k) : Nat) : Int)), (Value.slice (some ⟨b287, 0, none⟩) 1 1)]) ok67 ⟨(ev_base hN340 rfl q340_66), ⟨(ev_base hN340 rfl q340_67), ⟨(ev_base hN340 rfl q340_69), trivial⟩⟩⟩ (InsK ok hB289 (one_kd ks (fun _ h => h)) (by simp only [List.all_cons, List.all_nil, Bool.true_and, Bool.and_true, hu248.one]; try rfl) (by first | omega | (simp only [List.length_insertIdx, List.length_set, List.length_drop, List.length_take]; omega) | (simp; omega)) (by first | omega | (simp only [List.length_insertIdx, List.length_set, List.length_drop, List.length_take]; omega) | (simp; omega)) ne_b287_kv) ?_
     rintro v341 w342 ⟨E343, hO341, hm341⟩
     have dj344 : Dj G0 (Bl v341) := Dj.step hm341 (fun k hk => (hrest.lt k hk).2) djkG.symm
     have dj345 : Dj W1_248 (Bl v341) := Dj.step hm341 (fun k hk => (hT248.lt k hk).2) dj258.symm
     have dj346 : Dj W2_248 (Bl v341) := Dj.step hm341 (fun k hk => (hT2_248.lt k hk).2) dj264.symm
     have hin347 := inF_step (n := w.heap.size) hm341 (by omega) (fun k _ h => hNd.wk k h)
     have z_w342 := E343.size
     have hx := hx.keepO ok E343 (by decide)
     have oc := oc.keepT ok E343 (by decide)
     have ks := all9 ks fun _ h => h.keepT ok E343 (by decide)
     have hk := hk.keepT ok E343 (by decide)
     have hrest := hrest.keepG (Gr.of E343) djkG.symm (NoK.ofOwn ok (by decide))
     have hB232 := hB232.keepO ok E343 (by decide)
     have hT248 := hT248.keepG (Gr.of E343) dj258.symm (NoK.ofOwn ok (by decide))
     have hT2_248 := hT2_248.keepG (Gr.of E343) dj264.symm (NoK.ofOwn ok (by decide))
     have hu248 := hu248.keepT ok E343 (by decide)
     have hB335 := hB335.keepO ok E343 (by decide)
     have hb := hb.stepL E343 (fun k _ h => hNd.wk k h)
     have hO341 : Own w342 0 27 1 v341 (K.insertIdx (way (K.map Prod.snd) k) (u248, y248)).length ((K.insertIdx (way (K.map Prod.snd) k) (u248, y248)).flatMap cK) := hO341.cast (by rw [List.length_insertIdx, if_pos (by first | omega | (simp only [List.length_insertIdx, List.length_set, List.length_drop, List.length_take]; omega) | (simp; omega))]) (flat_ins cK_len (u248, y248) (by first | omega | (simp only [List.length_insertIdx, List.length_set, List.length_drop, List.length_take]; omega) | (simp; omega)))
     refine ktk_end (G := fun t9 w' => 21 ∈ t9 → (Bx w' p 105 [(Value.slice none 0 0), kv, cv])) (todo := [9, 18, 21]) (i := 9) rfl (fun _ => hx) ?_
     refine ktk_step (rs := [18]) (by kernel_rfl) ?_
     refine one_mem ?_
     intro w349 E349 _ a349 hN349 hbs349 hdp349 o_ ho_; obtain rfl := Option.some.inj ho_
     have z_w349 := E349.size
     have hx := hx.keep0 E349
     have oc := oc.keep0 E349
     have ks := all9 ks fun _ h => h.keep0 E349
     have hk := hk.keep0 E349
     have hrest := hrest.keepG (Gr.of0 E349 NoB) (fun _ _ h => h) (NoK.no _)
     have hB232 := hB232.keep0 E349
     have hT248 := hT248.keepG (Gr.of0 E349 NoB) (fun _ _ h => h) (NoK.no _)
     have hT2_248 := hT2_248.keepG (Gr.of0 E349 NoB) (fun _ _ h => h) (NoK.no _)
     have hu248 := hu248.keep0 E349
     have hB335 := hB335.keep0 E349
     have hO341 := hO341.keep0 E349
     have hb := hb.step0 E349
     have q349_74 : Sl a349 74 cv := (hdp349 13 _ 74 (by kernel_rfl) rfl rfl).2 rfl
     have q349_76 : Sl a349 76 (Value.int .i64 ((((way (K.map Prod.snd) k) : Nat) : Int) + 1)) := (hdp349 15 _ 76 (by kernel_rfl) rfl rfl).2 rfl
     have q349_78 : Sl a349 78 (Value.slice (some ⟨b333, 0, none⟩) 1 1) := (Option.some.inj ((hdp349 17 _ 78 (by kernel_rfl) rfl rfl).1 rfl)).symm
     refine op_fn (vs := [cv, (Value.int .i64 ((((way (K.map Prod.snd) k) : Nat) : Int) + 1)), (Value.slice (some ⟨b333, 0, none⟩) 1 1)]) ok74 ⟨(ev_base hN349 rfl q349_74), ⟨(ev_base hN349 rfl q349_76), ⟨(ev_base hN349 rfl q349_78), trivial⟩⟩⟩ (InsNA oc hB335 (one_pn _) rfl (by first | omega | (simp only [List.length_insertIdx, List.length_set, List.length_drop, List.length_take]; omega) | (simp; omega)) (by first | omega | (simp only [List.length_insertIdx, List.length_set, List.length_drop, List.length_take]; omega) | (simp; omega)) ne_b333_cv) ?_
     rintro v350 w351 ⟨E352, hO350, hm350⟩
     have dj353 : Dj G0 (Bl v350) := Dj.step hm350 (fun k hk => (hrest.lt k hk).2) djcG.symm
     have dj354 : Dj W1_248 (Bl v350) := Dj.step hm350 (fun k hk => (hT248.lt k hk).2) dj259.symm
     have dj355 : Dj W2_248 (Bl v350) := Dj.step hm350 (fun k hk => (hT2_248.lt k hk).2) dj265.symm
     have hin356 := inF_step (n := w.heap.size) hm350 (by omega) (fun k _ h => hNd.wc k h)
     have z_w351 := E352.size
     have hx := hx.keepO oc E352 (by decide)
     have ks := all9 ks fun _ h => h.keepT oc E352 (by decide)
     have hk := hk.keepT oc E352 (by decide)
     have hrest := hrest.keepG (Gr.of E352) djcG.symm (NoK.ofOwn oc (by decide))
     have hB232 := hB232.keepO oc E352 (by decide)
     have hT248 := hT248.keepG (Gr.of E352) dj259.symm (NoK.ofOwn oc (by decide))
     have hT2_248 := hT2_248.keepG (Gr.of E352) dj265.symm (NoK.ofOwn oc (by decide))
     have hu248 := hu248.keepT oc E352 (by decide)
     have hO341 := hO341.keepT oc E352 (by decide)
     have hb := hb.stepL E352 (fun k _ h => hNd.wc k h)
     have hO350 : Own w351 0 99 1 v350 (P.insertIdx (((way (K.map Prod.snd) k)) + 1) q248).length ((P.insertIdx (((way (K.map Prod.snd) k)) + 1) q248).flatMap cN) := hO350.cast (by rw [List.length_insertIdx, if_pos (by first | omega | (simp only [List.length_insertIdx, List.length_set, List.length_drop, List.length_take]; omega) | (simp; omega))]) (flat_ins cN_len q248 (by first | omega | (simp only [List.length_insertIdx, List.length_set, List.length_drop, List.length_take]; omega) | (simp; omega)))
     refine ktk_end (G := fun t9 w' => 21 ∈ t9 → (Bx w' p 105 [(Value.slice none 0 0), kv, cv])) (todo := [18, 21]) (i := 18) rfl (fun _ => hx) ?_
     refine ktk_step (rs := [21]) (by kernel_rfl) ?_
     refine one_mem ?_
     intro w358 E358 _ a358 hN358 hbs358 hdp358 o_ ho_; obtain rfl := Option.some.inj ho_
     have z_w358 := E358.size
     have hx := hx.keep0 E358
     have ks := all9 ks fun _ h => h.keep0 E358
     have hk := hk.keep0 E358
     have hrest := hrest.keepG (Gr.of0 E358 NoB) (fun _ _ h => h) (NoK.no _)
     have hB232 := hB232.keep0 E358
     have hT248 := hT248.keepG (Gr.of0 E358 NoB) (fun _ _ h => h) (NoK.no _)
     have hT2_248 := hT2_248.keepG (Gr.of0 E358 NoB) (fun _ _ h => h) (NoK.no _)
     have hu248 := hu248.keep0 E358
     have hO341 := hO341.keep0 E358
     have hO350 := hO350.keep0 E358
     have hb := hb.step0 E358
     have q358_81 : Sl a358 81 (ptr p 1) := (hdp358 20 _ 81 (by kernel_rfl) rfl rfl).2 rfl
     have q358_70 : Sl a358 70 v341 := (Option.some.inj ((hdp358 9 _ 70 (by kernel_rfl) rfl rfl).1 rfl)).symm
     have hx_old := hx
     refine op_store (vs := [v341]) (cs' := [(Value.slice none 0 0), v341, cv]) size90 (ev_base hN358 rfl q358_81) (ev_base hN358 rfl q358_70) hO341.cl rfl (by simp only [List.all_cons, List.all_nil, Bool.true_and, Bool.and_true, hO341.one]; try rfl) hx (Nat.le_of_ble_eq_true rfl) rfl ?_
     intro w361 hx E362
     have z_w361 := E362.size
     have ks := all9 ks fun _ h => h.keepX hx_old E362 (by decide)
     have hk := hk.keepX hx_old E362 (by decide)
     have hrest := hrest.keepG (Gr.of E362) (Dj.one djpG) (NoK.ofBx hx_old (by decide))
     have hB232 := hB232.keep E362 (fun hh => hB232.ne hx_old (by decide) (Option.some.inj hh))
     have hT248 := hT248.keepG (Gr.of E362) (Dj.one dj257) (NoK.ofBx hx_old (by decide))
     have hT2_248 := hT2_248.keepG (Gr.of E362) (Dj.one dj263) (NoK.ofBx hx_old (by decide))
     have hu248 := hu248.keepX hx_old E362 (by decide)
     have hO341 := hO341.keepX hx_old E362 (by decide)
     have hO350 := hO350.keepX hx_old E362 (by decide)
     have hb := hb.stepB E362 hNd.wp
     refine ktk_end0 (G := fun t9 w' => 21 ∈ t9 → (Bx w' p 105 [(Value.slice none 0 0), kv, cv])) (todo := [21]) (i := 21) rfl (fun h => absurd h (by decide)) ?_
     intro w363 E363 a363 hN363 hd363 hbs363 hph363
     have hd363 := hd363.trans ((by simp only [putsL_defers] : _ = _).trans hd)
     have z_w363 := E363.size
     have ks := all9 ks fun _ h => h.keep0 E363
     have hk := hk.keep0 E363
     have hrest := hrest.keepG (Gr.of0 E363 NoB) (fun _ _ h => h) (NoK.no _)
     have hB232 := hB232.keep0 E363
     have hT248 := hT248.keepG (Gr.of0 E363 NoB) (fun _ _ h => h) (NoK.no _)
     have hT2_248 := hT2_248.keepG (Gr.of0 E363 NoB) (fun _ _ h => h) (NoK.no _)
     have hu248 := hu248.keep0 E363
     have hO341 := hO341.keep0 E363
     have hO350 := hO350.keep0 E363
     have hx := hx.keep0 E363
     have hb := hb.step0 E363
     have s363_0 := (hbs363 0 rfl).trans (sl_base hN rfl s0)
     have s363_4 := (hbs363 4 rfl).trans (sl_hit hN rfl)
     have s363_5 := (hbs363 5 rfl).trans (sl_hit hN rfl)
     have s363_6 := (hbs363 6 rfl).trans (sl_hit hN rfl)
     have s363_62 : Sl a363 62 (ptr p 0) := (hph363 1 _ 62 rfl rfl).2 rfl
     have s363_79 : Sl a363 79 v350 := (Option.some.inj ((hph363 18 _ 79 rfl rfl).1 rfl)).symm
     refine split_end ?_
     refine from_seq (tl := [_, _, _]) (by decide) (by kernel_rfl) rfl ?_
     refine op_nil (ev_base hN363 rfl s363_62) (op_field fld105_2 (ev_hit hN363 rfl) ?_)
     have hx_old := hx
     refine op_store (vs := [v350]) (cs' := [(Value.slice none 0 0), v341, v350]) size103 (ev_hit hN363 rfl) (ev_base hN363 rfl s363_79) hO350.cl rfl (by simp only [List.all_cons, List.all_nil, Bool.true_and, Bool.and_true, hO350.one]; try rfl) hx (Nat.le_of_ble_eq_true rfl) rfl ?_
     intro w366 hx E367
     have z_w366 := E367.size
     have ks := all9 ks fun _ h => h.keepX hx_old E367 (by decide)
     have hk := hk.keepX hx_old E367 (by decide)
     have hrest := hrest.keepG (Gr.of E367) (Dj.one djpG) (NoK.ofBx hx_old (by decide))
     have hB232 := hB232.keep E367 (fun hh => hB232.ne hx_old (by decide) (Option.some.inj hh))
     have hT248 := hT248.keepG (Gr.of E367) (Dj.one dj257) (NoK.ofBx hx_old (by decide))
     have hT2_248 := hT2_248.keepG (Gr.of E367) (Dj.one dj263) (NoK.ofBx hx_old (by decide))
     have hu248 := hu248.keepX hx_old E367 (by decide)
     have hO341 := hO341.keepX hx_old E367 (by decide)
     have hO350 := hO350.keepX hx_old E367 (by decide)
     have hb := hb.stepB E367 hNd.wp
     refine reg_nil (hK235 _ _ ?_)
     exact hJ280 _ _ _ hN363 hd363 ⟨v341, v350, (sl_base hN363 rfl s363_0), (sl_base hN363 rfl s363_4), (sl_base hN363 rfl s363_5), (sl_base hN363 rfl s363_6), dj344.symm, dj345.symm, dj346.symm, hin347, dj353.symm, dj354.symm, dj355.symm, hin356, hb, (by omega), ks, hk, hrest, hB232, hT248, hT2_248, hu248, (hO341.cast (n' := (K.insertIdx (way (K.map Prod.snd) k) (u248, y248)).length) (cs' := (K.insertIdx (way (K.map Prod.snd) k) (u248, y248)).flatMap cK) (by first | rfl | (simp; done) | (simp only [List.length_append, List.length_cons, List.length_nil]; omega)) (by first | rfl | simp [cK, cN, cI])), (hO350.cast (n' := (P.insertIdx ((way (K.map Prod.snd) k) + 1) q248).length) (cs' := (P.insertIdx ((way (K.map Prod.snd) k) + 1) q248).flatMap cN) (by first | rfl | (simp; done) | (simp only [List.length_append, List.length_cons, List.length_nil]; omega)) (by first | rfl | simp [cK, cN, cI])), hx⟩
    refine one_mem ?_
    intro w368 E368 _ a368 hN368 hbs368 hdp368 o_ ho_; obtain rfl := Option.some.inj ho_
    have z_w368 := E368.size
    have hx := hx.keep0 E368
    have ok := ok.keep0 E368
    have oc := oc.keep0 E368
    have ks := all9 ks fun _ h => h.keep0 E368
    have hk := hk.keep0 E368
    have hrest := hrest.keepG (Gr.of0 E368 NoB) (fun _ _ h => h) (NoK.no _)
    have hB232 := hB232.keep0 E368
    have hT248 := hT248.keepG (Gr.of0 E368 NoB) (fun _ _ h => h) (NoK.no _)
    have hT2_248 := hT2_248.keepG (Gr.of0 E368 NoB) (fun _ _ h => h) (NoK.no _)
    have hu248 := hu248.keep0 E368
    have hb := hb.step0 E368
    have q368_77 : Sl a368 77 (ptr q248 0) := (hdp368 16 _ 77 (by kernel_rfl) rfl rfl).2 rfl
    refine op_bslice (e := 99) (pv := [(0, (ptr q248 0))]) (cs := [(ptr q248 0)]) ⟨rfl, (ev_base hN368 rfl q368_77), trivial⟩ (by kernel_rfl) ?_
    intro w369 b370 lo_b370 hi_b370 hB372 E371
    have ne_b370_cv : cv.ownBlock ≠ some b370 := fun hh => by have := (oc.lt _ hh).2; omega
    have z_w369 := E371.size
    have hx := hx.keep0 E371
    have ok := ok.keep0 E371
    have oc := oc.keep0 E371
    have ks := all9 ks fun _ h => h.keep0 E371
    have hk := hk.keep0 E371
    have hrest := hrest.keepG (Gr.of0 E371 NoB) (fun _ _ h => h) (NoK.no _)
    have hB232 := hB232.keep0 E371
    have hT248 := hT248.keepG (Gr.of0 E371 NoB) (fun _ _ h => h) (NoK.no _)
    have hT2_248 := hT2_248.keepG (Gr.of0 E371 NoB) (fun _ _ h => h) (NoK.no _)
    have hu248 := hu248.keep0 E371
    have hb := hb.step0 E371
    refine ktk_end (G := fun t9 w' => 21 ∈ t9 → (Bx w' p 105 [(Value.slice none 0 0), kv, cv])) (todo := [8, 9, 17, 18, 21]) (i := 17) rfl (fun _ => hx) ?_
    refine ktk_step (rs := [8]) (by kernel_rfl) ?_
    refine one_mem ?_
    intro w377 E377 _ a377 hN377 hbs377 hdp377 o_ ho_; obtain rfl := Option.some.inj ho_
    have z_w377 := E377.size
    have hx := hx.keep0 E377
    have ok := ok.keep0 E377
    have oc := oc.keep0 E377
    have ks := all9 ks fun _ h => h.keep0 E377
    have hk := hk.keep0 E377
    have hrest := hrest.keepG (Gr.of0 E377 NoB) (fun _ _ h => h) (NoK.no _)
    have hB232 := hB232.keep0 E377
    have hT248 := hT248.keepG (Gr.of0 E377 NoB) (fun _ _ h => h) (NoK.no _)
    have hT2_248 := hT2_248.keepG (Gr.of0 E377 NoB) (fun _ _ h => h) (NoK.no _)
    have hu248 := hu248.keep0 E377
    have hB372 := hB372.keep0 E377
    have hb := hb.step0 E377
    have q377_68 : Sl a377 68 u248 := (hdp377 7 _ 68 (by kernel_rfl) rfl rfl).2 rfl
    refine op_bslice (e := 27) (pv := [(0, u248)]) (cs := [u248]) ⟨rfl, (ev_base hN377 rfl q377_68), trivial⟩ (by obtain ⟨_, _, _, rfl⟩ := hu248.sl; kernel_rfl) ?_
    intro w378 b379 lo_b379 hi_b379 hB381 E380
    have ne_b379_kv : kv.ownBlock ≠ some b379 := fun hh => by have := (ok.lt _ hh).2; omega
    have z_w378 := E380.size
    have hx := hx.keep0 E380
    have ok := ok.keep0 E380
    have oc := oc.keep0 E380
    have ks := all9 ks fun _ h => h.keep0 E380
    have hk := hk.keep0 E380
    have hrest := hrest.keepG (Gr.of0 E380 NoB) (fun _ _ h => h) (NoK.no _)
    have hB232 := hB232.keep0 E380
    have hT248 := hT248.keepG (Gr.of0 E380 NoB) (fun _ _ h => h) (NoK.no _)
    have hT2_248 := hT2_248.keepG (Gr.of0 E380 NoB) (fun _ _ h => h) (NoK.no _)
    have hu248 := hu248.keep0 E380
    have hB372 := hB372.keep0 E380
    have hb := hb.step0 E380
    refine ktk_end (G := fun t9 w' => 21 ∈ t9 → (Bx w' p 105 [(Value.slice none 0 0), kv, cv])) (todo := [8, 9, 18, 21]) (i := 8) rfl (fun _ => hx) ?_
    refine ktk_step (rs := [9]) (by kernel_rfl) ?_
    refine one_mem ?_
    intro w386 E386 _ a386 hN386 hbs386 hdp386 o_ ho_; obtain rfl := Option.some.inj ho_
    have z_w386 := E386.size
    have hx := hx.keep0 E386
    have ok := ok.keep0 E386
    have oc := oc.keep0 E386
    have ks := all9 ks fun _ h => h.keep0 E386
    have hk := hk.keep0 E386
    have hrest := hrest.keepG (Gr.of0 E386 NoB) (fun _ _ h => h) (NoK.no _)
    have hB232 := hB232.keep0 E386
    have hT248 := hT248.keepG (Gr.of0 E386 NoB) (fun _ _ h => h) (NoK.no _)
    have hT2_248 := hT2_248.keepG (Gr.of0 E386 NoB) (fun _ _ h => h) (NoK.no _)
    have hu248 := hu248.keep0 E386
    have hB372 := hB372.keep0 E386
    have hB381 := hB381.keep0 E386
    have hb := hb.step0 E386
    have q386_66 : Sl a386 66 kv := (hdp386 5 _ 66 (by kernel_rfl) rfl rfl).2 rfl
    have q386_67 : Sl a386 67 (Value.int .i64 (((way (K.map Prod.snd) k) : Nat) : Int)) := (hdp386 6 _ 67 (by kernel_rfl) rfl rfl).2 rfl
    have q386_69 : Sl a386 69 (Value.slice (some ⟨b379, 0, none⟩) 1 1) := (Option.some.inj ((hdp386 8 _ 69 (by kernel_rfl) rfl rfl).1 rfl)).symm
    refine op_fn (vs := [kv, (Value.int .i64 (((way (K.map Prod.snd) k) : Nat) : Int)), (Value.slice (some ⟨b379, 0, none⟩) 1 1)]) ok67 ⟨(ev_base hN386 rfl q386_66), ⟨(ev_base hN386 rfl q386_67), ⟨(ev_base hN386 rfl q386_69), trivial⟩⟩⟩ (InsK ok hB381 (one_kd ks (fun _ h => h)) (by simp only [List.all_cons, List.all_nil, Bool.true_and, Bool.and_true, hu248.one]; try rfl) (by first | omega | (simp only [List.length_insertIdx, List.length_set, List.length_drop, List.length_take]; omega) | (simp; omega)) (by first | omega | (simp only [List.length_insertIdx, List.length_set, List.length_drop, List.length_take]; omega) | (simp; omega)) ne_b379_kv) ?_
    rintro v387 w388 ⟨E389, hO387, hm387⟩
    have dj390 : Dj G0 (Bl v387) := Dj.step hm387 (fun k hk => (hrest.lt k hk).2) djkG.symm
    have dj391 : Dj W1_248 (Bl v387) := Dj.step hm387 (fun k hk => (hT248.lt k hk).2) dj258.symm
    have dj392 : Dj W2_248 (Bl v387) := Dj.step hm387 (fun k hk => (hT2_248.lt k hk).2) dj264.symm
    have hin393 := inF_step (n := w.heap.size) hm387 (by omega) (fun k _ h => hNd.wk k h)
    have z_w388 := E389.size
    have hx := hx.keepO ok E389 (by decide)
    have oc := oc.keepT ok E389 (by decide)
    have ks := all9 ks fun _ h => h.keepT ok E389 (by decide)
    have hk := hk.keepT ok E389 (by decide)
    have hrest := hrest.keepG (Gr.of E389) djkG.symm (NoK.ofOwn ok (by decide))
    have hB232 := hB232.keepO ok E389 (by decide)
    have hT248 := hT248.keepG (Gr.of E389) dj258.symm (NoK.ofOwn ok (by decide))
    have hT2_248 := hT2_248.keepG (Gr.of E389) dj264.symm (NoK.ofOwn ok (by decide))
    have hu248 := hu248.keepT ok E389 (by decide)
    have hB372 := hB372.keepO ok E389 (by decide)
    have hb := hb.stepL E389 (fun k _ h => hNd.wk k h)
    have hO387 : Own w388 0 27 1 v387 (K.insertIdx (way (K.map Prod.snd) k) (u248, y248)).length ((K.insertIdx (way (K.map Prod.snd) k) (u248, y248)).flatMap cK) := hO387.cast (by rw [List.length_insertIdx, if_pos (by first | omega | (simp only [List.length_insertIdx, List.length_set, List.length_drop, List.length_take]; omega) | (simp; omega))]) (flat_ins cK_len (u248, y248) (by first | omega | (simp only [List.length_insertIdx, List.length_set, List.length_drop, List.length_take]; omega) | (simp; omega)))
    refine ktk_end (G := fun t9 w' => 21 ∈ t9 → (Bx w' p 105 [(Value.slice none 0 0), kv, cv])) (todo := [9, 18, 21]) (i := 9) rfl (fun _ => hx) ?_
    refine ktk_step (rs := [18]) (by kernel_rfl) ?_
    refine one_mem ?_
    intro w395 E395 _ a395 hN395 hbs395 hdp395 o_ ho_; obtain rfl := Option.some.inj ho_
    have z_w395 := E395.size
    have hx := hx.keep0 E395
    have oc := oc.keep0 E395
    have ks := all9 ks fun _ h => h.keep0 E395
    have hk := hk.keep0 E395
    have hrest := hrest.keepG (Gr.of0 E395 NoB) (fun _ _ h => h) (NoK.no _)
    have hB232 := hB232.keep0 E395
    have hT248 := hT248.keepG (Gr.of0 E395 NoB) (fun _ _ h => h) (NoK.no _)
    have hT2_248 := hT2_248.keepG (Gr.of0 E395 NoB) (fun _ _ h => h) (NoK.no _)
    have hu248 := hu248.keep0 E395
    have hB372 := hB372.keep0 E395
    have hO387 := hO387.keep0 E395
    have hb := hb.step0 E395
    have q395_74 : Sl a395 74 cv := (hdp395 13 _ 74 (by kernel_rfl) rfl rfl).2 rfl
    have q395_76 : Sl a395 76 (Value.int .i64 ((((way (K.map Prod.snd) k) : Nat) : Int) + 1)) := (hdp395 15 _ 76 (by kernel_rfl) rfl rfl).2 rfl
    have q395_78 : Sl a395 78 (Value.slice (some ⟨b370, 0, none⟩) 1 1) := (Option.some.inj ((hdp395 17 _ 78 (by kernel_rfl) rfl rfl).1 rfl)).symm
    refine op_fn (vs := [cv, (Value.int .i64 ((((way (K.map Prod.snd) k) : Nat) : Int) + 1)), (Value.slice (some ⟨b370, 0, none⟩) 1 1)]) ok74 ⟨(ev_base hN395 rfl q395_74), ⟨(ev_base hN395 rfl q395_76), ⟨(ev_base hN395 rfl q395_78), trivial⟩⟩⟩ (InsNA oc hB372 (one_pn _) rfl (by first | omega | (simp only [List.length_insertIdx, List.length_set, List.length_drop, List.length_take]; omega) | (simp; omega)) (by first | omega | (simp only [List.length_insertIdx, List.length_set, List.length_drop, List.length_take]; omega) | (simp; omega)) ne_b370_cv) ?_
    rintro v396 w397 ⟨E398, hO396, hm396⟩
    have dj399 : Dj G0 (Bl v396) := Dj.step hm396 (fun k hk => (hrest.lt k hk).2) djcG.symm
    have dj400 : Dj W1_248 (Bl v396) := Dj.step hm396 (fun k hk => (hT248.lt k hk).2) dj259.symm
    have dj401 : Dj W2_248 (Bl v396) := Dj.step hm396 (fun k hk => (hT2_248.lt k hk).2) dj265.symm
    have hin402 := inF_step (n := w.heap.size) hm396 (by omega) (fun k _ h => hNd.wc k h)
    have z_w397 := E398.size
    have hx := hx.keepO oc E398 (by decide)
    have ks := all9 ks fun _ h => h.keepT oc E398 (by decide)
    have hk := hk.keepT oc E398 (by decide)
    have hrest := hrest.keepG (Gr.of E398) djcG.symm (NoK.ofOwn oc (by decide))
    have hB232 := hB232.keepO oc E398 (by decide)
    have hT248 := hT248.keepG (Gr.of E398) dj259.symm (NoK.ofOwn oc (by decide))
    have hT2_248 := hT2_248.keepG (Gr.of E398) dj265.symm (NoK.ofOwn oc (by decide))
    have hu248 := hu248.keepT oc E398 (by decide)
    have hO387 := hO387.keepT oc E398 (by decide)
    have hb := hb.stepL E398 (fun k _ h => hNd.wc k h)
    have hO396 : Own w397 0 99 1 v396 (P.insertIdx (((way (K.map Prod.snd) k)) + 1) q248).length ((P.insertIdx (((way (K.map Prod.snd) k)) + 1) q248).flatMap cN) := hO396.cast (by rw [List.length_insertIdx, if_pos (by first | omega | (simp only [List.length_insertIdx, List.length_set, List.length_drop, List.length_take]; omega) | (simp; omega))]) (flat_ins cN_len q248 (by first | omega | (simp only [List.length_insertIdx, List.length_set, List.length_drop, List.length_take]; omega) | (simp; omega)))
    refine ktk_end (G := fun t9 w' => 21 ∈ t9 → (Bx w' p 105 [(Value.slice none 0 0), kv, cv])) (todo := [18, 21]) (i := 18) rfl (fun _ => hx) ?_
    refine ktk_step (rs := [21]) (by kernel_rfl) ?_
    refine one_mem ?_
    intro w404 E404 _ a404 hN404 hbs404 hdp404 o_ ho_; obtain rfl := Option.some.inj ho_
    have z_w404 := E404.size
    have hx := hx.keep0 E404
    have ks := all9 ks fun _ h => h.keep0 E404
    have hk := hk.keep0 E404
    have hrest := hrest.keepG (Gr.of0 E404 NoB) (fun _ _ h => h) (NoK.no _)
    have hB232 := hB232.keep0 E404
    have hT248 := hT248.keepG (Gr.of0 E404 NoB) (fun _ _ h => h) (NoK.no _)
    have hT2_248 := hT2_248.keepG (Gr.of0 E404 NoB) (fun _ _ h => h) (NoK.no _)
    have hu248 := hu248.keep0 E404
    have hO387 := hO387.keep0 E404
    have hO396 := hO396.keep0 E404
    have hb := hb.step0 E404
    have q404_81 : Sl a404 81 (ptr p 1) := (hdp404 20 _ 81 (by kernel_rfl) rfl rfl).2 rfl
    have q404_70 : Sl a404 70 v387 := (Option.some.inj ((hdp404 9 _ 70 (by kernel_rfl) rfl rfl).1 rfl)).symm
    have hx_old := hx
    refine op_store (vs := [v387]) (cs' := [(Value.slice none 0 0), v387, cv]) size90 (ev_base hN404 rfl q404_81) (ev_base hN404 rfl q404_70) hO387.cl rfl (by simp only [List.all_cons, List.all_nil, Bool.true_and, Bool.and_true, hO387.one]; try rfl) hx (Nat.le_of_ble_eq_true rfl) rfl ?_
    intro w407 hx E408
    have z_w407 := E408.size
    have ks := all9 ks fun _ h => h.keepX hx_old E408 (by decide)
    have hk := hk.keepX hx_old E408 (by decide)
    have hrest := hrest.keepG (Gr.of E408) (Dj.one djpG) (NoK.ofBx hx_old (by decide))
    have hB232 := hB232.keep E408 (fun hh => hB232.ne hx_old (by decide) (Option.some.inj hh))
    have hT248 := hT248.keepG (Gr.of E408) (Dj.one dj257) (NoK.ofBx hx_old (by decide))
    have hT2_248 := hT2_248.keepG (Gr.of E408) (Dj.one dj263) (NoK.ofBx hx_old (by decide))
    have hu248 := hu248.keepX hx_old E408 (by decide)
    have hO387 := hO387.keepX hx_old E408 (by decide)
    have hO396 := hO396.keepX hx_old E408 (by decide)
    have hb := hb.stepB E408 hNd.wp
    refine ktk_end0 (G := fun t9 w' => 21 ∈ t9 → (Bx w' p 105 [(Value.slice none 0 0), kv, cv])) (todo := [21]) (i := 21) rfl (fun h => absurd h (by decide)) ?_
    intro w409 E409 a409 hN409 hd409 hbs409 hph409
    have hd409 := hd409.trans ((by simp only [putsL_defers] : _ = _).trans hd)
    have z_w409 := E409.size
    have ks := all9 ks fun _ h => h.keep0 E409
    have hk := hk.keep0 E409
    have hrest := hrest.keepG (Gr.of0 E409 NoB) (fun _ _ h => h) (NoK.no _)
    have hB232 := hB232.keep0 E409
    have hT248 := hT248.keepG (Gr.of0 E409 NoB) (fun _ _ h => h) (NoK.no _)
    have hT2_248 := hT2_248.keepG (Gr.of0 E409 NoB) (fun _ _ h => h) (NoK.no _)
    have hu248 := hu248.keep0 E409
    have hO387 := hO387.keep0 E409
    have hO396 := hO396.keep0 E409
    have hx := hx.keep0 E409
    have hb := hb.step0 E409
    have s409_0 := (hbs409 0 rfl).trans (sl_base hN rfl s0)
    have s409_4 := (hbs409 4 rfl).trans (sl_hit hN rfl)
    have s409_5 := (hbs409 5 rfl).trans (sl_hit hN rfl)
    have s409_6 := (hbs409 6 rfl).trans (sl_hit hN rfl)
    have s409_62 : Sl a409 62 (ptr p 0) := (hph409 1 _ 62 rfl rfl).2 rfl
    have s409_79 : Sl a409 79 v396 := (Option.some.inj ((hph409 18 _ 79 rfl rfl).1 rfl)).symm
    refine split_end ?_
    refine from_seq (tl := [_, _, _]) (by decide) (by kernel_rfl) rfl ?_
    refine op_nil (ev_base hN409 rfl s409_62) (op_field fld105_2 (ev_hit hN409 rfl) ?_)
    have hx_old := hx
    refine op_store (vs := [v396]) (cs' := [(Value.slice none 0 0), v387, v396]) size103 (ev_hit hN409 rfl) (ev_base hN409 rfl s409_79) hO396.cl rfl (by simp only [List.all_cons, List.all_nil, Bool.true_and, Bool.and_true, hO396.one]; try rfl) hx (Nat.le_of_ble_eq_true rfl) rfl ?_
    intro w412 hx E413
    have z_w412 := E413.size
    have ks := all9 ks fun _ h => h.keepX hx_old E413 (by decide)
    have hk := hk.keepX hx_old E413 (by decide)
    have hrest := hrest.keepG (Gr.of E413) (Dj.one djpG) (NoK.ofBx hx_old (by decide))
    have hB232 := hB232.keep E413 (fun hh => hB232.ne hx_old (by decide) (Option.some.inj hh))
    have hT248 := hT248.keepG (Gr.of E413) (Dj.one dj257) (NoK.ofBx hx_old (by decide))
    have hT2_248 := hT2_248.keepG (Gr.of E413) (Dj.one dj263) (NoK.ofBx hx_old (by decide))
    have hu248 := hu248.keepX hx_old E413 (by decide)
    have hO387 := hO387.keepX hx_old E413 (by decide)
    have hO396 := hO396.keepX hx_old E413 (by decide)
    have hb := hb.stepB E413 hNd.wp
    refine reg_nil (hK235 _ _ ?_)
    exact hJ280 _ _ _ hN409 hd409 ⟨v387, v396, (sl_base hN409 rfl s409_0), (sl_base hN409 rfl s409_4), (sl_base hN409 rfl s409_5), (sl_base hN409 rfl s409_6), dj390.symm, dj391.symm, dj392.symm, hin393, dj399.symm, dj400.symm, dj401.symm, hin402, hb, (by omega), ks, hk, hrest, hB232, hT248, hT2_248, hu248, (hO387.cast (n' := (K.insertIdx (way (K.map Prod.snd) k) (u248, y248)).length) (cs' := (K.insertIdx (way (K.map Prod.snd) k) (u248, y248)).flatMap cK) (by first | rfl | (simp; done) | (simp only [List.length_append, List.length_cons, List.length_nil]; omega)) (by first | rfl | simp [cK, cN, cI])), (hO396.cast (n' := (P.insertIdx ((way (K.map Prod.snd) k) + 1) q248).length) (cs' := (P.insertIdx ((way (K.map Prod.snd) k) + 1) q248).flatMap cN) (by first | rfl | (simp; done) | (simp only [List.length_append, List.length_cons, List.length_nil]; omega)) (by first | rfl | simp [cK, cN, cI])), hx⟩
  ·
   rintro a280 w280 hN280 hd280 ⟨vk, vc, s280_0, s280_4, s280_5, s280_6, dj271, dj272, dj273, hin274, dj275, dj276, dj277, hin278, hb, zl_w280, ks, hk, hrest, hB232, hT248, hT2_248, hu248, hO281, hO282, hbj279⟩
   have z_w280 := hb.size
   refine seq_any fun K414 hK414 => one_reg ?_
   have hl1 : (K.insertIdx (way (K.map Prod.snd) k) (u248, y248)).length = K.length + 1 := by rw [List.length_insertIdx, if_pos hwl]
   have hl2 : (P.insertIdx ((way (K.map Prod.snd) k) + 1) q248).length = P.length + 1 := by rw [List.length_insertIdx, if_pos (by omega)]
   have ks415 : ∀ x9 ∈ (K.insertIdx (way (K.map Prod.snd) k) (u248, y248)), Own w280 0 5 1 x9.1 x9.2.length (x9.2.map u8v) := kks_ins ks hu248 hwl
   refine op_move (ev_base hN280 rfl s280_0) ?_
   rcases Bool.eq_false_or_eq_true (decide ((K.insertIdx (way (K.map Prod.snd) k) (u248, y248)).length ≤ 6)) with k86 | k86
   · -- 86T
    refine op_fn (vs := [(ptr p 0)]) ok75 ⟨(ev_hit hN280 rfl), trivial⟩ (Ret.flip (halvesNsA hbj279 hO281 hO282 (by first | omega | (simp only [List.length_insertIdx, List.length_set, List.length_drop, List.length_take]; omega) | (simp; omega)) (of_decide_eq_true k86))) ?_
    rintro _ _ ⟨rfl, rfl⟩
    refine op_move (ev_hit hN280 rfl) (op_extract (ev_hit hN280 rfl) rfl ?_)
    refine op_extract (ev_hit hN280 rfl) rfl ?_
    refine op_assign (ev_hit hN280 rfl) ?_
    refine op_assign (ev_hit hN280 rfl) ?_
    refine reg_nil ?_
    refine hK414 _ _ (seq_any fun K416 hK416 => one_reg (op_move (ev_base hN280 rfl s280_4) (op_move (ev_hit hN280 rfl) (op_move (ev_hit hN280 rfl) (op_assign (ev_hit hN280 rfl) ?_)))))
    refine op_assign (ev_hit hN280 rfl) ?_
    refine op_assign (ev_hit hN280 rfl) ?_
    refine reg_nil (hK416 _ _ (wp_ret ?_))
    refine retN (rs := [.tmp 4, .tmp 5, .tmp 6]) (vs := [(Value.bool (putT h k x c).1), (Value.slice none 0 0), (Value.pointer none)]) rfl hd280 ⟨(ev_hit hN280 rfl), ⟨(ev_hit hN280 rfl), ⟨(ev_hit hN280 rfl), trivial⟩⟩⟩ rfl ⟨_, rfl, ?_⟩
    exact ⟨hb, _, _, by rw [(put_some (u := u248) hc hr248 hwl)]; rfl, out_node_small (K := (K.insertIdx (way (K.map Prod.snd) k) (u248, y248))) (ts := ((cs.set (way (K.map Prod.snd) k) (putT h k x c).2.1).insertIdx ((way (K.map Prod.snd) k) + 1) t2_248)) ((congrArg Prod.snd (put_some (u := u248) hc hr248 hwl)).trans (halves_nsmall (by simpa using of_decide_eq_true k86))) hbj279 hO281 hO282 ks415 (kks_ins hNd.kr hur248 hwl) (Kids.ins (i := (way (K.map Prod.snd) k) + 1) (Kids.back1 (i := (way (K.map Prod.snd) k)) (A := TreeR kA R w280 h) hrest hPc hic hT248 dj261.symm) (by rw [List.length_set]; omega) hT2_248 (fun k h1 h2 => h2.elim (hd248.symm k h1) (dj267.symm k h1))) (fun h9 => h9.elim (fun h8 => dj263 h8) (fun h8 => h8.elim (fun h8 => dj257 h8) (fun h8 => djpG h8))) (fun j hj h9 => h9.elim (fun h8 => dj273 j hj h8) (fun h8 => h8.elim (fun h8 => dj272 j hj h8) (fun h8 => dj271 j hj h8))) (fun j hj h9 => h9.elim (fun h8 => dj277 j hj h8) (fun h8 => h8.elim (fun h8 => dj276 j hj h8) (fun h8 => dj275 j hj h8))) (nodeW_in (fun _ => hNd.wp) hin274 hin278 (fun j hj h9 => h9.elim (fun h8 => hin270 j hj h8) (fun h8 => h8.elim (fun h8 => hin269 j hj h8) (fun h8 => (fun j _ q => hNd.wg j (hGs j q)) j hj h8))))⟩
   · -- 86F
    refine op_fn (vs := [(ptr p 0)]) ok75 ⟨(ev_hit hN280 rfl), trivial⟩ (halvesNbA hbj279 hO281 hO282 ks415 (by first | omega | (simp only [List.length_insertIdx, List.length_set, List.length_drop, List.length_take]; omega) | (simp; omega)) (by have := of_decide_eq_false k86; omega) (by first | omega | (simp only [List.length_insertIdx, List.length_set, List.length_drop, List.length_take]; omega) | (simp; omega))) ?_
    rintro _ w418 ⟨E419, q417, qk417, qc417, rfl, hx417, oa417, ob417, lo417, hB417, oc417, od417⟩
    have ht420 := hbj279.lt
    have ht421 := hO281.lt
    have ht422 := hO282.lt
    have ht423 := hrest.lt
    have ht424 := hT248.lt
    have ht425 := hT2_248.lt
    have E419 := E419.grown (row := some p) (fun k _ h => by rw [h])
    have hbj279_old := hbj279
    have z_w418 := E419.size
    have hrest := hrest.keepG (Gr.of E419) (Dj.one djpG) (NoK.ofBx hbj279_old (by decide))
    have hT248 := hT248.keepG (Gr.of E419) (Dj.one dj257) (NoK.ofBx hbj279_old (by decide))
    have hT2_248 := hT2_248.keepG (Gr.of E419) (Dj.one dj263) (NoK.ofBx hbj279_old (by decide))
    have ks415 := all9 ks415 fun _ h => h.keepX hbj279_old E419 (by decide)
    have hb := hb.stepB E419 hNd.wp
    refine op_move (ev_hit hN280 rfl) (op_extract (ev_hit hN280 rfl) rfl ?_)
    refine op_extract (ev_hit hN280 rfl) rfl ?_
    refine op_assign (ev_hit hN280 rfl) ?_
    refine op_assign (ev_hit hN280 rfl) ?_
    refine reg_nil ?_
    refine hK414 _ _ (seq_any fun K426 hK426 => one_reg (op_move (ev_base hN280 rfl s280_4) (op_move (ev_hit hN280 rfl) (op_move (ev_hit hN280 rfl) (op_assign (ev_hit hN280 rfl) ?_)))))
    refine op_assign (ev_hit hN280 rfl) ?_
    refine op_assign (ev_hit hN280 rfl) ?_
    refine reg_nil (hK426 _ _ (wp_ret ?_))
    refine retN (rs := [.tmp 4, .tmp 5, .tmp 6]) (vs := [(Value.bool (putT h k x c).1), ((K.insertIdx (way (K.map Prod.snd) k) (u248, y248)).getD ((K.insertIdx (way (K.map Prod.snd) k) (u248, y248)).length / 2) default).1, (ptr q417 0)]) rfl hd280 ⟨(ev_hit hN280 rfl), ⟨(ev_hit hN280 rfl), ⟨(ev_hit hN280 rfl), trivial⟩⟩⟩ rfl ⟨_, rfl, ?_⟩
    exact ⟨hb, _, _, by rw [(put_some (u := u248) hc hr248 hwl)]; rfl, out_node_big (K := (K.insertIdx (way (K.map Prod.snd) k) (u248, y248))) (ts := ((cs.set (way (K.map Prod.snd) k) (putT h k x c).2.1).insertIdx ((way (K.map Prod.snd) k) + 1) t2_248)) ((congrArg Prod.snd (put_some (u := u248) hc hr248 hwl)).trans (halves_nbig (by have := of_decide_eq_false k86; omega))) (by have := of_decide_eq_false k86; omega) hx417 oa417 ob417 hB417 oc417 od417 lo417 (by omega) ks415 (kks_ins hNd.kr hur248 hwl) (Kids.ins (i := (way (K.map Prod.snd) k) + 1) (Kids.back1 (i := (way (K.map Prod.snd) k)) (A := TreeR kA R w418 h) hrest hPc hic hT248 dj261.symm) (by rw [List.length_set]; omega) hT2_248 (fun k h1 h2 => h2.elim (hd248.symm k h1) (dj267.symm k h1))) (fun h9 => h9.elim (fun h8 => dj263 h8) (fun h8 => h8.elim (fun h8 => dj257 h8) (fun h8 => djpG h8))) (fun j hj h9 => h9.elim (fun h8 => dj273 j ((hiV_ob _ _).symm.trans hj) h8) (fun h8 => h8.elim (fun h8 => dj272 j ((hiV_ob _ _).symm.trans hj) h8) (fun h8 => dj271 j ((hiV_ob _ _).symm.trans hj) h8))) (fun j hj h9 => h9.elim (fun h8 => dj277 j ((hiV_ob _ _).symm.trans hj) h8) (fun h8 => h8.elim (fun h8 => dj276 j ((hiV_ob _ _).symm.trans hj) h8) (fun h8 => dj275 j ((hiV_ob _ _).symm.trans hj) h8))) (nodeW_in (fun _ => hNd.wp) (inF_step (n := w.heap.size) (.inl (hiV_ob _ _)) (Nat.le_refl _) hin274) (inF_step (n := w.heap.size) (.inl (hiV_ob _ _)) (Nat.le_refl _) hin278) (fun j hj h9 => h9.elim (fun h8 => hin270 j hj h8) (fun h8 => h8.elim (fun h8 => hin269 j hj h8) (fun h8 => (fun j _ q => hNd.wg j (hGs j q)) j hj h8)))) (nodeW_lt ht420 (fun j h9 => (ht421 j ((hiV_ob _ _).symm.trans h9)).2) (fun j h9 => (ht422 j ((hiV_ob _ _).symm.trans h9)).2) (fun j h9 => h9.elim (fun h8 => (ht425 j h8).2) (fun h8 => h8.elim (fun h8 => (ht424 j h8).2) (fun h8 => (ht423 j h8).2))))⟩
 · -- 55F
  refine op_fn (vs := [(ptr (P.getD ((way (K.map Prod.snd) k)) default) 0), (Value.agg #[yv, (Value.int .i64 x.1), (Value.int .i64 x.2)])]) ok43 ⟨(ev_hit hN rfl), ⟨(ev_hit hN rfl), trivial⟩⟩ (IH hkid hcO (by have := (hz c (List.mem_of_getElem? hc)).2; omega) hk hkr) ?_
  rintro _ w428 ⟨E429, u427, m427, rfl, ho427⟩
  have bd430 := hx.lt
  have bd431 := ok.lt
  have bd432 := oc.lt
  have bd433 := hk.lt
  have bd434 := hrest.lt
  have bd435 := hB232.lt
  obtain ⟨hr427, rfl, rfl, W1_427, hT427, hN1_427⟩ := outR_none k55 ho427
  have hkid_old := hkid
  have z_w428 := E429.size
  have hx := hx.keepG E429 djpf
  have ok := ok.keepG E429 djkf
  have oc := oc.keepG E429 djcf
  have ks : ∀ x9 ∈ K, Own w428 0 5 1 x9.1 x9.2.length (x9.2.map u8v) := fun x9 hx9 => (ks x9 hx9).keepG E429 (hkid_old.notOwn (ks x9 hx9) (by decide) (by decide) (by decide) (by decide))
  have hk := hk.keepG E429 (hkid_old.notOwn hk (by decide) (by decide) (by decide) (by decide))
  have hrest := hrest.keepG E429 hfG.symm (hkid_old.noK kA_fine)
  have hb := hb.stepF E429 (fun k _ h => hNd.wg k (hfs k h))
  have dj436 : ¬ W1_427 p := ne_stepF hN1_427 bd430 djpf
  have dj437 : Dj (Bl kv) W1_427 := Dj.stepF hN1_427 (fun k hk => (bd431 k hk).2) djkf
  have dj438 : Dj (Bl cv) W1_427 := Dj.stepF hN1_427 (fun k hk => (bd432 k hk).2) djcf
  have dj440 : Dj G0 W1_427 := Dj.stepF hN1_427 (fun k hk => (bd434 k hk).2) hfG.symm
  have hin442 := in_newF (hN1_427.mono (t := w.heap.size) (by omega)) (fun k hk => hNd.wg k (hfs k hk))
  refine from_next ?_
  refine from_still (m := 16) 7 (hd := [_, _, _, _, _, _, _]) (by kernel_rfl) rfl rfl ?_
  refine st_step rfl (fun _ h9 => op_move (ev_hit hN rfl) h9) ?_
  refine st_step rfl (fun _ h9 => op_extract (ev_hit hN rfl) rfl h9) ?_
  refine st_step rfl (fun _ h9 => op_extract (ev_hit hN rfl) rfl h9) ?_
  refine st_step rfl (fun _ h9 => op_extract (ev_hit hN rfl) rfl h9) ?_
  refine st_step rfl (fun _ h9 => op_assign (ev_hit hN rfl) h9) ?_
  refine st_step rfl (fun _ h9 => op_assign (ev_hit hN rfl) h9) ?_
  refine st_step rfl (fun _ h9 => op_assign (ev_hit hN rfl) h9) ?_
  refine st_nil ?_
  refine from_end ?_ rfl
  refine hK242 _ _ (seq_any fun K443 hK443 => one_reg (op_move (ev_hit hN rfl) (op_pne_none ptrt99 (ev_hit hN rfl) rfl ?_)))
  refine reg_nil (hK443 _ _ (wp_cond_false (ev_hit hN rfl) ?_))
  refine wp_skip ?_
  refine hK235 _ _ (seq_any fun K444 hK444 => one_reg ?_)
  skip
  refine op_move (ev_base hN rfl s0) ?_
  rcases Bool.eq_false_or_eq_true (decide (K.length ≤ 6)) with k86 | k86
  · -- 86T
   refine op_fn (vs := [(ptr p 0)]) ok75 ⟨(ev_hit hN rfl), trivial⟩ (Ret.flip (halvesNsA hx ok oc (by first | omega | (simp only [List.length_insertIdx, List.length_set, List.length_drop, List.length_take]; omega) | (simp; omega)) (of_decide_eq_true k86))) ?_
   rintro _ _ ⟨rfl, rfl⟩
   refine op_move (ev_hit hN rfl) (op_extract (ev_hit hN rfl) rfl ?_)
   refine op_extract (ev_hit hN rfl) rfl ?_
   refine op_assign (ev_hit hN rfl) ?_
   refine op_assign (ev_hit hN rfl) ?_
   refine reg_nil ?_
   refine hK444 _ _ (seq_any fun K445 hK445 => one_reg (op_move (ev_hit hN rfl) (op_move (ev_hit hN rfl) (op_move (ev_hit hN rfl) (op_assign (ev_hit hN rfl) ?_)))))
   refine op_assign (ev_hit hN rfl) ?_
   refine op_assign (ev_hit hN rfl) ?_
   refine reg_nil (hK445 _ _ (wp_ret ?_))
   refine retN (rs := [.tmp 4, .tmp 5, .tmp 6]) (vs := [(Value.bool (putT h k x c).1), (Value.slice none 0 0), (Value.pointer none)]) rfl hd ⟨(ev_hit hN rfl), ⟨(ev_hit hN rfl), ⟨(ev_hit hN rfl), trivial⟩⟩⟩ rfl ⟨_, rfl, ?_⟩
   exact ⟨hb, _, _, by rw [(put_none hc hr427)]; rfl, out_node_small (K := K) (ts := (cs.set (way (K.map Prod.snd) k) (putT h k x c).2.1)) ((congrArg Prod.snd (put_none hc hr427)).trans (halves_nsmall (by simpa using of_decide_eq_true k86))) hx ok oc ks hNd.kr (Kids.back1 (i := (way (K.map Prod.snd) k)) (A := TreeR kA R w428 h) hrest hPc hic hT427 dj440.symm) (fun h9 => h9.elim (fun h8 => dj436 h8) (fun h8 => djpG h8)) (fun j hj h9 => h9.elim (fun h8 => dj437 j hj h8) (fun h8 => djkG j hj h8)) (fun j hj h9 => h9.elim (fun h8 => dj438 j hj h8) (fun h8 => djcG j hj h8)) (nodeW_in (fun _ => hNd.wp) (fun k _ h => hNd.wk k h) (fun k _ h => hNd.wc k h) (fun j hj h9 => h9.elim (fun h8 => hin442 j hj h8) (fun h8 => (fun j _ q => hNd.wg j (hGs j q)) j hj h8)))⟩
  · -- 86F
   refine op_fn (vs := [(ptr p 0)]) ok75 ⟨(ev_hit hN rfl), trivial⟩ (halvesNbA hx ok oc ks (by first | omega | (simp only [List.length_insertIdx, List.length_set, List.length_drop, List.length_take]; omega) | (simp; omega)) (by have := of_decide_eq_false k86; omega) (by first | omega | (simp only [List.length_insertIdx, List.length_set, List.length_drop, List.length_take]; omega) | (simp; omega))) ?_
   rintro _ w447 ⟨E448, q446, qk446, qc446, rfl, hx446, oa446, ob446, lo446, hB446, oc446, od446⟩
   have ht449 := hx.lt
   have ht450 := ok.lt
   have ht451 := oc.lt
   have ht452 := hrest.lt
   have ht453 := hT427.lt
   have E448 := E448.grown (row := some p) (fun k _ h => by rw [h])
   have hx_old := hx
   have z_w447 := E448.size
   have ks := all9 ks fun _ h => h.keepX hx_old E448 (by decide)
   have hrest := hrest.keepG (Gr.of E448) (Dj.one djpG) (NoK.ofBx hx_old (by decide))
   have hT427 := hT427.keepG (Gr.of E448) (Dj.one dj436) (NoK.ofBx hx_old (by decide))
   have hb := hb.stepB E448 hNd.wp
   refine op_move (ev_hit hN rfl) (op_extract (ev_hit hN rfl) rfl ?_)
   refine op_extract (ev_hit hN rfl) rfl ?_
   refine op_assign (ev_hit hN rfl) ?_
   refine op_assign (ev_hit hN rfl) ?_
   refine reg_nil ?_
   refine hK444 _ _ (seq_any fun K454 hK454 => one_reg (op_move (ev_hit hN rfl) (op_move (ev_hit hN rfl) (op_move (ev_hit hN rfl) (op_assign (ev_hit hN rfl) ?_)))))
   refine op_assign (ev_hit hN rfl) ?_
   refine op_assign (ev_hit hN rfl) ?_
   refine reg_nil (hK454 _ _ (wp_ret ?_))
   refine retN (rs := [.tmp 4, .tmp 5, .tmp 6]) (vs := [(Value.bool (putT h k x c).1), (K.getD (K.length / 2) default).1, (ptr q446 0)]) rfl hd ⟨(ev_hit hN rfl), ⟨(ev_hit hN rfl), ⟨(ev_hit hN rfl), trivial⟩⟩⟩ rfl ⟨_, rfl, ?_⟩
   exact ⟨hb, _, _, by rw [(put_none hc hr427)]; rfl, out_node_big (K := K) (ts := (cs.set (way (K.map Prod.snd) k) (putT h k x c).2.1)) ((congrArg Prod.snd (put_none hc hr427)).trans (halves_nbig (by have := of_decide_eq_false k86; omega))) (by have := of_decide_eq_false k86; omega) hx446 oa446 ob446 hB446 oc446 od446 lo446 (by omega) ks hNd.kr (Kids.back1 (i := (way (K.map Prod.snd) k)) (A := TreeR kA R w447 h) hrest hPc hic hT427 dj440.symm) (fun h9 => h9.elim (fun h8 => dj436 h8) (fun h8 => djpG h8)) (fun j hj h9 => h9.elim (fun h8 => dj437 j ((hiV_ob _ _).symm.trans hj) h8) (fun h8 => djkG j ((hiV_ob _ _).symm.trans hj) h8)) (fun j hj h9 => h9.elim (fun h8 => dj438 j ((hiV_ob _ _).symm.trans hj) h8) (fun h8 => djcG j ((hiV_ob _ _).symm.trans hj) h8)) (nodeW_in (fun _ => hNd.wp) (inF_step (n := w.heap.size) (.inl (hiV_ob _ _)) (Nat.le_refl _) (fun k _ h => hNd.wk k h)) (inF_step (n := w.heap.size) (.inl (hiV_ob _ _)) (Nat.le_refl _) (fun k _ h => hNd.wc k h)) (fun j hj h9 => h9.elim (fun h8 => hin442 j hj h8) (fun h8 => (fun j _ q => hNd.wg j (hGs j q)) j hj h8))) (nodeW_lt ht449 (fun j h9 => (ht450 j ((hiV_ob _ _).symm.trans h9)).2) (fun j h9 => (ht451 j ((hiV_ob _ _).symm.trans h9)).2) (fun j h9 => h9.elim (fun h8 => (ht453 j h8).2) (fun h8 => (ht452 j h8).2)))⟩

end Go.Proofs.Ytcpfdfejojghbaa

/- Walks, written by a program: what each function of the translation hands back. -/
namespace Go.Proofs.Ytcpfdfejojghbaa
open Go.Gx Go.RowKit
attribute [local irreducible] wpList wpStill Code.wp Calls
open Go.Bt
theorem putAllI : ∀ h, PutI h
  | 0 => by
    intro k yv x R W p t w T hO h6 hk hkr
    obtain ⟨pv, D, hL, e⟩ := T
    have e' : (D.map Prod.snd : List (Ky × (Int))) = t := e
    subst e'
    exact putLI hL (show Sorted ((D.map Prod.snd).map Prod.fst) from hO) (by have h9 : (D.map Prod.snd).length ≤ 6 := h6; simpa using h9) hk hkr
  | h + 1 => by
    intro k yv x R W p t w T hO h6 hk hkr
    obtain ⟨kv, cv, K, P, G, hN, hKs, e⟩ := T
    obtain ⟨kl, cs⟩ := t
    have e' : K.map Prod.snd = kl := e
    subst e'
    obtain ⟨h1, h2⟩ := ok_node.1 hO
    exact putNI (putAllI h) hN hKs h1 h2 (by have h9 : (K.map Prod.snd).length ≤ 6 := h6; simpa using h9) hk hkr
theorem putAllS : ∀ h, PutS h
  | 0 => by
    intro k yv x R W p t w T hO h6 hk hkr
    obtain ⟨pv, D, hL, e⟩ := T
    have e' : (D.map Prod.snd : List (Ky × (List UInt8))) = t := e
    subst e'
    exact putLS hL (show Sorted ((D.map Prod.snd).map Prod.fst) from hO) (by have h9 : (D.map Prod.snd).length ≤ 6 := h6; simpa using h9) hk hkr
  | h + 1 => by
    intro k yv x R W p t w T hO h6 hk hkr
    obtain ⟨kv, cv, K, P, G, hN, hKs, e⟩ := T
    obtain ⟨kl, cs⟩ := t
    have e' : K.map Prod.snd = kl := e
    subst e'
    obtain ⟨h1, h2⟩ := ok_node.1 hO
    exact putNS (putAllS h) hN hKs h1 h2 (by have h9 : (K.map Prod.snd).length ≤ 6 := h6; simpa using h9) hk hkr
theorem putAllA : ∀ h, PutA h
  | 0 => by
    intro k yv x R W p t w T hO h6 hk hkr
    obtain ⟨pv, D, hL, e⟩ := T
    have e' : (D.map Prod.snd : List (Ky × (Int × Int))) = t := e
    subst e'
    exact putLA hL (show Sorted ((D.map Prod.snd).map Prod.fst) from hO) (by have h9 : (D.map Prod.snd).length ≤ 6 := h6; simpa using h9) hk hkr
  | h + 1 => by
    intro k yv x R W p t w T hO h6 hk hkr
    obtain ⟨kv, cv, K, P, G, hN, hKs, e⟩ := T
    obtain ⟨kl, cs⟩ := t
    have e' : K.map Prod.snd = kl := e
    subst e'
    obtain ⟨h1, h2⟩ := ok_node.1 hO
    exact putNA (putAllA h) hN hKs h1 h2 (by have h9 : (K.map Prod.snd).length ≤ 6 := h6; simpa using h9) hk hkr
end Go.Proofs.Ytcpfdfejojghbaa

/- Whole trees, plainly: the root may be missing. -/
namespace Go.Bt
abbrev TO (V : Type) := Option ((h : Nat) × Tr V h)
section
variable {V : Type} {h : Nat} {k : Ky} {x : V} {o : TO V} {t : Tr V h}
def grown (h : Nat) (t : Tr V h) : Option (Ky × Tr V h) → TO V
  | none => some ⟨h, t⟩
  | some (u, m) => some ⟨h + 1, (([u], [t, m]) : List Ky × List (Tr V h))⟩
def putO (k : Ky) (x : V) : TO V → Bool × TO V
  | none => (false, some ⟨0, ([(k, x)] : List (Ky × V))⟩)
  | some ⟨h, t⟩ => ((putT h k x t).1, grown h (putT h k x t).2.1 (putT h k x t).2.2)
def toLO : TO V → List (Ky × V)
  | none => []
  | some ⟨h, t⟩ => toL h t
def OkO : TO V → Prop
  | none => True
  | some ⟨h, t⟩ => Ok h t ∧ 1 ≤ szT h t ∧ szT h t ≤ 6
theorem toL_sorted : ∀ {h : Nat} {t : Tr V h}, Ok h t → Sorted ((toL h t).map Prod.fst)
  | 0, t, H => H
  | h + 1, (ks, cs), H => by
    obtain ⟨N, hs⟩ := ok_node.1 H
    show Sorted ((cs.flatMap (toL h)).map Prod.fst)
    rw [List.map_flatMap, Sorted, List.pairwise_flatMap]
    refine ⟨fun c hc => ?_, ?_⟩
    · obtain ⟨i, hi, rfl⟩ := List.getElem_of_mem hc
      exact toL_sorted (N.2.2 i _ (List.getElem?_eq_getElem hi)).1
    · rw [List.pairwise_iff_getElem]
      intro i j hi hj hij a ha b hb
      obtain ⟨p, hp, rfl⟩ := List.mem_map.1 ha
      obtain ⟨q, hq, rfl⟩ := List.mem_map.1 hb
      have h1 := (N.2.2 i _ (List.getElem?_eq_getElem hi)).2 _ (dom_of_toL hp)
      have h2 := (N.2.2 j _ (List.getElem?_eq_getElem hj)).2 _ (dom_of_toL hq)
      exact lt_of_way (ks := ks) (by omega)
theorem toLO_sorted (H : OkO o) : Sorted ((toLO o).map Prod.fst) := by
  match o, H with
  | none, _ => exact List.Pairwise.nil
  | some ⟨h, t⟩, H => exact toL_sorted H.1
theorem putO_ok (H : OkO o) : OkO (putO k x o).2 ∧ ((putO k x o).1 = true ↔ ∃ p ∈ toLO o, p.1 = k) ∧ ∀ p, p ∈ toLO (putO k x o).2 ↔ PutM (fun p => p ∈ toLO o) k x p := by
  match o, H with
  | none, _ =>
    refine ⟨⟨show Sorted [k] from List.pairwise_singleton _ _, Nat.le_refl _, show 1 ≤ 6 from by decide⟩, ⟨fun h => (by cases h), fun ⟨p, hp, _⟩ => (by cases hp)⟩, fun p => ?_⟩
    show p ∈ [(k, x)] ↔ p = (k, x) ∨ (p.1 ≠ k ∧ p ∈ [])
    simp
  | some ⟨h, t⟩, ⟨H, h1, h6⟩ =>
    obtain ⟨a, b⟩ := put_ok (k := k) (v := x) (D := fun _ => True) H h6 (fun _ _ => trivial) trivial
    refine ⟨?_, a, ?_⟩
    · show OkO (grown h (putT h k x t).2.1 (putT h k x t).2.2)
      revert b
      generalize (putT h k x t).2.1 = t1
      cases (putT h k x t).2.2 with
      | none => exact fun b => ⟨b.1, by have := b.2.1; omega, b.2.2.1⟩
      | some q =>
        obtain ⟨u, m⟩ := q
        intro b
        obtain ⟨b1, b2, b3, b4, b5, b6, b7, b8⟩ := b
        refine ⟨ok_node.2 ⟨⟨rfl, List.pairwise_singleton _ _, fun i c hc => ?_⟩, fun c hc => ?_⟩, Nat.le_refl _, show 1 ≤ 6 from by decide⟩
        · match i, hc with
          | 0, hc =>
            have e : t1 = c := by simpa using hc
            subst e
            exact ⟨b1, fun y hy => way_none fun z hz => by rw [List.mem_singleton.1 hz]; exact (b5 y hy).2⟩
          | 1, hc =>
            have e : m = c := by simpa using hc
            subst e
            exact ⟨b2, fun y hy => by rw [way_all fun z hz => by rw [List.mem_singleton.1 hz]; exact (b6 y hy).2]; rfl⟩
          | i + 2, hc => simp at hc
        · rcases List.mem_cons.1 hc with rfl | hc
          · exact b3
          · rw [List.mem_singleton.1 hc]; exact b4
    · show ∀ p, p ∈ toLO (grown h (putT h k x t).2.1 (putT h k x t).2.2) ↔ _
      revert b
      generalize (putT h k x t).2.1 = t1
      cases (putT h k x t).2.2 with
      | none => exact fun b => b.2.2.2.2
      | some q =>
        obtain ⟨u, m⟩ := q
        intro b p
        refine Iff.trans ?_ (b.2.2.2.2.2.2.2 p)
        show p ∈ [t1, m].flatMap (toL h) ↔ _
        simp
theorem sorted_ext : ∀ {a b : List (Ky × V)}, Sorted (a.map Prod.fst) → Sorted (b.map Prod.fst) → (∀ p, p ∈ a ↔ p ∈ b) → a = b
  | [], [], _, _, _ => rfl
  | [], q :: b, _, _, h => by have := (h q).2 (List.mem_cons_self ..); cases this
  | p :: a, [], _, _, h => by have := (h p).1 (List.mem_cons_self ..); cases this
  | p :: a, q :: b, ha, hb, h => by
    have ha' := List.pairwise_cons.1 (show Sorted (p.1 :: a.map Prod.fst) from ha)
    have hb' := List.pairwise_cons.1 (show Sorted (q.1 :: b.map Prod.fst) from hb)
    have e : p = q := by
      have h1 := (h p).1 (List.mem_cons_self ..)
      have h2 := (h q).2 (List.mem_cons_self ..)
      rcases List.mem_cons.1 h1 with e | h1
      · exact e
      · rcases List.mem_cons.1 h2 with e | h2
        · exact e.symm
        · have q1 := hb'.1 _ (List.mem_map.2 ⟨p, h1, rfl⟩)
          have q2 := ha'.1 _ (List.mem_map.2 ⟨q, h2, rfl⟩)
          grind
    subst e
    have hp : ∀ r ∈ a, r ≠ p := fun r hr e => by
      have := ha'.1 _ (List.mem_map.2 ⟨r, hr, rfl⟩)
      rw [e] at this; grind
    have hq : ∀ r ∈ b, r ≠ p := fun r hr e => by
      have := hb'.1 _ (List.mem_map.2 ⟨r, hr, rfl⟩)
      rw [e] at this; grind
    rw [sorted_ext ha'.2 hb'.2 fun r => ⟨fun hr => by
      rcases List.mem_cons.1 ((h r).1 (List.mem_cons_of_mem _ hr)) with e | h3
      · exact absurd e (hp r hr)
      · exact h3, fun hr => by
      rcases List.mem_cons.1 ((h r).2 (List.mem_cons_of_mem _ hr)) with e | h3
      · exact absurd e (hq r hr)
      · exact h3⟩]
/-! levels -/
def lvl : (h : Nat) → List (Tr V h) → List (List Nat)
  | 0, now => [now.map (szT 0)]
  | h + 1, now => now.map (szT (h + 1)) :: lvl h (now.flatMap fun t => t.2)
def levels : TO V → List (List Nat)
  | none => []
  | some ⟨h, t⟩ => lvl h [t]
theorem lvl_len : ∀ {h : Nat} {now : List (Tr V h)}, (lvl h now).length = h + 1
  | 0, now => rfl
  | h + 1, now => by show (lvl h _).length + 1 = _; rw [lvl_len]
theorem lvl_last : ∀ {h : Nat} {now : List (Tr V h)}, ((lvl h now).getLast?.map List.sum).getD 0 = (now.flatMap (toL h)).length
  | 0, now => by
    show (now.map (szT 0)).sum = _
    rw [List.length_flatMap]; rfl
  | h + 1, now => by
    have ih := lvl_last (h := h) (now := now.flatMap fun t => t.2)
    have e : (lvl (h + 1) now).getLast? = (lvl h (now.flatMap fun t => t.2)).getLast? := by
      show (_ :: lvl h _).getLast? = _
      have : (lvl h (now.flatMap fun t => t.2)) ≠ [] := fun e => by have := lvl_len (h := h) (now := now.flatMap fun t => t.2); rw [e] at this; simp at this
      exact List.getLast?_cons_of_ne_nil this
    rw [e, ih, List.flatMap_assoc]; rfl
end
end Go.Bt

/- Whole trees as objects. -/
namespace Go.Gx
open Go.Bt Go.RowKit
section
variable {V : Type} {κ : Kd V} {w w' : World} {F G H W R R' : Nat → Prop} {base b t h p q n tT : Nat} {v root : Value} {k : Ky} {x : V} {o : TO V} {tr : Tr V h}
theorem TreeR.monoR : ∀ {h : Nat} {p : Nat} {tr : Tr V h} {W : Nat → Prop}, TreeR κ R w h p tr W → (∀ k, R k → R' k) → TreeR κ R' w h p tr W
  | 0, _, _, _, ⟨pv, D, L, e⟩, hs => ⟨pv, D, { L with kr := fun x hx k hk => hs k (L.kr x hx k hk) }, e⟩
  | _ + 1, _, _, _, ⟨kv, cv, K, P, G, N, Ks, e⟩, hs => ⟨kv, cv, K, P, G, { N with kr := fun x hx k hk => hs k (N.kr x hx k hk) }, Ks.imp fun _ _ _ q _ => TreeR.monoR q hs, e⟩
theorem TreeR.ltR : ∀ {h : Nat} {p : Nat} {tr : Tr V h} {W : Nat → Prop}, TreeR κ R w h p tr W → TreeR κ (fun j => R j ∧ j < w.heap.size) w h p tr W
  | 0, _, _, _, ⟨pv, D, L, e⟩ => ⟨pv, D, { L with kr := fun x hx k hk => ⟨L.kr x hx k hk, ((L.ks x hx).lt k hk).2⟩ }, e⟩
  | _ + 1, _, _, _, ⟨kv, cv, K, P, G, N, Ks, e⟩ => ⟨kv, cv, K, P, G, { N with kr := fun x hx k hk => ⟨N.kr x hx k hk, ((N.ks x hx).lt k hk).2⟩ }, Ks.imp fun _ _ _ q _ => TreeR.ltR q, e⟩
def TreeO (κ : Kd V) (R : Nat → Prop) (w : World) (o : TO V) (q : Nat) (W : Nat → Prop) : Prop := match o with | none => False | some ⟨h, t⟩ => TreeR κ R w h q t W
theorem TreeO.lt (T : TreeO κ R w o q W) : ∀ k, W k → 0 ≤ k ∧ k < w.heap.size := by
  match o, T with
  | some ⟨h, t⟩, T => exact (show TreeR κ R w h q t W from T).lt
theorem TreeO.keepG (T : TreeO κ R w o q W) (E : Gr w w' H) (hd : Dj W H) (hn : NoK w H) : TreeO κ R w' o q W := by
  match o, T with
  | some ⟨h, t⟩, T => exact TreeR.keepG (show TreeR κ R w h q t W from T) E hd hn
theorem TreeO.monoR (T : TreeO κ R w o q W) (hs : ∀ k, R k → R' k) : TreeO κ R' w o q W := by
  match o, T with
  | some ⟨h, t⟩, T => exact TreeR.monoR (show TreeR κ R w h q t W from T) hs
def TopR (κ : Kd V) (tT base : Nat) (w : World) (p : Nat) (o : TO V) (F : Nat → Prop) : Prop :=
  F p ∧ (∀ k, F k → base ≤ k ∧ k < w.heap.size) ∧ OkO o ∧ ∃ root, Bx w p tT [root] ∧ (o = none ∧ root = .pointer none ∨ ∃ q R W, root = ptr q 0 ∧ TreeO κ R w o q W ∧ (∀ k, W k → F k) ∧ ∀ k, R k → F k)
theorem TopR.lt (T : TopR κ tT base w p o F) : ∀ k, F k → base ≤ k ∧ k < w.heap.size := T.2.1
theorem TopR.keepG (T : TopR κ tT base w p o F) (E : Gr w w' H) (hd : Dj F H) : TopR κ tT base w' p o F := by
  obtain ⟨h1, h2, h3, root, hB, hr⟩ := T
  refine ⟨h1, fun k hk => ⟨(h2 k hk).1, Nat.lt_of_lt_of_le (h2 k hk).2 E.size⟩, h3, root, hB.keepG E (hd p h1), ?_⟩
  rcases hr with hr | ⟨q, R, W, e, hT, hW, hR⟩
  · exact .inl hr
  · refine .inr ⟨q, R, W, e, ?_, hW, hR⟩
    match o, hT with
    | some ⟨h, t⟩, hT => exact TreeR.keepR hT E (fun k hk => hd k (hW k hk)) (fun k hk => hd k (hR k hk))
theorem TopR.after {o2 : TO V} (T : TopR κ tT base w p o F) (hb : base ≤ w.heap.size) (E : w.heap.size ≤ w'.heap.size) (hO : OkO o2) (hB : Bx w' p tT [ptr q 0]) (hT : TreeO κ (fun j => F j ∨ w.heap.size ≤ j) w' o2 q W) (hW : ∀ j, W j → F j ∨ w.heap.size ≤ j) : ∃ F', TopR κ tT base w' p o2 F' ∧ NewF w.heap.size F F' := by
  refine ⟨fun j => F j ∨ (w.heap.size ≤ j ∧ j < w'.heap.size), ⟨.inl T.1, fun j hj => ?_, hO, _, hB, .inr ?_⟩, fun j hj => hj.imp id And.left⟩
  · rcases hj with hj | hj
    · have := T.2.1 j hj; omega
    · omega
  · match o2, hT with
    | some ⟨h, t⟩, hT =>
      have hT : TreeR κ (fun j => F j ∨ w.heap.size ≤ j) w' h q t W := hT
      refine ⟨q, _, W, rfl, hT.ltR, fun j hj => ?_, fun j hj => ?_⟩
      · exact (hW j hj).imp id fun h => ⟨h, hT.ty.lt j hj⟩
      · exact hj.1.imp id fun h => ⟨h, hj.2⟩
end
end Go.Gx

/- Walks, written by a program: what each function of the translation hands back. -/
namespace Go.Proofs.Ytcpfdfejojghbaa
open Go.Gx Go.RowKit
attribute [local irreducible] wpList wpStill Code.wp Calls
open Go.Bt
theorem newI {w : World} : Ret Try.prog 22 #[] w (fun v' w' => Below w.heap.size w w' ∧ ∃ p, v' = ptr p 0 ∧ TopR kI 71 w.heap.size w' p none (fun j => j = p)) := by
 have hb := Below.refl w.heap.size w
 refine enter (N := 3) Try.func22 rfl rfl (by simp) fun a0 hN hd hA => ?_
 clear hA
 refine seq_any fun K2 hK2 => ?_
 refine one_reg (op_assign rfl (reg_nil (hK2 _ _ (seq_any fun K3 hK3 => one_reg (op_build (pv := []) (v := (Value.agg #[(Value.pointer none)])) trivial (by kernel_rfl) ?_)))))
 refine op_box (cs := [(Value.pointer none)]) (ev_hit hN rfl) rfl ?_
 intro w4 b5 lo_b5 hi_b5 hB7 E6
 have z_w4 := E6.size
 have hb := below_step0 hb E6 hb.size
 refine op_assign (ev_hit hN rfl) ?_
 refine reg_nil (hK3 _ _ (wp_ret ?_))
 refine ret1 rfl hd (ev_hit hN rfl) ⟨_, rfl, ?_⟩
 exact ⟨hb, b5, rfl, rfl, fun j hj => ⟨by rw [hj]; omega, by rw [hj]; exact hB7.lt⟩, trivial, _, hB7, .inl ⟨rfl, rfl⟩⟩

theorem newS {w : World} : Ret Try.prog 12 #[] w (fun v' w' => Below w.heap.size w w' ∧ ∃ p, v' = ptr p 0 ∧ TopR kS 88 w.heap.size w' p none (fun j => j = p)) := by
 have hb := Below.refl w.heap.size w
 refine enter (N := 3) Try.func12 rfl rfl (by simp) fun a0 hN hd hA => ?_
 clear hA
 refine seq_any fun K2 hK2 => ?_
 refine one_reg (op_assign rfl (reg_nil (hK2 _ _ (seq_any fun K3 hK3 => one_reg (op_build (pv := []) (v := (Value.agg #[(Value.pointer none)])) trivial (by kernel_rfl) ?_)))))
 refine op_box (cs := [(Value.pointer none)]) (ev_hit hN rfl) rfl ?_
 intro w4 b5 lo_b5 hi_b5 hB7 E6
 have z_w4 := E6.size
 have hb := below_step0 hb E6 hb.size
 refine op_assign (ev_hit hN rfl) ?_
 refine reg_nil (hK3 _ _ (wp_ret ?_))
 refine ret1 rfl hd (ev_hit hN rfl) ⟨_, rfl, ?_⟩
 exact ⟨hb, b5, rfl, rfl, fun j hj => ⟨by rw [hj]; omega, by rw [hj]; exact hB7.lt⟩, trivial, _, hB7, .inl ⟨rfl, rfl⟩⟩

theorem newA {w : World} : Ret Try.prog 16 #[] w (fun v' w' => Below w.heap.size w w' ∧ ∃ p, v' = ptr p 0 ∧ TopR kA 101 w.heap.size w' p none (fun j => j = p)) := by
 have hb := Below.refl w.heap.size w
 refine enter (N := 3) Try.func16 rfl rfl (by simp) fun a0 hN hd hA => ?_
 clear hA
 refine seq_any fun K2 hK2 => ?_
 refine one_reg (op_assign rfl (reg_nil (hK2 _ _ (seq_any fun K3 hK3 => one_reg (op_build (pv := []) (v := (Value.agg #[(Value.pointer none)])) trivial (by kernel_rfl) ?_)))))
 refine op_box (cs := [(Value.pointer none)]) (ev_hit hN rfl) rfl ?_
 intro w4 b5 lo_b5 hi_b5 hB7 E6
 have z_w4 := E6.size
 have hb := below_step0 hb E6 hb.size
 refine op_assign (ev_hit hN rfl) ?_
 refine reg_nil (hK3 _ _ (wp_ret ?_))
 refine ret1 rfl hd (ev_hit hN rfl) ⟨_, rfl, ?_⟩
 exact ⟨hb, b5, rfl, rfl, fun j hj => ⟨by rw [hj]; omega, by rw [hj]; exact hB7.lt⟩, trivial, _, hB7, .inl ⟨rfl, rfl⟩⟩

theorem putT0I {k : List UInt8} {xv : Value} {x : Int} {F : Nat → Prop} {p : Nat} {R : Nat → Prop} {w : World} (hx : Bx w p 71 [.pointer none]) (hFp : F p) {L B : Nat} (hk : RdC w L B 1 xv k.length (k.map u8v)) (hB : B ≤ w.heap.size) (hap : ∀ j, F j → j < L ∨ B ≤ j) (hkn : k.length ≤ 1000000000) : Ret Try.prog 23 #[(ptr p 0), xv, (Value.int .i64 x)] w (fun v' w' => Gr w w' F ∧ v' = .bool (putT 0 k x (([] : List (Ky × (Int))) : Tr (Int) 0)).1 ∧ ∃ q2 W2, Bx w' p 71 [ptr q2 0] ∧ TreeO kI (fun j => R j ∨ w.heap.size ≤ j) w' (grown 0 (putT 0 k x (([] : List (Ky × (Int))) : Tr (Int) 0)).2.1 (putT 0 k x (([] : List (Ky × (Int))) : Tr (Int) 0)).2.2) q2 W2 ∧ ∀ j, W2 j → F j ∨ w.heap.size ≤ j) := by
 have hi_p := hx.lt
 have hb := Gr.refl w F
 refine enter (N := 51) Try.func23 rfl rfl (by simp) fun a0 hN hd hA => ?_
 have s0 : a0.tmps.getD 0 undef = (ptr p 0) := hA 0 (by simp)
 have s1 : a0.tmps.getD 1 undef = xv := hA 1 (by simp)
 have s2 : a0.tmps.getD 2 undef = (Value.int .i64 x) := hA 2 (by simp)
 clear hA
 refine seq_any fun K3 hK3 => one_reg (op_assign rfl ?_)
 refine reg_nil (hK3 _ _ (seq_any fun K4 hK4 => seq_any fun K5 hK5 => one_reg (op_move (ev_base hN rfl s0) (op_peq_some ptrt45 (ev_hit hN rfl) rfl ?_))))
 refine reg_nil (hK5 _ _ (wp_cond_false (ev_hit hN rfl) ?_))
 refine wp_skip ?_
 refine hK4 _ _ (seq_any fun K6 hK6 => ?_)
 refine seq_any fun K7 hK7 => one_reg (op_move (ev_base hN rfl s0) (op_nil (ev_hit hN rfl) (op_field fld71_0 (ev_hit hN rfl) (op_load1 (v := (Value.pointer none)) one69 (ev_hit hN rfl) (hx.cell rfl) (op_peq_none ptrt69 (ev_hit hN rfl) rfl ?_)))))
 refine reg_nil (hK7 _ _ (wp_cond_true (ev_hit hN rfl) ?_))
 refine one_reg (op_move (ev_base hN rfl s0) (op_build (pv := []) (v := (Value.agg #[(Value.slice none 0 0), (Value.slice none 0 0), (Value.slice none 0 0)])) trivial (by kernel_rfl) ?_))
 refine op_box (cs := [(Value.slice none 0 0), (Value.slice none 0 0), (Value.slice none 0 0)]) (ev_hit hN rfl) rfl ?_
 intro w10 b11 lo_b11 hi_b11 hB13 E12
 have z_w10 := E12.size
 have hx := hx.keep0 E12
 have hk := hk.keep0 E12
 have hb := hb.step0 E12
 refine op_nil (ev_hit hN rfl) (op_field fld71_0 (ev_hit hN rfl) ?_)
 have hx_old := hx
 refine op_store (vs := [(ptr b11 0)]) (cs' := [(ptr b11 0)]) size69 (ev_hit hN rfl) (ev_hit hN rfl) rfl rfl rfl hx (Nat.le_of_ble_eq_true rfl) rfl ?_
 intro w14 hx E15
 have z_w14 := E15.size
 have hk := hk.keep E15 (fun k hk => by have e9 := Option.some.inj hk; subst e9; exact hap _ hFp)
 have hB13 := hB13.keep E15 (fun hh => hB13.ne hx_old (by decide) (Option.some.inj hh))
 have hb := hb.stepB E15 hFp
 refine reg_nil (hK6 _ _ (seq_any fun K16 hK16 => ?_))
 have hT17 : TreeR kI (fun j => R j ∨ w.heap.size ≤ j) w14 0 b11 (([] : List (Ky × (Int))) : Tr (Int) 0) (leafW b11 nilV) := mkLeaf (D := []) hB13 (Own.nil _ 0 _ _) (fun _ h => (by cases h)) (fun _ h => (by cases h)) rfl
 have hlo : ∀ j, leafW b11 nilV j → w.heap.size ≤ j := leafW_fresh (e := 0) (sz := 0) (b := 0) (cs := []) (by omega) (Own.nil w14 _ 0 0)
 refine reg_split (hd := [_, _, _, _, _, _, _, _, _]) (tl := _) 9 mixed (by kernel_rfl) rfl rfl ?_
 refine any_env (φ := phiV [(fun uz => uz = (ptr p 0)), (fun uz => uz = (ptr p 0)), (fun uz => uz = (ptr p 0)), (fun uz => uz = (ptr b11 0)), (fun uz => uz = xv), (fun _ => True), (fun uz => uz = (Value.int .i64 x)), (fun _ => True), (fun _ => True)]) (G := fun w' => Bx w' p 71 [(ptr b11 0)]) [5, 7, 8] (by kernel_rfl) (by kernel_rfl) (by kernel_rfl) (by kernel_rfl) hN (fun w1 w2 E h => h.keep0 E) hx (ObEs.cons ?_ (ObEs.cons ?_ (ObEs.cons ?_ (ObEs.cons ?_ (ObEs.cons ?_ (ObEs.pass rfl (ObEs.cons ?_ (ObEs.pass rfl (ObEs.pass rfl (ObEs.nil)))))))))) (by simp only [putsL_defers]) ?_
 ·
  intro eA aA wA hNA hGA hbsA hdpA
  have qA_0 := (hbsA 0 rfl).trans (sl_base hN rfl s0)
  refine op_move (ev_base hNA rfl qA_0) ?_
  exact obE_end rfl rfl rfl
 ·
  intro eA aA wA hNA hGA hbsA hdpA
  have qA_23 : Sl aA 23 (ptr p 0) := (hdpA 0 _ 23 (by kernel_rfl) rfl rfl).2 rfl
  refine op_nil (ev_base hNA rfl qA_23) ?_
  exact obE_end rfl rfl rfl
 ·
  intro eA aA wA hNA hGA hbsA hdpA
  have qA_24 : Sl aA 24 (ptr p 0) := (hdpA 1 _ 24 (by kernel_rfl) rfl rfl).2 rfl
  refine op_field fld71_0 (ev_base hNA rfl qA_24) ?_
  exact obE_end rfl rfl rfl
 ·
  intro eA aA wA hNA hGA hbsA hdpA
  have qA_25 : Sl aA 25 (ptr p 0) := (hdpA 2 _ 25 (by kernel_rfl) rfl rfl).2 rfl
  refine op_load1 (v := (ptr b11 0)) one69 (ev_base hNA rfl qA_25) (hGA.cell rfl) ?_
  exact obE_end rfl rfl rfl
 ·
  intro eA aA wA hNA hGA hbsA hdpA
  have qA_1 := (hbsA 1 rfl).trans (sl_base hN rfl s1)
  refine op_move (ev_base hNA rfl qA_1) ?_
  exact obE_end rfl rfl rfl
 ·
  intro eA aA wA hNA hGA hbsA hdpA
  have qA_2 := (hbsA 2 rfl).trans (sl_base hN rfl s2)
  refine op_move (ev_base hNA rfl qA_2) ?_
  exact obE_end rfl rfl rfl
 ·
  intro w18 E18 _ a18 hN18 hbs18 hdp18 o_ ho_; obtain rfl := Option.some.inj ho_
  have z_w18 := E18.size
  have hk := hk.keep0 E18
  have hx := hx.keep0 E18
  have hT17 := hT17.keepG (Gr.of0 E18 NoB) (fun _ _ h => h) (NoK.no _)
  have hb := hb.step0 E18
  have q18_27 : Sl a18 27 xv := (hdp18 4 _ 27 (by kernel_rfl) rfl rfl).2 rfl
  refine op_fn (vs := [xv]) ok41 ⟨(ev_base hN18 rfl q18_27), trivial⟩ (clB (hk.mono (Nat.zero_le _) (by omega)) (by omega)) ?_
  rintro v19 w20 ⟨E21, hO19⟩
  have dj22 : Dj (leafW b11 nilV) (Bl v19) := Dj.fresh (fun k hk => (hT17.lt k hk).2) (fun k hk => (hO19.lt k hk).1)
  have E21 := grown_of_below E21
  have z_w20 := E21.size
  have hk := hk.keep0 E21
  have hx := hx.keep0 E21
  have hT17 := hT17.keepG (Gr.of0 E21 NoB) (fun _ _ h => h) (NoK.no _)
  have hb := hb.step0 E21
  have hO19 := hO19.mono (base' := w.heap.size) (by omega)
  skip
  refine ke_end rfl (by decide) rfl hx ?_
  intro w32 E32 _ a32 hN32 hbs32 hdp32 o_ ho_; obtain rfl := Option.some.inj ho_
  have z_w32 := E32.size
  have hk := hk.keep0 E32
  have hx := hx.keep0 E32
  have hT17 := hT17.keepG (Gr.of0 E32 NoB) (fun _ _ h => h) (NoK.no _)
  have hO19 := hO19.keep0 E32
  have hb := hb.step0 E32
  have q32_28 : Sl a32 28 v19 := (Option.some.inj ((hdp32 5 _ 28 (by kernel_rfl) rfl rfl).1 0 rfl)).symm
  have q32_29 : Sl a32 29 (Value.int .i64 x) := (hdp32 6 _ 29 (by kernel_rfl) rfl rfl).2 rfl
  refine op_build (pv := [(0, v19), (1, (Value.int .i64 x))]) (v := (Value.agg #[v19, (Value.int .i64 x)])) ⟨rfl, (ev_base hN32 rfl q32_28), ⟨rfl, (ev_base hN32 rfl q32_29), trivial⟩⟩ (by obtain ⟨_, _, _, rfl⟩ := hO19.sl; kernel_rfl) ?_
  refine ke_end rfl (by decide) rfl hx ?_
  intro w33 E33 _ a33 hN33 hbs33 hdp33 o_ ho_; obtain rfl := Option.some.inj ho_
  have z_w33 := E33.size
  have hk := hk.keep0 E33
  have hx := hx.keep0 E33
  have hT17 := hT17.keepG (Gr.of0 E33 NoB) (fun _ _ h => h) (NoK.no _)
  have hO19 := hO19.keep0 E33
  have hb := hb.step0 E33
  have q33_26 : Sl a33 26 (ptr b11 0) := (hdp33 3 _ 26 (by kernel_rfl) rfl rfl).2 rfl
  have q33_30 : Sl a33 30 (Value.agg #[v19, (Value.int .i64 x)]) := (Option.some.inj ((hdp33 7 _ 30 (by kernel_rfl) rfl rfl).1 1 rfl)).symm
  rcases Bool.eq_false_or_eq_true (((putT 0 k x (([] : List (Ky × (Int))) : Tr (Int) 0)).2.2.isSome)) with k31 | k31
  · -- 31T
   cases (show false = true from k31)
  · -- 31F
   refine op_fn (vs := [(ptr b11 0), (Value.agg #[v19, (Value.int .i64 x)])]) ok48 ⟨(ev_base hN33 rfl q33_26), ⟨(ev_base hN33 rfl q33_30), trivial⟩⟩ (putAllI 0 hT17 (show Sorted ([] : List Ky) from List.Pairwise.nil) (Nat.zero_le 6) (hO19.mono (Nat.zero_le _)) (fun j hj => .inr (hO19.lt j hj).1)) ?_
   rintro _ w35 ⟨E36, u34, m34, rfl, ho34⟩
   have bd37 := hx.lt
   have bd38 := hO19.lt
   have dj39 := (hT17.notBx hx (by decide) (by decide) (by decide) (by decide))
   have dj40 := dj22.symm
   obtain ⟨hr34, rfl, rfl, W1_34, hT34, hN1_34⟩ := outR_none k31 ho34
   have z_w35 := E36.size
   have hx := hx.keepG E36 dj39
   have hb := hb.stepF E36 (fun k hk h => absurd (hlo k h) (by omega))
   have hin42 : ∀ j, W1_34 j → F j ∨ w.heap.size ≤ j := fun j hj => (hN1_34 j hj).elim (fun h => .inr (hlo j h)) (fun h => .inr (by omega))
   refine ke_end rfl (by decide) rfl hx ?_
   intro w43 E43 a43 hN43 hd43 hbs43 hph43
   have hd43 := hd43.trans ((by simp only [putsL_defers] : _ = _).trans hd)
   have z_w43 := E43.size
   have hx := hx.keep0 E43
   have hT34 := hT34.keepG (Gr.of0 E43 NoB) (fun _ _ h => h) (NoK.no _)
   have hb := hb.step0 E43
   have s43_31 : Sl a43 31 (Value.tuple #[(Value.bool (putT 0 k x (([] : List (Ky × (Int))) : Tr (Int) 0)).1), (Value.slice none 0 0), (Value.pointer none)]) := (Option.some.inj ((hph43 8 _ 31 rfl rfl).1 2 rfl)).symm
   refine split_end ?_
   refine from_still (m := 16) 7 (hd := [_, _, _, _, _, _, _]) (by kernel_rfl) rfl rfl ?_
   refine st_step rfl (fun _ h9 => op_move (ev_base hN43 rfl s43_31) h9) ?_
   refine st_step rfl (fun _ h9 => op_extract (ev_hit hN43 rfl) rfl h9) ?_
   refine st_step rfl (fun _ h9 => op_extract (ev_hit hN43 rfl) rfl h9) ?_
   refine st_step rfl (fun _ h9 => op_extract (ev_hit hN43 rfl) rfl h9) ?_
   refine st_step rfl (fun _ h9 => op_assign (ev_hit hN43 rfl) h9) ?_
   refine st_step rfl (fun _ h9 => op_assign (ev_hit hN43 rfl) h9) ?_
   refine st_step rfl (fun _ h9 => op_assign (ev_hit hN43 rfl) h9) ?_
   refine st_nil ?_
   refine from_end ?_ rfl
   refine hK16 _ _ (seq_any fun K44 hK44 => seq_any fun K46 hK46 => one_reg (op_move (ev_hit hN43 rfl) (op_pne_none ptrt69 (ev_hit hN43 rfl) rfl ?_)))
   refine reg_nil (hK46 _ _ (wp_cond_false (ev_hit hN43 rfl) ?_))
   refine wp_skip ?_
   refine hK44 _ _ (seq_any fun K47 hK47 => one_reg (op_move (ev_hit hN43 rfl) (op_assign (ev_hit hN43 rfl) ?_)))
   refine reg_nil (hK47 _ _ (wp_ret ?_))
   refine ret1 rfl hd43 (ev_hit hN43 rfl) ⟨_, rfl, ?_⟩
   exact ⟨hb, rfl, b11, W1_34, hx, (by rw [hr34]; exact hT34), hin42⟩

theorem putT1I {k : List UInt8} {xv : Value} {x : Int} {F : Nat → Prop} {p : Nat} {h q : Nat} {t : Tr (Int) h} {W : Nat → Prop} {R : Nat → Prop} {w : World} (hx : Bx w p 71 [ptr q 0]) (hFp : F p) (hT : TreeR kI R w h q t W) (hFW : ∀ j, W j → F j) (hO : Ok h t) (h6 : szT h t ≤ 6) {L B : Nat} (hk : RdC w L B 1 xv k.length (k.map u8v)) (hB : B ≤ w.heap.size) (hap : ∀ j, F j → j < L ∨ B ≤ j) (hkn : k.length ≤ 1000000000) : Ret Try.prog 23 #[(ptr p 0), xv, (Value.int .i64 x)] w (fun v' w' => Gr w w' F ∧ v' = .bool (putT h k x t).1 ∧ ∃ q2 W2, Bx w' p 71 [ptr q2 0] ∧ TreeO kI (fun j => R j ∨ w.heap.size ≤ j) w' (grown h (putT h k x t).2.1 (putT h k x t).2.2) q2 W2 ∧ ∀ j, W2 j → F j ∨ w.heap.size ≤ j) := by
 have hi_p := hx.lt
 have hT1 : TreeR kI (fun j => R j ∨ w.heap.size ≤ j) w h q t W := hT.monoR (fun j h => .inl h)
 have hb := Gr.refl w F
 refine enter (N := 51) Try.func23 rfl rfl (by simp) fun a0 hN hd hA => ?_
 have s0 : a0.tmps.getD 0 undef = (ptr p 0) := hA 0 (by simp)
 have s1 : a0.tmps.getD 1 undef = xv := hA 1 (by simp)
 have s2 : a0.tmps.getD 2 undef = (Value.int .i64 x) := hA 2 (by simp)
 clear hA
 refine seq_any fun K3 hK3 => one_reg (op_assign rfl ?_)
 refine reg_nil (hK3 _ _ (seq_any fun K4 hK4 => seq_any fun K5 hK5 => one_reg (op_move (ev_base hN rfl s0) (op_peq_some ptrt45 (ev_hit hN rfl) rfl ?_))))
 refine reg_nil (hK5 _ _ (wp_cond_false (ev_hit hN rfl) ?_))
 refine wp_skip ?_
 refine hK4 _ _ (seq_any fun K7 hK7 => ?_)
 refine seq_any fun K10 hK10 => one_reg (op_move (ev_base hN rfl s0) (op_nil (ev_hit hN rfl) (op_field fld71_0 (ev_hit hN rfl) (op_load1 (v := (ptr q 0)) one69 (ev_hit hN rfl) (hx.cell rfl) (op_peq_some ptrt69 (ev_hit hN rfl) rfl ?_)))))
 refine reg_nil (hK10 _ _ (wp_cond_false (ev_hit hN rfl) ?_))
 refine wp_skip ?_
 refine hK7 _ _ (seq_any fun K11 hK11 => reg_split (hd := [_, _, _, _, _, _, _, _, _]) (tl := _) 9 mixed (by kernel_rfl) rfl rfl ?_)
 refine any_env (φ := phiV [(fun uz => uz = (ptr p 0)), (fun uz => uz = (ptr p 0)), (fun uz => uz = (ptr p 0)), (fun uz => uz = (ptr q 0)), (fun uz => uz = xv), (fun _ => True), (fun uz => uz = (Value.int .i64 x)), (fun _ => True), (fun _ => True)]) (G := fun w' => Bx w' p 71 [(ptr q 0)]) [5, 7, 8] (by kernel_rfl) (by kernel_rfl) (by kernel_rfl) (by kernel_rfl) hN (fun w1 w2 E h => h.keep0 E) hx (ObEs.cons ?_ (ObEs.cons ?_ (ObEs.cons ?_ (ObEs.cons ?_ (ObEs.cons ?_ (ObEs.pass rfl (ObEs.cons ?_ (ObEs.pass rfl (ObEs.pass rfl (ObEs.nil)))))))))) (by simp only [putsL_defers]) ?_
 ·
  intro eA aA wA hNA hGA hbsA hdpA
  have qA_0 := (hbsA 0 rfl).trans (sl_base hN rfl s0)
  refine op_move (ev_base hNA rfl qA_0) ?_
  exact obE_end rfl rfl rfl
 ·
  intro eA aA wA hNA hGA hbsA hdpA
  have qA_23 : Sl aA 23 (ptr p 0) := (hdpA 0 _ 23 (by kernel_rfl) rfl rfl).2 rfl
  refine op_nil (ev_base hNA rfl qA_23) ?_
  exact obE_end rfl rfl rfl
 ·
  intro eA aA wA hNA hGA hbsA hdpA
  have qA_24 : Sl aA 24 (ptr p 0) := (hdpA 1 _ 24 (by kernel_rfl) rfl rfl).2 rfl
  refine op_field fld71_0 (ev_base hNA rfl qA_24) ?_
  exact obE_end rfl rfl rfl
 ·
  intro eA aA wA hNA hGA hbsA hdpA
  have qA_25 : Sl aA 25 (ptr p 0) := (hdpA 2 _ 25 (by kernel_rfl) rfl rfl).2 rfl
  refine op_load1 (v := (ptr q 0)) one69 (ev_base hNA rfl qA_25) (hGA.cell rfl) ?_
  exact obE_end rfl rfl rfl
 ·
  intro eA aA wA hNA hGA hbsA hdpA
  have qA_1 := (hbsA 1 rfl).trans (sl_base hN rfl s1)
  refine op_move (ev_base hNA rfl qA_1) ?_
  exact obE_end rfl rfl rfl
 ·
  intro eA aA wA hNA hGA hbsA hdpA
  have qA_2 := (hbsA 2 rfl).trans (sl_base hN rfl s2)
  refine op_move (ev_base hNA rfl qA_2) ?_
  exact obE_end rfl rfl rfl
 ·
  intro w12 E12 _ a12 hN12 hbs12 hdp12 o_ ho_; obtain rfl := Option.some.inj ho_
  have z_w12 := E12.size
  have hx := hx.keep0 E12
  have hk := hk.keep0 E12
  have hT1 := hT1.keepG (Gr.of0 E12 NoB) (fun _ _ h => h) (NoK.no _)
  have hb := hb.step0 E12
  have q12_27 : Sl a12 27 xv := (hdp12 4 _ 27 (by kernel_rfl) rfl rfl).2 rfl
  refine op_fn (vs := [xv]) ok41 ⟨(ev_base hN12 rfl q12_27), trivial⟩ (clB (hk.mono (Nat.zero_le _) (by omega)) (by omega)) ?_
  rintro v13 w14 ⟨E15, hO13⟩
  have dj16 : Dj W (Bl v13) := Dj.fresh (fun k hk => (hT1.lt k hk).2) (fun k hk => (hO13.lt k hk).1)
  have E15 := grown_of_below E15
  have z_w14 := E15.size
  have hx := hx.keep0 E15
  have hT1 := hT1.keepG (Gr.of0 E15 NoB) (fun _ _ h => h) (NoK.no _)
  have hb := hb.step0 E15
  have hO13 := hO13.mono (base' := w.heap.size) (by omega)
  skip
  refine ke_end rfl (by decide) rfl hx ?_
  intro w17 E17 _ a17 hN17 hbs17 hdp17 o_ ho_; obtain rfl := Option.some.inj ho_
  have z_w17 := E17.size
  have hx := hx.keep0 E17
  have hT1 := hT1.keepG (Gr.of0 E17 NoB) (fun _ _ h => h) (NoK.no _)
  have hO13 := hO13.keep0 E17
  have hb := hb.step0 E17
  have q17_28 : Sl a17 28 v13 := (Option.some.inj ((hdp17 5 _ 28 (by kernel_rfl) rfl rfl).1 0 rfl)).symm
  have q17_29 : Sl a17 29 (Value.int .i64 x) := (hdp17 6 _ 29 (by kernel_rfl) rfl rfl).2 rfl
  refine op_build (pv := [(0, v13), (1, (Value.int .i64 x))]) (v := (Value.agg #[v13, (Value.int .i64 x)])) ⟨rfl, (ev_base hN17 rfl q17_28), ⟨rfl, (ev_base hN17 rfl q17_29), trivial⟩⟩ (by obtain ⟨_, _, _, rfl⟩ := hO13.sl; kernel_rfl) ?_
  refine ke_end rfl (by decide) rfl hx ?_
  intro w18 E18 _ a18 hN18 hbs18 hdp18 o_ ho_; obtain rfl := Option.some.inj ho_
  have z_w18 := E18.size
  have hx := hx.keep0 E18
  have hT1 := hT1.keepG (Gr.of0 E18 NoB) (fun _ _ h => h) (NoK.no _)
  have hO13 := hO13.keep0 E18
  have hb := hb.step0 E18
  have q18_26 : Sl a18 26 (ptr q 0) := (hdp18 3 _ 26 (by kernel_rfl) rfl rfl).2 rfl
  have q18_30 : Sl a18 30 (Value.agg #[v13, (Value.int .i64 x)]) := (Option.some.inj ((hdp18 7 _ 30 (by kernel_rfl) rfl rfl).1 1 rfl)).symm
  rcases Bool.eq_false_or_eq_true (((putT h k x t).2.2.isSome)) with k31 | k31
  · -- 31T
   refine op_fn (vs := [(ptr q 0), (Value.agg #[v13, (Value.int .i64 x)])]) ok48 ⟨(ev_base hN18 rfl q18_26), ⟨(ev_base hN18 rfl q18_30), trivial⟩⟩ (putAllI h hT1 hO h6 (hO13.mono (Nat.zero_le _)) (fun j hj => .inr (hO13.lt j hj).1)) ?_
   rintro _ w20 ⟨E21, u19, m19, rfl, ho19⟩
   have bd22 := hx.lt
   have bd32 := hO13.lt
   have dj33 := (hT1.notBx hx (by decide) (by decide) (by decide) (by decide))
   have dj34 := dj16.symm
   obtain ⟨y19, t2_19, q19, W1_19, W2_19, hr19, rfl, hu19, hur19, hT19, hT2_19, hN1_19, hN2_19, hd19⟩ := outR_some k31 ho19
   have z_w20 := E21.size
   have hx := hx.keepG E21 dj33
   have hb := hb.stepF E21 (fun k _ h => hFW k h)
   have dj35 : ¬ W1_19 p := ne_stepF hN1_19 bd22 dj33
   have hin36 : ∀ j, W1_19 j → F j ∨ w.heap.size ≤ j := fun j hj => (hN1_19 j hj).elim (fun h => .inl (hFW j h)) (fun h => .inr (by omega))
   have dj37 : ¬ W2_19 p := ne_stepF hN2_19 bd22 dj33
   have hin38 : ∀ j, W2_19 j → F j ∨ w.heap.size ≤ j := fun j hj => (hN2_19 j hj).elim (fun h => .inl (hFW j h)) (fun h => .inr (by omega))
   refine ke_end rfl (by decide) rfl hx ?_
   intro w39 E39 a39 hN39 hd39 hbs39 hph39
   have hd39 := hd39.trans ((by simp only [putsL_defers] : _ = _).trans hd)
   have z_w39 := E39.size
   have hx := hx.keep0 E39
   have hT19 := hT19.keepG (Gr.of0 E39 NoB) (fun _ _ h => h) (NoK.no _)
   have hT2_19 := hT2_19.keepG (Gr.of0 E39 NoB) (fun _ _ h => h) (NoK.no _)
   have hu19 := hu19.keep0 E39
   have hb := hb.step0 E39
   have s39_0 := (hbs39 0 rfl).trans (sl_base hN rfl s0)
   have s39_31 : Sl a39 31 (Value.tuple #[(Value.bool (putT h k x t).1), u19, (ptr q19 0)]) := (Option.some.inj ((hph39 8 _ 31 rfl rfl).1 2 rfl)).symm
   refine split_end ?_
   refine from_still (m := 16) 7 (hd := [_, _, _, _, _, _, _]) (by kernel_rfl) rfl rfl ?_
   refine st_step rfl (fun _ h9 => op_move (ev_base hN39 rfl s39_31) h9) ?_
   refine st_step rfl (fun _ h9 => op_extract (ev_hit hN39 rfl) rfl h9) ?_
   refine st_step rfl (fun _ h9 => op_extract (ev_hit hN39 rfl) rfl h9) ?_
   refine st_step rfl (fun _ h9 => op_extract (ev_hit hN39 rfl) rfl h9) ?_
   refine st_step rfl (fun _ h9 => op_assign (ev_hit hN39 rfl) h9) ?_
   refine st_step rfl (fun _ h9 => op_assign (ev_hit hN39 rfl) h9) ?_
   refine st_step rfl (fun _ h9 => op_assign (ev_hit hN39 rfl) h9) ?_
   refine st_nil ?_
   refine from_end ?_ rfl
   refine hK11 _ _ (seq_any fun K40 hK40 => seq_any fun K42 hK42 => one_reg (op_move (ev_hit hN39 rfl) (op_pne_some ptrt69 (ev_hit hN39 rfl) rfl ?_)))
   refine reg_nil (hK42 _ _ (wp_cond_true (ev_hit hN39 rfl) ?_))
   refine one_reg (op_move (ev_base hN39 rfl s39_0) (op_move (ev_hit hN39 rfl) (op_bslice (e := 27) (pv := [(0, u19)]) (cs := [u19]) ⟨rfl, (ev_hit hN39 rfl), trivial⟩ (by obtain ⟨_, _, _, rfl⟩ := hu19.sl; kernel_rfl) ?_)))
   intro w43 b44 lo_b44 hi_b44 hB47 E46
   have dj49 : ¬ W1_19 b44 := fun hf => by have := (hT19.lt _ hf).2; omega
   have dj50 : ¬ W2_19 b44 := fun hf => by have := (hT2_19.lt _ hf).2; omega
   have z_w43 := E46.size
   have hx := hx.keep0 E46
   have hT19 := hT19.keepG (Gr.of0 E46 NoB) (fun _ _ h => h) (NoK.no _)
   have hT2_19 := hT2_19.keepG (Gr.of0 E46 NoB) (fun _ _ h => h) (NoK.no _)
   have hu19 := hu19.keep0 E46
   have hb := hb.step0 E46
   refine op_move (ev_base hN39 rfl s39_0) (op_nil (ev_hit hN39 rfl) (op_field fld71_0 (ev_hit hN39 rfl) (op_load1 (v := (ptr q 0)) one69 (ev_hit hN39 rfl) (hx.cell rfl) (op_move (ev_hit hN39 rfl) (op_bslice (e := 69) (pv := [(0, (ptr q 0)), (1, (ptr q19 0))]) (cs := [(ptr q 0), (ptr q19 0)]) ⟨rfl, (ev_hit hN39 rfl), ⟨rfl, (ev_hit hN39 rfl), trivial⟩⟩ (by kernel_rfl) ?_)))))
   intro w51 b52 lo_b52 hi_b52 hB54 E53
   have dj55 : ¬ W1_19 b52 := fun hf => by have := (hT19.lt _ hf).2; omega
   have dj56 : ¬ W2_19 b52 := fun hf => by have := (hT2_19.lt _ hf).2; omega
   have z_w51 := E53.size
   have hx := hx.keep0 E53
   have hT19 := hT19.keepG (Gr.of0 E53 NoB) (fun _ _ h => h) (NoK.no _)
   have hT2_19 := hT2_19.keepG (Gr.of0 E53 NoB) (fun _ _ h => h) (NoK.no _)
   have hu19 := hu19.keep0 E53
   have hB47 := hB47.keep0 E53
   have hb := hb.step0 E53
   refine op_build (pv := [(1, (Value.slice (some ⟨b44, 0, none⟩) 1 1)), (2, (Value.slice (some ⟨b52, 0, none⟩) 2 2))]) (v := (Value.agg #[(Value.slice none 0 0), (Value.slice (some ⟨b44, 0, none⟩) 1 1), (Value.slice (some ⟨b52, 0, none⟩) 2 2)])) ⟨rfl, (ev_hit hN39 rfl), ⟨rfl, (ev_hit hN39 rfl), trivial⟩⟩ (by kernel_rfl) ?_
   refine op_box (cs := [(Value.slice none 0 0), (Value.slice (some ⟨b44, 0, none⟩) 1 1), (Value.slice (some ⟨b52, 0, none⟩) 2 2)]) (ev_hit hN39 rfl) rfl ?_
   intro w57 b58 lo_b58 hi_b58 hB60 E59
   have dj61 : ¬ W1_19 b58 := fun hf => by have := (hT19.lt _ hf).2; omega
   have dj62 : ¬ W2_19 b58 := fun hf => by have := (hT2_19.lt _ hf).2; omega
   have z_w57 := E59.size
   have hx := hx.keep0 E59
   have hT19 := hT19.keepG (Gr.of0 E59 NoB) (fun _ _ h => h) (NoK.no _)
   have hT2_19 := hT2_19.keepG (Gr.of0 E59 NoB) (fun _ _ h => h) (NoK.no _)
   have hu19 := hu19.keep0 E59
   have hB47 := hB47.keep0 E59
   have hB54 := hB54.keep0 E59
   have hb := hb.step0 E59
   refine op_nil (ev_hit hN39 rfl) (op_field fld71_0 (ev_hit hN39 rfl) ?_)
   have hx_old := hx
   refine op_store (vs := [(ptr b58 0)]) (cs' := [(ptr b58 0)]) size69 (ev_hit hN39 rfl) (ev_hit hN39 rfl) rfl rfl rfl hx (Nat.le_of_ble_eq_true rfl) rfl ?_
   intro w63 hx E64
   have z_w63 := E64.size
   have hT19 := hT19.keepG (Gr.of E64) (Dj.one dj35) (NoK.ofBx hx_old (by decide))
   have hT2_19 := hT2_19.keepG (Gr.of E64) (Dj.one dj37) (NoK.ofBx hx_old (by decide))
   have hu19 := hu19.keepX hx_old E64 (by decide)
   have hB47 := hB47.keep E64 (fun hh => hB47.ne hx_old (by decide) (Option.some.inj hh))
   have hB54 := hB54.keep E64 (fun hh => hB54.ne hx_old (by decide) (Option.some.inj hh))
   have hB60 := hB60.keep E64 (fun hh => hB60.ne hx_old (by decide) (Option.some.inj hh))
   have hb := hb.stepB E64 hFp
   refine reg_nil (hK40 _ _ (seq_any fun K65 hK65 => one_reg (op_move (ev_hit hN39 rfl) (op_assign (ev_hit hN39 rfl) ?_))))
   refine reg_nil (hK65 _ _ (wp_ret ?_))
   refine ret1 rfl hd39 (ev_hit hN39 rfl) ⟨_, rfl, ?_⟩
   exact ⟨hb, rfl, b58, _, hx, (by rw [hr19]; exact (mkNode (κ := kI) (K := [(u19, y19)]) (P := [q, q19]) (ts := [(putT h k x t).2.1, t2_19]) hB60 (Own.ofBx (base := 0) (sz := 1) (n := 1) hB47 rfl (by decide) (Nat.zero_le _)) (Own.ofBx (base := 0) (sz := 1) (n := 2) hB54 rfl (by decide) (Nat.zero_le _)) (fun x hx => by rw [List.mem_singleton.1 hx]; exact hu19) (fun x hx => by rw [List.mem_singleton.1 hx]; exact hur19) (Kids.ins (i := 0) (Kids.ins (i := 0) (Kids.nil (TreeR kI (fun j => R j ∨ w.heap.size ≤ j) w63 h)) (Nat.zero_le _) hT2_19 (fun _ _ h => h)) (Nat.zero_le _) hT19 (fun k h1 h2 => h2.elim (hd19 k h1) (fun h => h))) (fun h9 => h9.elim dj61 (fun h8 => h8.elim dj62 (fun h => h))) (fun j hj h9 => h9.elim ((Dj.one dj49).symm j hj) (fun h8 => h8.elim ((Dj.one dj50).symm j hj) (fun h => h))) (fun j hj h9 => h9.elim ((Dj.one dj55).symm j hj) (fun h8 => h8.elim ((Dj.one dj56).symm j hj) (fun h => h))))), fun j hj => by
       rcases hj with rfl | hj | hj | hj | hj | hj
       · exact .inr (by omega)
       · exact .inr (by have e9 : b44 = j := Option.some.inj hj; omega)
       · exact .inr (by have e9 : b52 = j := Option.some.inj hj; omega)
       · exact hin36 j hj
       · exact hin38 j hj
       · exact hj.elim⟩
  · -- 31F
   refine op_fn (vs := [(ptr q 0), (Value.agg #[v13, (Value.int .i64 x)])]) ok48 ⟨(ev_base hN18 rfl q18_26), ⟨(ev_base hN18 rfl q18_30), trivial⟩⟩ (putAllI h hT1 hO h6 (hO13.mono (Nat.zero_le _)) (fun j hj => .inr (hO13.lt j hj).1)) ?_
   rintro _ w67 ⟨E68, u66, m66, rfl, ho66⟩
   have bd70 := hx.lt
   have bd72 := hO13.lt
   have dj73 := (hT1.notBx hx (by decide) (by decide) (by decide) (by decide))
   have dj74 := dj16.symm
   obtain ⟨hr66, rfl, rfl, W1_66, hT66, hN1_66⟩ := outR_none k31 ho66
   have z_w67 := E68.size
   have hx := hx.keepG E68 dj73
   have hb := hb.stepF E68 (fun k _ h => hFW k h)
   have hin75 : ∀ j, W1_66 j → F j ∨ w.heap.size ≤ j := fun j hj => (hN1_66 j hj).elim (fun h => .inl (hFW j h)) (fun h => .inr (by omega))
   refine ke_end rfl (by decide) rfl hx ?_
   intro w76 E76 a76 hN76 hd76 hbs76 hph76
   have hd76 := hd76.trans ((by simp only [putsL_defers] : _ = _).trans hd)
   have z_w76 := E76.size
   have hx := hx.keep0 E76
   have hT66 := hT66.keepG (Gr.of0 E76 NoB) (fun _ _ h => h) (NoK.no _)
   have hb := hb.step0 E76
   have s76_31 : Sl a76 31 (Value.tuple #[(Value.bool (putT h k x t).1), (Value.slice none 0 0), (Value.pointer none)]) := (Option.some.inj ((hph76 8 _ 31 rfl rfl).1 2 rfl)).symm
   refine split_end ?_
   refine from_still (m := 16) 7 (hd := [_, _, _, _, _, _, _]) (by kernel_rfl) rfl rfl ?_
   refine st_step rfl (fun _ h9 => op_move (ev_base hN76 rfl s76_31) h9) ?_
   refine st_step rfl (fun _ h9 => op_extract (ev_hit hN76 rfl) rfl h9) ?_
   refine st_step rfl (fun _ h9 => op_extract (ev_hit hN76 rfl) rfl h9) ?_
   refine st_step rfl (fun _ h9 => op_extract (ev_hit hN76 rfl) rfl h9) ?_
   refine st_step rfl (fun _ h9 => op_assign (ev_hit hN76 rfl) h9) ?_
   refine st_step rfl (fun _ h9 => op_assign (ev_hit hN76 rfl) h9) ?_
   refine st_step rfl (fun _ h9 => op_assign (ev_hit hN76 rfl) h9) ?_
   refine st_nil ?_
   refine from_end ?_ rfl
   refine hK11 _ _ (seq_any fun K77 hK77 => seq_any fun K78 hK78 => one_reg (op_move (ev_hit hN76 rfl) (op_pne_none ptrt69 (ev_hit hN76 rfl) rfl ?_)))
   refine reg_nil (hK78 _ _ (wp_cond_false (ev_hit hN76 rfl) ?_))
   refine wp_skip ?_
   refine hK77 _ _ (seq_any fun K79 hK79 => one_reg (op_move (ev_hit hN76 rfl) (op_assign (ev_hit hN76 rfl) ?_)))
   refine reg_nil (hK79 _ _ (wp_ret ?_))
   refine ret1 rfl hd76 (ev_hit hN76 rfl) ⟨_, rfl, ?_⟩
   exact ⟨hb, rfl, q, W1_66, hx, (by rw [hr66]; exact hT66), hin75⟩

end Go.Proofs.Ytcpfdfejojghbaa

/- Walks, written by a program: what each function of the translation hands back. -/
namespace Go.Proofs.Ytcpfdfejojghbaa
open Go.Gx Go.RowKit
attribute [local irreducible] wpList wpStill Code.wp Calls
open Go.Bt
theorem putT0S {k : List UInt8} {xv : Value} {x : List UInt8} {F : Nat → Prop} {p : Nat} {R : Nat → Prop} {w : World} (hx : Bx w p 88 [.pointer none]) (hFp : F p) {L B : Nat} (hk : RdC w L B 1 xv k.length (k.map u8v)) (hB : B ≤ w.heap.size) (hap : ∀ j, F j → j < L ∨ B ≤ j) (hkn : k.length ≤ 1000000000) : Ret Try.prog 13 #[(ptr p 0), xv, (Value.string (bs x))] w (fun v' w' => Gr w w' F ∧ v' = .bool (putT 0 k x (([] : List (Ky × (List UInt8))) : Tr (List UInt8) 0)).1 ∧ ∃ q2 W2, Bx w' p 88 [ptr q2 0] ∧ TreeO kS (fun j => R j ∨ w.heap.size ≤ j) w' (grown 0 (putT 0 k x (([] : List (Ky × (List UInt8))) : Tr (List UInt8) 0)).2.1 (putT 0 k x (([] : List (Ky × (List UInt8))) : Tr (List UInt8) 0)).2.2) q2 W2 ∧ ∀ j, W2 j → F j ∨ w.heap.size ≤ j) := by
 have hi_p := hx.lt
 have hb := Gr.refl w F
 refine enter (N := 51) Try.func13 rfl rfl (by simp) fun a0 hN hd hA => ?_
 have s0 : a0.tmps.getD 0 undef = (ptr p 0) := hA 0 (by simp)
 have s1 : a0.tmps.getD 1 undef = xv := hA 1 (by simp)
 have s2 : a0.tmps.getD 2 undef = (Value.string (bs x)) := hA 2 (by simp)
 clear hA
 refine seq_any fun K3 hK3 => one_reg (op_assign rfl ?_)
 refine reg_nil (hK3 _ _ (seq_any fun K4 hK4 => seq_any fun K5 hK5 => one_reg (op_move (ev_base hN rfl s0) (op_peq_some ptrt23 (ev_hit hN rfl) rfl ?_))))
 refine reg_nil (hK5 _ _ (wp_cond_false (ev_hit hN rfl) ?_))
 refine wp_skip ?_
 refine hK4 _ _ (seq_any fun K6 hK6 => ?_)
 refine seq_any fun K7 hK7 => one_reg (op_move (ev_base hN rfl s0) (op_nil (ev_hit hN rfl) (op_field fld88_0 (ev_hit hN rfl) (op_load1 (v := (Value.pointer none)) one86 (ev_hit hN rfl) (hx.cell rfl) (op_peq_none ptrt86 (ev_hit hN rfl) rfl ?_)))))
 refine reg_nil (hK7 _ _ (wp_cond_true (ev_hit hN rfl) ?_))
 refine one_reg (op_move (ev_base hN rfl s0) (op_build (pv := []) (v := (Value.agg #[(Value.slice none 0 0), (Value.slice none 0 0), (Value.slice none 0 0)])) trivial (by kernel_rfl) ?_))
 refine op_box (cs := [(Value.slice none 0 0), (Value.slice none 0 0), (Value.slice none 0 0)]) (ev_hit hN rfl) rfl ?_
 intro w10 b11 lo_b11 hi_b11 hB13 E12
 have z_w10 := E12.size
 have hx := hx.keep0 E12
 have hk := hk.keep0 E12
 have hb := hb.step0 E12
 refine op_nil (ev_hit hN rfl) (op_field fld88_0 (ev_hit hN rfl) ?_)
 have hx_old := hx
 refine op_store (vs := [(ptr b11 0)]) (cs' := [(ptr b11 0)]) size86 (ev_hit hN rfl) (ev_hit hN rfl) rfl rfl rfl hx (Nat.le_of_ble_eq_true rfl) rfl ?_
 intro w14 hx E15
 have z_w14 := E15.size
 have hk := hk.keep E15 (fun k hk => by have e9 := Option.some.inj hk; subst e9; exact hap _ hFp)
 have hB13 := hB13.keep E15 (fun hh => hB13.ne hx_old (by decide) (Option.some.inj hh))
 have hb := hb.stepB E15 hFp
 refine reg_nil (hK6 _ _ (seq_any fun K16 hK16 => ?_))
 have hT17 : TreeR kS (fun j => R j ∨ w.heap.size ≤ j) w14 0 b11 (([] : List (Ky × (List UInt8))) : Tr (List UInt8) 0) (leafW b11 nilV) := mkLeaf (D := []) hB13 (Own.nil _ 0 _ _) (fun _ h => (by cases h)) (fun _ h => (by cases h)) rfl
 have hlo : ∀ j, leafW b11 nilV j → w.heap.size ≤ j := leafW_fresh (e := 0) (sz := 0) (b := 0) (cs := []) (by omega) (Own.nil w14 _ 0 0)
 refine reg_split (hd := [_, _, _, _, _, _, _, _, _]) (tl := _) 9 mixed (by kernel_rfl) rfl rfl ?_
 refine any_env (φ := phiV [(fun uz => uz = (ptr p 0)), (fun uz => uz = (ptr p 0)), (fun uz => uz = (ptr p 0)), (fun uz => uz = (ptr b11 0)), (fun uz => uz = xv), (fun _ => True), (fun uz => uz = (Value.string (bs x))), (fun _ => True), (fun _ => True)]) (G := fun w' => Bx w' p 88 [(ptr b11 0)]) [5, 7, 8] (by kernel_rfl) (by kernel_rfl) (by kernel_rfl) (by kernel_rfl) hN (fun w1 w2 E h => h.keep0 E) hx (ObEs.cons ?_ (ObEs.cons ?_ (ObEs.cons ?_ (ObEs.cons ?_ (ObEs.cons ?_ (ObEs.pass rfl (ObEs.cons ?_ (ObEs.pass rfl (ObEs.pass rfl (ObEs.nil)))))))))) (by simp only [putsL_defers]) ?_
 ·
  intro eA aA wA hNA hGA hbsA hdpA
  have qA_0 := (hbsA 0 rfl).trans (sl_base hN rfl s0)
  refine op_move (ev_base hNA rfl qA_0) ?_
  exact obE_end rfl rfl rfl
 ·
  intro eA aA wA hNA hGA hbsA hdpA
  have qA_23 : Sl aA 23 (ptr p 0) := (hdpA 0 _ 23 (by kernel_rfl) rfl rfl).2 rfl
  refine op_nil (ev_base hNA rfl qA_23) ?_
  exact obE_end rfl rfl rfl
 ·
  intro eA aA wA hNA hGA hbsA hdpA
  have qA_24 : Sl aA 24 (ptr p 0) := (hdpA 1 _ 24 (by kernel_rfl) rfl rfl).2 rfl
  refine op_field fld88_0 (ev_base hNA rfl qA_24) ?_
  exact obE_end rfl rfl rfl
 ·
  intro eA aA wA hNA hGA hbsA hdpA
  have qA_25 : Sl aA 25 (ptr p 0) := (hdpA 2 _ 25 (by kernel_rfl) rfl rfl).2 rfl
  refine op_load1 (v := (ptr b11 0)) one86 (ev_base hNA rfl qA_25) (hGA.cell rfl) ?_
  exact obE_end rfl rfl rfl
 ·
  intro eA aA wA hNA hGA hbsA hdpA
  have qA_1 := (hbsA 1 rfl).trans (sl_base hN rfl s1)
  refine op_move (ev_base hNA rfl qA_1) ?_
  exact obE_end rfl rfl rfl
 ·
  intro eA aA wA hNA hGA hbsA hdpA
  have qA_2 := (hbsA 2 rfl).trans (sl_base hN rfl s2)
  refine op_move (ev_base hNA rfl qA_2) ?_
  exact obE_end rfl rfl rfl
 ·
  intro w18 E18 _ a18 hN18 hbs18 hdp18 o_ ho_; obtain rfl := Option.some.inj ho_
  have z_w18 := E18.size
  have hk := hk.keep0 E18
  have hx := hx.keep0 E18
  have hT17 := hT17.keepG (Gr.of0 E18 NoB) (fun _ _ h => h) (NoK.no _)
  have hb := hb.step0 E18
  have q18_27 : Sl a18 27 xv := (hdp18 4 _ 27 (by kernel_rfl) rfl rfl).2 rfl
  refine op_fn (vs := [xv]) ok41 ⟨(ev_base hN18 rfl q18_27), trivial⟩ (clB (hk.mono (Nat.zero_le _) (by omega)) (by omega)) ?_
  rintro v19 w20 ⟨E21, hO19⟩
  have dj22 : Dj (leafW b11 nilV) (Bl v19) := Dj.fresh (fun k hk => (hT17.lt k hk).2) (fun k hk => (hO19.lt k hk).1)
  have E21 := grown_of_below E21
  have z_w20 := E21.size
  have hk := hk.keep0 E21
  have hx := hx.keep0 E21
  have hT17 := hT17.keepG (Gr.of0 E21 NoB) (fun _ _ h => h) (NoK.no _)
  have hb := hb.step0 E21
  have hO19 := hO19.mono (base' := w.heap.size) (by omega)
  skip
  refine ke_end rfl (by decide) rfl hx ?_
  intro w32 E32 _ a32 hN32 hbs32 hdp32 o_ ho_; obtain rfl := Option.some.inj ho_
  have z_w32 := E32.size
  have hk := hk.keep0 E32
  have hx := hx.keep0 E32
  have hT17 := hT17.keepG (Gr.of0 E32 NoB) (fun _ _ h => h) (NoK.no _)
  have hO19 := hO19.keep0 E32
  have hb := hb.step0 E32
  have q32_28 : Sl a32 28 v19 := (Option.some.inj ((hdp32 5 _ 28 (by kernel_rfl) rfl rfl).1 0 rfl)).symm
  have q32_29 : Sl a32 29 (Value.string (bs x)) := (hdp32 6 _ 29 (by kernel_rfl) rfl rfl).2 rfl
  refine op_build (pv := [(0, v19), (1, (Value.string (bs x)))]) (v := (Value.agg #[v19, (Value.string (bs x))])) ⟨rfl, (ev_base hN32 rfl q32_28), ⟨rfl, (ev_base hN32 rfl q32_29), trivial⟩⟩ (by obtain ⟨_, _, _, rfl⟩ := hO19.sl; kernel_rfl) ?_
  refine ke_end rfl (by decide) rfl hx ?_
  intro w33 E33 _ a33 hN33 hbs33 hdp33 o_ ho_; obtain rfl := Option.some.inj ho_
  have z_w33 := E33.size
  have hk := hk.keep0 E33
  have hx := hx.keep0 E33
  have hT17 := hT17.keepG (Gr.of0 E33 NoB) (fun _ _ h => h) (NoK.no _)
  have hO19 := hO19.keep0 E33
  have hb := hb.step0 E33
  have q33_26 : Sl a33 26 (ptr b11 0) := (hdp33 3 _ 26 (by kernel_rfl) rfl rfl).2 rfl
  have q33_30 : Sl a33 30 (Value.agg #[v19, (Value.string (bs x))]) := (Option.some.inj ((hdp33 7 _ 30 (by kernel_rfl) rfl rfl).1 1 rfl)).symm
  rcases Bool.eq_false_or_eq_true (((putT 0 k x (([] : List (Ky × (List UInt8))) : Tr (List UInt8) 0)).2.2.isSome)) with k31 | k31
  · -- 31T
   cases (show false = true from k31)
  · -- 31F
   refine op_fn (vs := [(ptr b11 0), (Value.agg #[v19, (Value.string (bs x))])]) ok40 ⟨(ev_base hN33 rfl q33_26), ⟨(ev_base hN33 rfl q33_30), trivial⟩⟩ (putAllS 0 hT17 (show Sorted ([] : List Ky) from List.Pairwise.nil) (Nat.zero_le 6) (hO19.mono (Nat.zero_le _)) (fun j hj => .inr (hO19.lt j hj).1)) ?_
   rintro _ w35 ⟨E36, u34, m34, rfl, ho34⟩
   have bd37 := hx.lt
   have bd38 := hO19.lt
   have dj39 := (hT17.notBx hx (by decide) (by decide) (by decide) (by decide))
   have dj42 := dj22.symm
   obtain ⟨hr34, rfl, rfl, W1_34, hT34, hN1_34⟩ := outR_none k31 ho34
   have z_w35 := E36.size
   have hx := hx.keepG E36 dj39
   have hb := hb.stepF E36 (fun k hk h => absurd (hlo k h) (by omega))
   have hin43 : ∀ j, W1_34 j → F j ∨ w.heap.size ≤ j := fun j hj => (hN1_34 j hj).elim (fun h => .inr (hlo j h)) (fun h => .inr (by omega))
   refine ke_end rfl (by decide) rfl hx ?_
   intro w44 E44 a44 hN44 hd44 hbs44 hph44
   have hd44 := hd44.trans ((by simp only [putsL_defers] : _ = _).trans hd)
   have z_w44 := E44.size
   have hx := hx.keep0 E44
   have hT34 := hT34.keepG (Gr.of0 E44 NoB) (fun _ _ h => h) (NoK.no _)
   have hb := hb.step0 E44
   have s44_31 : Sl a44 31 (Value.tuple #[(Value.bool (putT 0 k x (([] : List (Ky × (List UInt8))) : Tr (List UInt8) 0)).1), (Value.slice none 0 0), (Value.pointer none)]) := (Option.some.inj ((hph44 8 _ 31 rfl rfl).1 2 rfl)).symm
   refine split_end ?_
   refine from_still (m := 16) 7 (hd := [_, _, _, _, _, _, _]) (by kernel_rfl) rfl rfl ?_
   refine st_step rfl (fun _ h9 => op_move (ev_base hN44 rfl s44_31) h9) ?_
   refine st_step rfl (fun _ h9 => op_extract (ev_hit hN44 rfl) rfl h9) ?_
   refine st_step rfl (fun _ h9 => op_extract (ev_hit hN44 rfl) rfl h9) ?_
   refine st_step rfl (fun _ h9 => op_extract (ev_hit hN44 rfl) rfl h9) ?_
   refine st_step rfl (fun _ h9 => op_assign (ev_hit hN44 rfl) h9) ?_
   refine st_step rfl (fun _ h9 => op_assign (ev_hit hN44 rfl) h9) ?_
   refine st_step rfl (fun _ h9 => op_assign (ev_hit hN44 rfl) h9) ?_
   refine st_nil ?_
   refine from_end ?_ rfl
   refine hK16 _ _ (seq_any fun K45 hK45 => seq_any fun K46 hK46 => one_reg (op_move (ev_hit hN44 rfl) (op_pne_none ptrt86 (ev_hit hN44 rfl) rfl ?_)))
   refine reg_nil (hK46 _ _ (wp_cond_false (ev_hit hN44 rfl) ?_))
   refine wp_skip ?_
   refine hK45 _ _ (seq_any fun K47 hK47 => one_reg (op_move (ev_hit hN44 rfl) (op_assign (ev_hit hN44 rfl) ?_)))
   refine reg_nil (hK47 _ _ (wp_ret ?_))
   refine ret1 rfl hd44 (ev_hit hN44 rfl) ⟨_, rfl, ?_⟩
   exact ⟨hb, rfl, b11, W1_34, hx, (by rw [hr34]; exact hT34), hin43⟩

theorem putT1S {k : List UInt8} {xv : Value} {x : List UInt8} {F : Nat → Prop} {p : Nat} {h q : Nat} {t : Tr (List UInt8) h} {W : Nat → Prop} {R : Nat → Prop} {w : World} (hx : Bx w p 88 [ptr q 0]) (hFp : F p) (hT : TreeR kS R w h q t W) (hFW : ∀ j, W j → F j) (hO : Ok h t) (h6 : szT h t ≤ 6) {L B : Nat} (hk : RdC w L B 1 xv k.length (k.map u8v)) (hB : B ≤ w.heap.size) (hap : ∀ j, F j → j < L ∨ B ≤ j) (hkn : k.length ≤ 1000000000) : Ret Try.prog 13 #[(ptr p 0), xv, (Value.string (bs x))] w (fun v' w' => Gr w w' F ∧ v' = .bool (putT h k x t).1 ∧ ∃ q2 W2, Bx w' p 88 [ptr q2 0] ∧ TreeO kS (fun j => R j ∨ w.heap.size ≤ j) w' (grown h (putT h k x t).2.1 (putT h k x t).2.2) q2 W2 ∧ ∀ j, W2 j → F j ∨ w.heap.size ≤ j) := by
 have hi_p := hx.lt
 have hT1 : TreeR kS (fun j => R j ∨ w.heap.size ≤ j) w h q t W := hT.monoR (fun j h => .inl h)
 have hb := Gr.refl w F
 refine enter (N := 51) Try.func13 rfl rfl (by simp) fun a0 hN hd hA => ?_
 have s0 : a0.tmps.getD 0 undef = (ptr p 0) := hA 0 (by simp)
 have s1 : a0.tmps.getD 1 undef = xv := hA 1 (by simp)
 have s2 : a0.tmps.getD 2 undef = (Value.string (bs x)) := hA 2 (by simp)
 clear hA
 refine seq_any fun K3 hK3 => one_reg (op_assign rfl ?_)
 refine reg_nil (hK3 _ _ (seq_any fun K4 hK4 => seq_any fun K5 hK5 => one_reg (op_move (ev_base hN rfl s0) (op_peq_some ptrt23 (ev_hit hN rfl) rfl ?_))))
 refine reg_nil (hK5 _ _ (wp_cond_false (ev_hit hN rfl) ?_))
 refine wp_skip ?_
 refine hK4 _ _ (seq_any fun K7 hK7 => ?_)
 refine seq_any fun K10 hK10 => one_reg (op_move (ev_base hN rfl s0) (op_nil (ev_hit hN rfl) (op_field fld88_0 (ev_hit hN rfl) (op_load1 (v := (ptr q 0)) one86 (ev_hit hN rfl) (hx.cell rfl) (op_peq_some ptrt86 (ev_hit hN rfl) rfl ?_)))))
 refine reg_nil (hK10 _ _ (wp_cond_false (ev_hit hN rfl) ?_))
 refine wp_skip ?_
 refine hK7 _ _ (seq_any fun K11 hK11 => reg_split (hd := [_, _, _, _, _, _, _, _, _]) (tl := _) 9 mixed (by kernel_rfl) rfl rfl ?_)
 refine any_env (φ := phiV [(fun uz => uz = (ptr p 0)), (fun uz => uz = (ptr p 0)), (fun uz => uz = (ptr p 0)), (fun uz => uz = (ptr q 0)), (fun uz => uz = xv), (fun _ => True), (fun uz => uz = (Value.string (bs x))), (fun _ => True), (fun _ => True)]) (G := fun w' => Bx w' p 88 [(ptr q 0)]) [5, 7, 8] (by kernel_rfl) (by kernel_rfl) (by kernel_rfl) (by kernel_rfl) hN (fun w1 w2 E h => h.keep0 E) hx (ObEs.cons ?_ (ObEs.cons ?_ (ObEs.cons ?_ (ObEs.cons ?_ (ObEs.cons ?_ (ObEs.pass rfl (ObEs.cons ?_ (ObEs.pass rfl (ObEs.pass rfl (ObEs.nil)))))))))) (by simp only [putsL_defers]) ?_
 ·
  intro eA aA wA hNA hGA hbsA hdpA
  have qA_0 := (hbsA 0 rfl).trans (sl_base hN rfl s0)
  refine op_move (ev_base hNA rfl qA_0) ?_
  exact obE_end rfl rfl rfl
 ·
  intro eA aA wA hNA hGA hbsA hdpA
  have qA_23 : Sl aA 23 (ptr p 0) := (hdpA 0 _ 23 (by kernel_rfl) rfl rfl).2 rfl
  refine op_nil (ev_base hNA rfl qA_23) ?_
  exact obE_end rfl rfl rfl
 ·
  intro eA aA wA hNA hGA hbsA hdpA
  have qA_24 : Sl aA 24 (ptr p 0) := (hdpA 1 _ 24 (by kernel_rfl) rfl rfl).2 rfl
  refine op_field fld88_0 (ev_base hNA rfl qA_24) ?_
  exact obE_end rfl rfl rfl
 ·
  intro eA aA wA hNA hGA hbsA hdpA
  have qA_25 : Sl aA 25 (ptr p 0) := (hdpA 2 _ 25 (by kernel_rfl) rfl rfl).2 rfl
  refine op_load1 (v := (ptr q 0)) one86 (ev_base hNA rfl qA_25) (hGA.cell rfl) ?_
  exact obE_end rfl rfl rfl
 ·
  intro eA aA wA hNA hGA hbsA hdpA
  have qA_1 := (hbsA 1 rfl).trans (sl_base hN rfl s1)
  refine op_move (ev_base hNA rfl qA_1) ?_
  exact obE_end rfl rfl rfl
 ·
  intro eA aA wA hNA hGA hbsA hdpA
  have qA_2 := (hbsA 2 rfl).trans (sl_base hN rfl s2)
  refine op_move (ev_base hNA rfl qA_2) ?_
  exact obE_end rfl rfl rfl
 ·
  intro w12 E12 _ a12 hN12 hbs12 hdp12 o_ ho_; obtain rfl := Option.some.inj ho_
  have z_w12 := E12.size
  have hx := hx.keep0 E12
  have hk := hk.keep0 E12
  have hT1 := hT1.keepG (Gr.of0 E12 NoB) (fun _ _ h => h) (NoK.no _)
  have hb := hb.step0 E12
  have q12_27 : Sl a12 27 xv := (hdp12 4 _ 27 (by kernel_rfl) rfl rfl).2 rfl
  refine op_fn (vs := [xv]) ok41 ⟨(ev_base hN12 rfl q12_27), trivial⟩ (clB (hk.mono (Nat.zero_le _) (by omega)) (by omega)) ?_
  rintro v13 w14 ⟨E15, hO13⟩
  have dj16 : Dj W (Bl v13) := Dj.fresh (fun k hk => (hT1.lt k hk).2) (fun k hk => (hO13.lt k hk).1)
  have E15 := grown_of_below E15
  have z_w14 := E15.size
  have hx := hx.keep0 E15
  have hT1 := hT1.keepG (Gr.of0 E15 NoB) (fun _ _ h => h) (NoK.no _)
  have hb := hb.step0 E15
  have hO13 := hO13.mono (base' := w.heap.size) (by omega)
  skip
  refine ke_end rfl (by decide) rfl hx ?_
  intro w17 E17 _ a17 hN17 hbs17 hdp17 o_ ho_; obtain rfl := Option.some.inj ho_
  have z_w17 := E17.size
  have hx := hx.keep0 E17
  have hT1 := hT1.keepG (Gr.of0 E17 NoB) (fun _ _ h => h) (NoK.no _)
  have hO13 := hO13.keep0 E17
  have hb := hb.step0 E17
  have q17_28 : Sl a17 28 v13 := (Option.some.inj ((hdp17 5 _ 28 (by kernel_rfl) rfl rfl).1 0 rfl)).symm
  have q17_29 : Sl a17 29 (Value.string (bs x)) := (hdp17 6 _ 29 (by kernel_rfl) rfl rfl).2 rfl
  refine op_build (pv := [(0, v13), (1, (Value.string (bs x)))]) (v := (Value.agg #[v13, (Value.string (bs x))])) ⟨rfl, (ev_base hN17 rfl q17_28), ⟨rfl, (ev_base hN17 rfl q17_29), trivial⟩⟩ (by obtain ⟨_, _, _, rfl⟩ := hO13.sl; kernel_rfl) ?_
  refine ke_end rfl (by decide) rfl hx ?_
  intro w18 E18 _ a18 hN18 hbs18 hdp18 o_ ho_; obtain rfl := Option.some.inj ho_
  have z_w18 := E18.size
  have hx := hx.keep0 E18
  have hT1 := hT1.keepG (Gr.of0 E18 NoB) (fun _ _ h => h) (NoK.no _)
  have hO13 := hO13.keep0 E18
  have hb := hb.step0 E18
  have q18_26 : Sl a18 26 (ptr q 0) := (hdp18 3 _ 26 (by kernel_rfl) rfl rfl).2 rfl
  have q18_30 : Sl a18 30 (Value.agg #[v13, (Value.string (bs x))]) := (Option.some.inj ((hdp18 7 _ 30 (by kernel_rfl) rfl rfl).1 1 rfl)).symm
  rcases Bool.eq_false_or_eq_true (((putT h k x t).2.2.isSome)) with k31 | k31
  · -- 31T
   refine op_fn (vs := [(ptr q 0), (Value.agg #[v13, (Value.string (bs x))])]) ok40 ⟨(ev_base hN18 rfl q18_26), ⟨(ev_base hN18 rfl q18_30), trivial⟩⟩ (putAllS h hT1 hO h6 (hO13.mono (Nat.zero_le _)) (fun j hj => .inr (hO13.lt j hj).1)) ?_
   rintro _ w20 ⟨E21, u19, m19, rfl, ho19⟩
   have bd22 := hx.lt
   have bd32 := hO13.lt
   have dj33 := (hT1.notBx hx (by decide) (by decide) (by decide) (by decide))
   have dj34 := dj16.symm
   obtain ⟨y19, t2_19, q19, W1_19, W2_19, hr19, rfl, hu19, hur19, hT19, hT2_19, hN1_19, hN2_19, hd19⟩ := outR_some k31 ho19
   have z_w20 := E21.size
   have hx := hx.keepG E21 dj33
   have hb := hb.stepF E21 (fun k _ h => hFW k h)
   have dj35 : ¬ W1_19 p := ne_stepF hN1_19 bd22 dj33
   have hin36 : ∀ j, W1_19 j → F j ∨ w.heap.size ≤ j := fun j hj => (hN1_19 j hj).elim (fun h => .inl (hFW j h)) (fun h => .inr (by omega))
   have dj37 : ¬ W2_19 p := ne_stepF hN2_19 bd22 dj33
   have hin38 : ∀ j, W2_19 j → F j ∨ w.heap.size ≤ j := fun j hj => (hN2_19 j hj).elim (fun h => .inl (hFW j h)) (fun h => .inr (by omega))
   refine ke_end rfl (by decide) rfl hx ?_
   intro w39 E39 a39 hN39 hd39 hbs39 hph39
   have hd39 := hd39.trans ((by simp only [putsL_defers] : _ = _).trans hd)
   have z_w39 := E39.size
   have hx := hx.keep0 E39
   have hT19 := hT19.keepG (Gr.of0 E39 NoB) (fun _ _ h => h) (NoK.no _)
   have hT2_19 := hT2_19.keepG (Gr.of0 E39 NoB) (fun _ _ h => h) (NoK.no _)
   have hu19 := hu19.keep0 E39
   have hb := hb.step0 E39
   have s39_0 := (hbs39 0 rfl).trans (sl_base hN rfl s0)
   have s39_31 : Sl a39 31 (Value.tuple #[(Value.bool (putT h k x t).1), u19, (ptr q19 0)]) := (Option.some.inj ((hph39 8 _ 31 rfl rfl).1 2 rfl)).symm
   refine split_end ?_
   refine from_still (m := 16) 7 (hd := [_, _, _, _, _, _, _]) (by kernel_rfl) rfl rfl ?_
   refine st_step rfl (fun _ h9 => op_move (ev_base hN39 rfl s39_31) h9) ?_
   refine st_step rfl (fun _ h9 => op_extract (ev_hit hN39 rfl) rfl h9) ?_
   refine st_step rfl (fun _ h9 => op_extract (ev_hit hN39 rfl) rfl h9) ?_
   refine st_step rfl (fun _ h9 => op_extract (ev_hit hN39 rfl) rfl h9) ?_
   refine st_step rfl (fun _ h9 => op_assign (ev_hit hN39 rfl) h9) ?_
   refine st_step rfl (fun _ h9 => op_assign (ev_hit hN39 rfl) h9) ?_
   refine st_step rfl (fun _ h9 => op_assign (ev_hit hN39 rfl) h9) ?_
   refine st_nil ?_
   refine from_end ?_ rfl
   refine hK11 _ _ (seq_any fun K42 hK42 => seq_any fun K43 hK43 => one_reg (op_move (ev_hit hN39 rfl) (op_pne_some ptrt86 (ev_hit hN39 rfl) rfl ?_)))
   refine reg_nil (hK43 _ _ (wp_cond_true (ev_hit hN39 rfl) ?_))
   refine one_reg (op_move (ev_base hN39 rfl s39_0) (op_move (ev_hit hN39 rfl) (op_bslice (e := 27) (pv := [(0, u19)]) (cs := [u19]) ⟨rfl, (ev_hit hN39 rfl), trivial⟩ (by obtain ⟨_, _, _, rfl⟩ := hu19.sl; kernel_rfl) ?_)))
   intro w44 b45 lo_b45 hi_b45 hB47 E46
   have dj48 : ¬ W1_19 b45 := fun hf => by have := (hT19.lt _ hf).2; omega
   have dj49 : ¬ W2_19 b45 := fun hf => by have := (hT2_19.lt _ hf).2; omega
   have z_w44 := E46.size
   have hx := hx.keep0 E46
   have hT19 := hT19.keepG (Gr.of0 E46 NoB) (fun _ _ h => h) (NoK.no _)
   have hT2_19 := hT2_19.keepG (Gr.of0 E46 NoB) (fun _ _ h => h) (NoK.no _)
   have hu19 := hu19.keep0 E46
   have hb := hb.step0 E46
   refine op_move (ev_base hN39 rfl s39_0) (op_nil (ev_hit hN39 rfl) (op_field fld88_0 (ev_hit hN39 rfl) (op_load1 (v := (ptr q 0)) one86 (ev_hit hN39 rfl) (hx.cell rfl) (op_move (ev_hit hN39 rfl) (op_bslice (e := 86) (pv := [(0, (ptr q 0)), (1, (ptr q19 0))]) (cs := [(ptr q 0), (ptr q19 0)]) ⟨rfl, (ev_hit hN39 rfl), ⟨rfl, (ev_hit hN39 rfl), trivial⟩⟩ (by kernel_rfl) ?_)))))
   intro w50 b51 lo_b51 hi_b51 hB53 E52
   have dj54 : ¬ W1_19 b51 := fun hf => by have := (hT19.lt _ hf).2; omega
   have dj55 : ¬ W2_19 b51 := fun hf => by have := (hT2_19.lt _ hf).2; omega
   have z_w50 := E52.size
   have hx := hx.keep0 E52
   have hT19 := hT19.keepG (Gr.of0 E52 NoB) (fun _ _ h => h) (NoK.no _)
   have hT2_19 := hT2_19.keepG (Gr.of0 E52 NoB) (fun _ _ h => h) (NoK.no _)
   have hu19 := hu19.keep0 E52
   have hB47 := hB47.keep0 E52
   have hb := hb.step0 E52
   refine op_build (pv := [(1, (Value.slice (some ⟨b45, 0, none⟩) 1 1)), (2, (Value.slice (some ⟨b51, 0, none⟩) 2 2))]) (v := (Value.agg #[(Value.slice none 0 0), (Value.slice (some ⟨b45, 0, none⟩) 1 1), (Value.slice (some ⟨b51, 0, none⟩) 2 2)])) ⟨rfl, (ev_hit hN39 rfl), ⟨rfl, (ev_hit hN39 rfl), trivial⟩⟩ (by kernel_rfl) ?_
   refine op_box (cs := [(Value.slice none 0 0), (Value.slice (some ⟨b45, 0, none⟩) 1 1), (Value.slice (some ⟨b51, 0, none⟩) 2 2)]) (ev_hit hN39 rfl) rfl ?_
   intro w56 b57 lo_b57 hi_b57 hB59 E58
   have dj60 : ¬ W1_19 b57 := fun hf => by have := (hT19.lt _ hf).2; omega
   have dj61 : ¬ W2_19 b57 := fun hf => by have := (hT2_19.lt _ hf).2; omega
   have z_w56 := E58.size
   have hx := hx.keep0 E58
   have hT19 := hT19.keepG (Gr.of0 E58 NoB) (fun _ _ h => h) (NoK.no _)
   have hT2_19 := hT2_19.keepG (Gr.of0 E58 NoB) (fun _ _ h => h) (NoK.no _)
   have hu19 := hu19.keep0 E58
   have hB47 := hB47.keep0 E58
   have hB53 := hB53.keep0 E58
   have hb := hb.step0 E58
   refine op_nil (ev_hit hN39 rfl) (op_field fld88_0 (ev_hit hN39 rfl) ?_)
   have hx_old := hx
   refine op_store (vs := [(ptr b57 0)]) (cs' := [(ptr b57 0)]) size86 (ev_hit hN39 rfl) (ev_hit hN39 rfl) rfl rfl rfl hx (Nat.le_of_ble_eq_true rfl) rfl ?_
   intro w62 hx E63
   have z_w62 := E63.size
   have hT19 := hT19.keepG (Gr.of E63) (Dj.one dj35) (NoK.ofBx hx_old (by decide))
   have hT2_19 := hT2_19.keepG (Gr.of E63) (Dj.one dj37) (NoK.ofBx hx_old (by decide))
   have hu19 := hu19.keepX hx_old E63 (by decide)
   have hB47 := hB47.keep E63 (fun hh => hB47.ne hx_old (by decide) (Option.some.inj hh))
   have hB53 := hB53.keep E63 (fun hh => hB53.ne hx_old (by decide) (Option.some.inj hh))
   have hB59 := hB59.keep E63 (fun hh => hB59.ne hx_old (by decide) (Option.some.inj hh))
   have hb := hb.stepB E63 hFp
   refine reg_nil (hK42 _ _ (seq_any fun K64 hK64 => one_reg (op_move (ev_hit hN39 rfl) (op_assign (ev_hit hN39 rfl) ?_))))
   refine reg_nil (hK64 _ _ (wp_ret ?_))
   refine ret1 rfl hd39 (ev_hit hN39 rfl) ⟨_, rfl, ?_⟩
   exact ⟨hb, rfl, b57, _, hx, (by rw [hr19]; exact (mkNode (κ := kS) (K := [(u19, y19)]) (P := [q, q19]) (ts := [(putT h k x t).2.1, t2_19]) hB59 (Own.ofBx (base := 0) (sz := 1) (n := 1) hB47 rfl (by decide) (Nat.zero_le _)) (Own.ofBx (base := 0) (sz := 1) (n := 2) hB53 rfl (by decide) (Nat.zero_le _)) (fun x hx => by rw [List.mem_singleton.1 hx]; exact hu19) (fun x hx => by rw [List.mem_singleton.1 hx]; exact hur19) (Kids.ins (i := 0) (Kids.ins (i := 0) (Kids.nil (TreeR kS (fun j => R j ∨ w.heap.size ≤ j) w62 h)) (Nat.zero_le _) hT2_19 (fun _ _ h => h)) (Nat.zero_le _) hT19 (fun k h1 h2 => h2.elim (hd19 k h1) (fun h => h))) (fun h9 => h9.elim dj60 (fun h8 => h8.elim dj61 (fun h => h))) (fun j hj h9 => h9.elim ((Dj.one dj48).symm j hj) (fun h8 => h8.elim ((Dj.one dj49).symm j hj) (fun h => h))) (fun j hj h9 => h9.elim ((Dj.one dj54).symm j hj) (fun h8 => h8.elim ((Dj.one dj55).symm j hj) (fun h => h))))), fun j hj => by
       rcases hj with rfl | hj | hj | hj | hj | hj
       · exact .inr (by omega)
       · exact .inr (by have e9 : b45 = j := Option.some.inj hj; omega)
       · exact .inr (by have e9 : b51 = j := Option.some.inj hj; omega)
       · exact hin36 j hj
       · exact hin38 j hj
       · exact hj.elim⟩
  · -- 31F
   refine op_fn (vs := [(ptr q 0), (Value.agg #[v13, (Value.string (bs x))])]) ok40 ⟨(ev_base hN18 rfl q18_26), ⟨(ev_base hN18 rfl q18_30), trivial⟩⟩ (putAllS h hT1 hO h6 (hO13.mono (Nat.zero_le _)) (fun j hj => .inr (hO13.lt j hj).1)) ?_
   rintro _ w66 ⟨E67, u65, m65, rfl, ho65⟩
   have bd68 := hx.lt
   have bd69 := hO13.lt
   have dj70 := (hT1.notBx hx (by decide) (by decide) (by decide) (by decide))
   have dj71 := dj16.symm
   obtain ⟨hr65, rfl, rfl, W1_65, hT65, hN1_65⟩ := outR_none k31 ho65
   have z_w66 := E67.size
   have hx := hx.keepG E67 dj70
   have hb := hb.stepF E67 (fun k _ h => hFW k h)
   have hin72 : ∀ j, W1_65 j → F j ∨ w.heap.size ≤ j := fun j hj => (hN1_65 j hj).elim (fun h => .inl (hFW j h)) (fun h => .inr (by omega))
   refine ke_end rfl (by decide) rfl hx ?_
   intro w73 E73 a73 hN73 hd73 hbs73 hph73
   have hd73 := hd73.trans ((by simp only [putsL_defers] : _ = _).trans hd)
   have z_w73 := E73.size
   have hx := hx.keep0 E73
   have hT65 := hT65.keepG (Gr.of0 E73 NoB) (fun _ _ h => h) (NoK.no _)
   have hb := hb.step0 E73
   have s73_31 : Sl a73 31 (Value.tuple #[(Value.bool (putT h k x t).1), (Value.slice none 0 0), (Value.pointer none)]) := (Option.some.inj ((hph73 8 _ 31 rfl rfl).1 2 rfl)).symm
   refine split_end ?_
   refine from_still (m := 16) 7 (hd := [_, _, _, _, _, _, _]) (by kernel_rfl) rfl rfl ?_
   refine st_step rfl (fun _ h9 => op_move (ev_base hN73 rfl s73_31) h9) ?_
   refine st_step rfl (fun _ h9 => op_extract (ev_hit hN73 rfl) rfl h9) ?_
   refine st_step rfl (fun _ h9 => op_extract (ev_hit hN73 rfl) rfl h9) ?_
   refine st_step rfl (fun _ h9 => op_extract (ev_hit hN73 rfl) rfl h9) ?_
   refine st_step rfl (fun _ h9 => op_assign (ev_hit hN73 rfl) h9) ?_
   refine st_step rfl (fun _ h9 => op_assign (ev_hit hN73 rfl) h9) ?_
   refine st_step rfl (fun _ h9 => op_assign (ev_hit hN73 rfl) h9) ?_
   refine st_nil ?_
   refine from_end ?_ rfl
   refine hK11 _ _ (seq_any fun K74 hK74 => seq_any fun K75 hK75 => one_reg (op_move (ev_hit hN73 rfl) (op_pne_none ptrt86 (ev_hit hN73 rfl) rfl ?_)))
   refine reg_nil (hK75 _ _ (wp_cond_false (ev_hit hN73 rfl) ?_))
   refine wp_skip ?_
   refine hK74 _ _ (seq_any fun K76 hK76 => one_reg (op_move (ev_hit hN73 rfl) (op_assign (ev_hit hN73 rfl) ?_)))
   refine reg_nil (hK76 _ _ (wp_ret ?_))
   refine ret1 rfl hd73 (ev_hit hN73 rfl) ⟨_, rfl, ?_⟩
   exact ⟨hb, rfl, q, W1_65, hx, (by rw [hr65]; exact hT65), hin72⟩

theorem putT0A {k : List UInt8} {xv : Value} {x : Int × Int} {F : Nat → Prop} {p : Nat} {R : Nat → Prop} {w : World} (hx : Bx w p 101 [.pointer none]) (hFp : F p) {L B : Nat} (hk : RdC w L B 1 xv k.length (k.map u8v)) (hB : B ≤ w.heap.size) (hap : ∀ j, F j → j < L ∨ B ≤ j) (hkn : k.length ≤ 1000000000) : Ret Try.prog 17 #[(ptr p 0), xv, (Value.agg #[(Value.int .i64 x.1), (Value.int .i64 x.2)])] w (fun v' w' => Gr w w' F ∧ v' = .bool (putT 0 k x (([] : List (Ky × (Int × Int))) : Tr (Int × Int) 0)).1 ∧ ∃ q2 W2, Bx w' p 101 [ptr q2 0] ∧ TreeO kA (fun j => R j ∨ w.heap.size ≤ j) w' (grown 0 (putT 0 k x (([] : List (Ky × (Int × Int))) : Tr (Int × Int) 0)).2.1 (putT 0 k x (([] : List (Ky × (Int × Int))) : Tr (Int × Int) 0)).2.2) q2 W2 ∧ ∀ j, W2 j → F j ∨ w.heap.size ≤ j) := by
 have hi_p := hx.lt
 have hb := Gr.refl w F
 refine enter (N := 51) Try.func17 rfl rfl (by simp) fun a0 hN hd hA => ?_
 have s0 : a0.tmps.getD 0 undef = (ptr p 0) := hA 0 (by simp)
 have s1 : a0.tmps.getD 1 undef = xv := hA 1 (by simp)
 have s2 : a0.tmps.getD 2 undef = (Value.agg #[(Value.int .i64 x.1), (Value.int .i64 x.2)]) := hA 2 (by simp)
 clear hA
 refine seq_any fun K3 hK3 => one_reg (op_box (cs := [(Value.int .i64 x.1), (Value.int .i64 x.2)]) (ev_base hN rfl s2) rfl ?_)
 intro w4 b6 lo_b6 hi_b6 hB10 E7
 have z_w4 := E7.size
 have hx := hx.keep0 E7
 have hk := hk.keep0 E7
 have hb := hb.step0 E7
 refine op_assign rfl ?_
 refine reg_nil (hK3 _ _ (seq_any fun K11 hK11 => seq_any fun K12 hK12 => one_reg (op_move (ev_base hN rfl s0) (op_peq_some ptrt34 (ev_hit hN rfl) rfl ?_))))
 refine reg_nil (hK12 _ _ (wp_cond_false (ev_hit hN rfl) ?_))
 refine wp_skip ?_
 refine hK11 _ _ (seq_any fun K13 hK13 => ?_)
 refine seq_any fun K14 hK14 => one_reg (op_move (ev_base hN rfl s0) (op_nil (ev_hit hN rfl) (op_field fld101_0 (ev_hit hN rfl) (op_load1 (v := (Value.pointer none)) one99 (ev_hit hN rfl) (hx.cell rfl) (op_peq_none ptrt99 (ev_hit hN rfl) rfl ?_)))))
 refine reg_nil (hK14 _ _ (wp_cond_true (ev_hit hN rfl) ?_))
 refine one_reg (op_move (ev_base hN rfl s0) (op_build (pv := []) (v := (Value.agg #[(Value.slice none 0 0), (Value.slice none 0 0), (Value.slice none 0 0)])) trivial (by kernel_rfl) ?_))
 refine op_box (cs := [(Value.slice none 0 0), (Value.slice none 0 0), (Value.slice none 0 0)]) (ev_hit hN rfl) rfl ?_
 intro w15 b16 lo_b16 hi_b16 hB18 E17
 have z_w15 := E17.size
 have hx := hx.keep0 E17
 have hk := hk.keep0 E17
 have hB10 := hB10.keep0 E17
 have hb := hb.step0 E17
 refine op_nil (ev_hit hN rfl) (op_field fld101_0 (ev_hit hN rfl) ?_)
 have hx_old := hx
 refine op_store (vs := [(ptr b16 0)]) (cs' := [(ptr b16 0)]) size99 (ev_hit hN rfl) (ev_hit hN rfl) rfl rfl rfl hx (Nat.le_of_ble_eq_true rfl) rfl ?_
 intro w19 hx E20
 have z_w19 := E20.size
 have hk := hk.keep E20 (fun k hk => by have e9 := Option.some.inj hk; subst e9; exact hap _ hFp)
 have hB10 := hB10.keep E20 (fun hh => hB10.ne hx_old (by decide) (Option.some.inj hh))
 have hB18 := hB18.keep E20 (fun hh => hB18.ne hx_old (by decide) (Option.some.inj hh))
 have hb := hb.stepB E20 hFp
 refine reg_nil (hK13 _ _ (seq_any fun K21 hK21 => ?_))
 have hT22 : TreeR kA (fun j => R j ∨ w.heap.size ≤ j) w19 0 b16 (([] : List (Ky × (Int × Int))) : Tr (Int × Int) 0) (leafW b16 nilV) := mkLeaf (D := []) hB18 (Own.nil _ 0 _ _) (fun _ h => (by cases h)) (fun _ h => (by cases h)) rfl
 have hlo : ∀ j, leafW b16 nilV j → w.heap.size ≤ j := leafW_fresh (e := 0) (sz := 0) (b := 0) (cs := []) (by omega) (Own.nil w19 _ 0 0)
 refine reg_split (hd := [_, _, _, _, _, _, _, _, _]) (tl := _) 9 mixed (by kernel_rfl) rfl rfl ?_
 refine any_env (φ := phiV [(fun uz => uz = (ptr p 0)), (fun uz => uz = (ptr p 0)), (fun uz => uz = (ptr p 0)), (fun uz => uz = (ptr b16 0)), (fun uz => uz = xv), (fun _ => True), (fun uz => uz = (Value.agg #[(Value.int .i64 x.1), (Value.int .i64 x.2)])), (fun _ => True), (fun _ => True)]) (G := fun w' => Bx w' p 101 [(ptr b16 0)] ∧ Bx w' b6 36 [(Value.int .i64 x.1), (Value.int .i64 x.2)]) [5, 7, 8] (by kernel_rfl) (by kernel_rfl) (by kernel_rfl) (by kernel_rfl) hN (fun w1 w2 E h => by obtain ⟨h0, h1⟩ := h; exact ⟨h0.keep0 E, h1.keep0 E⟩) ⟨hx, hB10⟩ (ObEs.cons ?_ (ObEs.cons ?_ (ObEs.cons ?_ (ObEs.cons ?_ (ObEs.cons ?_ (ObEs.pass rfl (ObEs.cons ?_ (ObEs.pass rfl (ObEs.pass rfl (ObEs.nil)))))))))) (by simp only [putsL_defers]) ?_
 ·
  intro eA aA wA hNA hGA hbsA hdpA
  have qA_0 := (hbsA 0 rfl).trans (sl_base hN rfl s0)
  refine op_move (ev_base hNA rfl qA_0) ?_
  exact obE_end rfl rfl rfl
 ·
  intro eA aA wA hNA hGA hbsA hdpA
  have qA_23 : Sl aA 23 (ptr p 0) := (hdpA 0 _ 23 (by kernel_rfl) rfl rfl).2 rfl
  refine op_nil (ev_base hNA rfl qA_23) ?_
  exact obE_end rfl rfl rfl
 ·
  intro eA aA wA hNA hGA hbsA hdpA
  have qA_24 : Sl aA 24 (ptr p 0) := (hdpA 1 _ 24 (by kernel_rfl) rfl rfl).2 rfl
  refine op_field fld101_0 (ev_base hNA rfl qA_24) ?_
  exact obE_end rfl rfl rfl
 ·
  intro eA aA wA hNA hGA hbsA hdpA
  have qA_25 : Sl aA 25 (ptr p 0) := (hdpA 2 _ 25 (by kernel_rfl) rfl rfl).2 rfl
  obtain ⟨hx, hB10⟩ := hGA
  refine op_load1 (v := (ptr b16 0)) one99 (ev_base hNA rfl qA_25) (hx.cell rfl) ?_
  exact obE_end rfl rfl rfl
 ·
  intro eA aA wA hNA hGA hbsA hdpA
  have qA_1 := (hbsA 1 rfl).trans (sl_base hN rfl s1)
  refine op_move (ev_base hNA rfl qA_1) ?_
  exact obE_end rfl rfl rfl
 ·
  intro eA aA wA hNA hGA hbsA hdpA
  have qA_5 := (hbsA 5 rfl).trans (sl_hit hN rfl)
  obtain ⟨hx, hB10⟩ := hGA
  refine op_loadA (cs := [(Value.int .i64 x.1), (Value.int .i64 x.2)]) agg36 rfl (ev_base hNA rfl qA_5) (fun j u hu => by rw [Nat.zero_add]; exact hB10.cell hu) ?_
  exact obE_end rfl rfl rfl
 ·
  intro w32 E32 _ a32 hN32 hbs32 hdp32 o_ ho_; obtain rfl := Option.some.inj ho_
  have z_w32 := E32.size
  have hk := hk.keep0 E32
  have hB10 := hB10.keep0 E32
  have hx := hx.keep0 E32
  have hT22 := hT22.keepG (Gr.of0 E32 NoB) (fun _ _ h => h) (NoK.no _)
  have hb := hb.step0 E32
  have q32_27 : Sl a32 27 xv := (hdp32 4 _ 27 (by kernel_rfl) rfl rfl).2 rfl
  refine op_fn (vs := [xv]) ok41 ⟨(ev_base hN32 rfl q32_27), trivial⟩ (clB (hk.mono (Nat.zero_le _) (by omega)) (by omega)) ?_
  rintro v33 w35 ⟨E37, hO33⟩
  have dj38 : Dj (leafW b16 nilV) (Bl v33) := Dj.fresh (fun k hk => (hT22.lt k hk).2) (fun k hk => (hO33.lt k hk).1)
  have E37 := grown_of_below E37
  have z_w35 := E37.size
  have hk := hk.keep0 E37
  have hB10 := hB10.keep0 E37
  have hx := hx.keep0 E37
  have hT22 := hT22.keepG (Gr.of0 E37 NoB) (fun _ _ h => h) (NoK.no _)
  have hb := hb.step0 E37
  have hO33 := hO33.mono (base' := w.heap.size) (by omega)
  skip
  refine ke_end rfl (by decide) rfl ⟨hx, hB10⟩ ?_
  intro w39 E39 _ a39 hN39 hbs39 hdp39 o_ ho_; obtain rfl := Option.some.inj ho_
  have z_w39 := E39.size
  have hk := hk.keep0 E39
  have hB10 := hB10.keep0 E39
  have hx := hx.keep0 E39
  have hT22 := hT22.keepG (Gr.of0 E39 NoB) (fun _ _ h => h) (NoK.no _)
  have hO33 := hO33.keep0 E39
  have hb := hb.step0 E39
  have q39_28 : Sl a39 28 v33 := (Option.some.inj ((hdp39 5 _ 28 (by kernel_rfl) rfl rfl).1 0 rfl)).symm
  have q39_29 : Sl a39 29 (Value.agg #[(Value.int .i64 x.1), (Value.int .i64 x.2)]) := (hdp39 6 _ 29 (by kernel_rfl) rfl rfl).2 rfl
  refine op_build (pv := [(0, v33), (1, (Value.agg #[(Value.int .i64 x.1), (Value.int .i64 x.2)]))]) (v := (Value.agg #[v33, (Value.int .i64 x.1), (Value.int .i64 x.2)])) ⟨rfl, (ev_base hN39 rfl q39_28), ⟨rfl, (ev_base hN39 rfl q39_29), trivial⟩⟩ (by obtain ⟨_, _, _, rfl⟩ := hO33.sl; kernel_rfl) ?_
  refine ke_end rfl (by decide) rfl ⟨hx, hB10⟩ ?_
  intro w40 E40 _ a40 hN40 hbs40 hdp40 o_ ho_; obtain rfl := Option.some.inj ho_
  have z_w40 := E40.size
  have hk := hk.keep0 E40
  have hB10 := hB10.keep0 E40
  have hx := hx.keep0 E40
  have hT22 := hT22.keepG (Gr.of0 E40 NoB) (fun _ _ h => h) (NoK.no _)
  have hO33 := hO33.keep0 E40
  have hb := hb.step0 E40
  have q40_26 : Sl a40 26 (ptr b16 0) := (hdp40 3 _ 26 (by kernel_rfl) rfl rfl).2 rfl
  have q40_30 : Sl a40 30 (Value.agg #[v33, (Value.int .i64 x.1), (Value.int .i64 x.2)]) := (Option.some.inj ((hdp40 7 _ 30 (by kernel_rfl) rfl rfl).1 1 rfl)).symm
  rcases Bool.eq_false_or_eq_true (((putT 0 k x (([] : List (Ky × (Int × Int))) : Tr (Int × Int) 0)).2.2.isSome)) with k31 | k31
  · -- 31T
   cases (show false = true from k31)
  · -- 31F
   refine op_fn (vs := [(ptr b16 0), (Value.agg #[v33, (Value.int .i64 x.1), (Value.int .i64 x.2)])]) ok43 ⟨(ev_base hN40 rfl q40_26), ⟨(ev_base hN40 rfl q40_30), trivial⟩⟩ (putAllA 0 hT22 (show Sorted ([] : List Ky) from List.Pairwise.nil) (Nat.zero_le 6) (hO33.mono (Nat.zero_le _)) (fun j hj => .inr (hO33.lt j hj).1)) ?_
   rintro _ w44 ⟨E45, u42, m42, rfl, ho42⟩
   have bd46 := hB10.lt
   have bd47 := hx.lt
   have bd48 := hO33.lt
   have dj49 := (hT22.notBx hB10 (by decide) (by decide) (by decide) (by decide))
   have dj50 := (hT22.notBx hx (by decide) (by decide) (by decide) (by decide))
   have dj51 := dj38.symm
   obtain ⟨hr42, rfl, rfl, W1_42, hT42, hN1_42⟩ := outR_none k31 ho42
   have z_w44 := E45.size
   have hB10 := hB10.keepG E45 dj49
   have hx := hx.keepG E45 dj50
   have hb := hb.stepF E45 (fun k hk h => absurd (hlo k h) (by omega))
   have hin52 : ∀ j, W1_42 j → F j ∨ w.heap.size ≤ j := fun j hj => (hN1_42 j hj).elim (fun h => .inr (hlo j h)) (fun h => .inr (by omega))
   refine ke_end rfl (by decide) rfl ⟨hx, hB10⟩ ?_
   intro w53 E53 a53 hN53 hd53 hbs53 hph53
   have hd53 := hd53.trans ((by simp only [putsL_defers] : _ = _).trans hd)
   have z_w53 := E53.size
   have hx := hx.keep0 E53
   have hT42 := hT42.keepG (Gr.of0 E53 NoB) (fun _ _ h => h) (NoK.no _)
   have hb := hb.step0 E53
   have s53_31 : Sl a53 31 (Value.tuple #[(Value.bool (putT 0 k x (([] : List (Ky × (Int × Int))) : Tr (Int × Int) 0)).1), (Value.slice none 0 0), (Value.pointer none)]) := (Option.some.inj ((hph53 8 _ 31 rfl rfl).1 2 rfl)).symm
   refine split_end ?_
   refine from_still (m := 16) 7 (hd := [_, _, _, _, _, _, _]) (by kernel_rfl) rfl rfl ?_
   refine st_step rfl (fun _ h9 => op_move (ev_base hN53 rfl s53_31) h9) ?_
   refine st_step rfl (fun _ h9 => op_extract (ev_hit hN53 rfl) rfl h9) ?_
   refine st_step rfl (fun _ h9 => op_extract (ev_hit hN53 rfl) rfl h9) ?_
   refine st_step rfl (fun _ h9 => op_extract (ev_hit hN53 rfl) rfl h9) ?_
   refine st_step rfl (fun _ h9 => op_assign (ev_hit hN53 rfl) h9) ?_
   refine st_step rfl (fun _ h9 => op_assign (ev_hit hN53 rfl) h9) ?_
   refine st_step rfl (fun _ h9 => op_assign (ev_hit hN53 rfl) h9) ?_
   refine st_nil ?_
   refine from_end ?_ rfl
   refine hK21 _ _ (seq_any fun K54 hK54 => seq_any fun K55 hK55 => one_reg (op_move (ev_hit hN53 rfl) (op_pne_none ptrt99 (ev_hit hN53 rfl) rfl ?_)))
   refine reg_nil (hK55 _ _ (wp_cond_false (ev_hit hN53 rfl) ?_))
   refine wp_skip ?_
   refine hK54 _ _ (seq_any fun K56 hK56 => one_reg (op_move (ev_hit hN53 rfl) (op_assign (ev_hit hN53 rfl) ?_)))
   refine reg_nil (hK56 _ _ (wp_ret ?_))
   refine ret1 rfl hd53 (ev_hit hN53 rfl) ⟨_, rfl, ?_⟩
   exact ⟨hb, rfl, b16, W1_42, hx, (by rw [hr42]; exact hT42), hin52⟩

theorem putT1A {k : List UInt8} {xv : Value} {x : Int × Int} {F : Nat → Prop} {p : Nat} {h q : Nat} {t : Tr (Int × Int) h} {W : Nat → Prop} {R : Nat → Prop} {w : World} (hx : Bx w p 101 [ptr q 0]) (hFp : F p) (hT : TreeR kA R w h q t W) (hFW : ∀ j, W j → F j) (hO : Ok h t) (h6 : szT h t ≤ 6) {L B : Nat} (hk : RdC w L B 1 xv k.length (k.map u8v)) (hB : B ≤ w.heap.size) (hap : ∀ j, F j → j < L ∨ B ≤ j) (hkn : k.length ≤ 1000000000) : Ret Try.prog 17 #[(ptr p 0), xv, (Value.agg #[(Value.int .i64 x.1), (Value.int .i64 x.2)])] w (fun v' w' => Gr w w' F ∧ v' = .bool (putT h k x t).1 ∧ ∃ q2 W2, Bx w' p 101 [ptr q2 0] ∧ TreeO kA (fun j => R j ∨ w.heap.size ≤ j) w' (grown h (putT h k x t).2.1 (putT h k x t).2.2) q2 W2 ∧ ∀ j, W2 j → F j ∨ w.heap.size ≤ j) := by
 have hi_p := hx.lt
 have hT1 : TreeR kA (fun j => R j ∨ w.heap.size ≤ j) w h q t W := hT.monoR (fun j h => .inl h)
 have hb := Gr.refl w F
 refine enter (N := 51) Try.func17 rfl rfl (by simp) fun a0 hN hd hA => ?_
 have s0 : a0.tmps.getD 0 undef = (ptr p 0) := hA 0 (by simp)
 have s1 : a0.tmps.getD 1 undef = xv := hA 1 (by simp)
 have s2 : a0.tmps.getD 2 undef = (Value.agg #[(Value.int .i64 x.1), (Value.int .i64 x.2)]) := hA 2 (by simp)
 clear hA
 refine seq_any fun K3 hK3 => one_reg (op_box (cs := [(Value.int .i64 x.1), (Value.int .i64 x.2)]) (ev_base hN rfl s2) rfl ?_)
 intro w4 b7 lo_b7 hi_b7 hB11 E10
 have dj12 : ¬ W b7 := fun hf => by have := (hT1.lt _ hf).2; omega
 have z_w4 := E10.size
 have hx := hx.keep0 E10
 have hk := hk.keep0 E10
 have hT1 := hT1.keepG (Gr.of0 E10 NoB) (fun _ _ h => h) (NoK.no _)
 have hb := hb.step0 E10
 refine op_assign rfl ?_
 refine reg_nil (hK3 _ _ (seq_any fun K13 hK13 => seq_any fun K14 hK14 => one_reg (op_move (ev_base hN rfl s0) (op_peq_some ptrt34 (ev_hit hN rfl) rfl ?_))))
 refine reg_nil (hK14 _ _ (wp_cond_false (ev_hit hN rfl) ?_))
 refine wp_skip ?_
 refine hK13 _ _ (seq_any fun K15 hK15 => ?_)
 refine seq_any fun K16 hK16 => one_reg (op_move (ev_base hN rfl s0) (op_nil (ev_hit hN rfl) (op_field fld101_0 (ev_hit hN rfl) (op_load1 (v := (ptr q 0)) one99 (ev_hit hN rfl) (hx.cell rfl) (op_peq_some ptrt99 (ev_hit hN rfl) rfl ?_)))))
 refine reg_nil (hK16 _ _ (wp_cond_false (ev_hit hN rfl) ?_))
 refine wp_skip ?_
 refine hK15 _ _ (seq_any fun K17 hK17 => reg_split (hd := [_, _, _, _, _, _, _, _, _]) (tl := _) 9 mixed (by kernel_rfl) rfl rfl ?_)
 refine any_env (φ := phiV [(fun uz => uz = (ptr p 0)), (fun uz => uz = (ptr p 0)), (fun uz => uz = (ptr p 0)), (fun uz => uz = (ptr q 0)), (fun uz => uz = xv), (fun _ => True), (fun uz => uz = (Value.agg #[(Value.int .i64 x.1), (Value.int .i64 x.2)])), (fun _ => True), (fun _ => True)]) (G := fun w' => Bx w' p 101 [(ptr q 0)] ∧ Bx w' b7 36 [(Value.int .i64 x.1), (Value.int .i64 x.2)]) [5, 7, 8] (by kernel_rfl) (by kernel_rfl) (by kernel_rfl) (by kernel_rfl) hN (fun w1 w2 E h => by obtain ⟨h0, h1⟩ := h; exact ⟨h0.keep0 E, h1.keep0 E⟩) ⟨hx, hB11⟩ (ObEs.cons ?_ (ObEs.cons ?_ (ObEs.cons ?_ (ObEs.cons ?_ (ObEs.cons ?_ (ObEs.pass rfl (ObEs.cons ?_ (ObEs.pass rfl (ObEs.pass rfl (ObEs.nil)))))))))) (by simp only [putsL_defers]) ?_
 ·
  intro eA aA wA hNA hGA hbsA hdpA
  have qA_0 := (hbsA 0 rfl).trans (sl_base hN rfl s0)
  refine op_move (ev_base hNA rfl qA_0) ?_
  exact obE_end rfl rfl rfl
 ·
  intro eA aA wA hNA hGA hbsA hdpA
  have qA_23 : Sl aA 23 (ptr p 0) := (hdpA 0 _ 23 (by kernel_rfl) rfl rfl).2 rfl
  refine op_nil (ev_base hNA rfl qA_23) ?_
  exact obE_end rfl rfl rfl
 ·
  intro eA aA wA hNA hGA hbsA hdpA
  have qA_24 : Sl aA 24 (ptr p 0) := (hdpA 1 _ 24 (by kernel_rfl) rfl rfl).2 rfl
  refine op_field fld101_0 (ev_base hNA rfl qA_24) ?_
  exact obE_end rfl rfl rfl
 ·
  intro eA aA wA hNA hGA hbsA hdpA
  have qA_25 : Sl aA 25 (ptr p 0) := (hdpA 2 _ 25 (by kernel_rfl) rfl rfl).2 rfl
  obtain ⟨hx, hB11⟩ := hGA
  refine op_load1 (v := (ptr q 0)) one99 (ev_base hNA rfl qA_25) (hx.cell rfl) ?_
  exact obE_end rfl rfl rfl
 ·
  intro eA aA wA hNA hGA hbsA hdpA
  have qA_1 := (hbsA 1 rfl).trans (sl_base hN rfl s1)
  refine op_move (ev_base hNA rfl qA_1) ?_
  exact obE_end rfl rfl rfl
 ·
  intro eA aA wA hNA hGA hbsA hdpA
  have qA_5 := (hbsA 5 rfl).trans (sl_hit hN rfl)
  obtain ⟨hx, hB11⟩ := hGA
  refine op_loadA (cs := [(Value.int .i64 x.1), (Value.int .i64 x.2)]) agg36 rfl (ev_base hNA rfl qA_5) (fun j u hu => by rw [Nat.zero_add]; exact hB11.cell hu) ?_
  exact obE_end rfl rfl rfl
 ·
  intro w18 E18 _ a18 hN18 hbs18 hdp18 o_ ho_; obtain rfl := Option.some.inj ho_
  have z_w18 := E18.size
  have hx := hx.keep0 E18
  have hk := hk.keep0 E18
  have hT1 := hT1.keepG (Gr.of0 E18 NoB) (fun _ _ h => h) (NoK.no _)
  have hB11 := hB11.keep0 E18
  have hb := hb.step0 E18
  have q18_27 : Sl a18 27 xv := (hdp18 4 _ 27 (by kernel_rfl) rfl rfl).2 rfl
  refine op_fn (vs := [xv]) ok41 ⟨(ev_base hN18 rfl q18_27), trivial⟩ (clB (hk.mono (Nat.zero_le _) (by omega)) (by omega)) ?_
  rintro v19 w20 ⟨E21, hO19⟩
  have dj22 : Dj W (Bl v19) := Dj.fresh (fun k hk => (hT1.lt k hk).2) (fun k hk => (hO19.lt k hk).1)
  have E21 := grown_of_below E21
  have z_w20 := E21.size
  have hx := hx.keep0 E21
  have hT1 := hT1.keepG (Gr.of0 E21 NoB) (fun _ _ h => h) (NoK.no _)
  have hB11 := hB11.keep0 E21
  have hb := hb.step0 E21
  have hO19 := hO19.mono (base' := w.heap.size) (by omega)
  skip
  refine ke_end rfl (by decide) rfl ⟨hx, hB11⟩ ?_
  intro w32 E32 _ a32 hN32 hbs32 hdp32 o_ ho_; obtain rfl := Option.some.inj ho_
  have z_w32 := E32.size
  have hx := hx.keep0 E32
  have hT1 := hT1.keepG (Gr.of0 E32 NoB) (fun _ _ h => h) (NoK.no _)
  have hB11 := hB11.keep0 E32
  have hO19 := hO19.keep0 E32
  have hb := hb.step0 E32
  have q32_28 : Sl a32 28 v19 := (Option.some.inj ((hdp32 5 _ 28 (by kernel_rfl) rfl rfl).1 0 rfl)).symm
  have q32_29 : Sl a32 29 (Value.agg #[(Value.int .i64 x.1), (Value.int .i64 x.2)]) := (hdp32 6 _ 29 (by kernel_rfl) rfl rfl).2 rfl
  refine op_build (pv := [(0, v19), (1, (Value.agg #[(Value.int .i64 x.1), (Value.int .i64 x.2)]))]) (v := (Value.agg #[v19, (Value.int .i64 x.1), (Value.int .i64 x.2)])) ⟨rfl, (ev_base hN32 rfl q32_28), ⟨rfl, (ev_base hN32 rfl q32_29), trivial⟩⟩ (by obtain ⟨_, _, _, rfl⟩ := hO19.sl; kernel_rfl) ?_
  refine ke_end rfl (by decide) rfl ⟨hx, hB11⟩ ?_
  intro w33 E33 _ a33 hN33 hbs33 hdp33 o_ ho_; obtain rfl := Option.some.inj ho_
  have z_w33 := E33.size
  have hx := hx.keep0 E33
  have hT1 := hT1.keepG (Gr.of0 E33 NoB) (fun _ _ h => h) (NoK.no _)
  have hB11 := hB11.keep0 E33
  have hO19 := hO19.keep0 E33
  have hb := hb.step0 E33
  have q33_26 : Sl a33 26 (ptr q 0) := (hdp33 3 _ 26 (by kernel_rfl) rfl rfl).2 rfl
  have q33_30 : Sl a33 30 (Value.agg #[v19, (Value.int .i64 x.1), (Value.int .i64 x.2)]) := (Option.some.inj ((hdp33 7 _ 30 (by kernel_rfl) rfl rfl).1 1 rfl)).symm
  rcases Bool.eq_false_or_eq_true (((putT h k x t).2.2.isSome)) with k31 | k31
  · -- 31T
   refine op_fn (vs := [(ptr q 0), (Value.agg #[v19, (Value.int .i64 x.1), (Value.int .i64 x.2)])]) ok43 ⟨(ev_base hN33 rfl q33_26), ⟨(ev_base hN33 rfl q33_30), trivial⟩⟩ (putAllA h hT1 hO h6 (hO19.mono (Nat.zero_le _)) (fun j hj => .inr (hO19.lt j hj).1)) ?_
   rintro _ w37 ⟨E38, u35, m35, rfl, ho35⟩
   have bd39 := hx.lt
   have bd40 := hB11.lt
   have bd42 := hO19.lt
   have dj44 := (hT1.notBx hx (by decide) (by decide) (by decide) (by decide))
   have dj45 := dj22.symm
   obtain ⟨y35, t2_35, q35, W1_35, W2_35, hr35, rfl, hu35, hur35, hT35, hT2_35, hN1_35, hN2_35, hd35⟩ := outR_some k31 ho35
   have z_w37 := E38.size
   have hx := hx.keepG E38 dj44
   have hB11 := hB11.keepG E38 dj12
   have hb := hb.stepF E38 (fun k _ h => hFW k h)
   have dj46 : ¬ W1_35 p := ne_stepF hN1_35 bd39 dj44
   have hin47 : ∀ j, W1_35 j → F j ∨ w.heap.size ≤ j := fun j hj => (hN1_35 j hj).elim (fun h => .inl (hFW j h)) (fun h => .inr (by omega))
   have dj48 : ¬ W2_35 p := ne_stepF hN2_35 bd39 dj44
   have hin49 : ∀ j, W2_35 j → F j ∨ w.heap.size ≤ j := fun j hj => (hN2_35 j hj).elim (fun h => .inl (hFW j h)) (fun h => .inr (by omega))
   refine ke_end rfl (by decide) rfl ⟨hx, hB11⟩ ?_
   intro w50 E50 a50 hN50 hd50 hbs50 hph50
   have hd50 := hd50.trans ((by simp only [putsL_defers] : _ = _).trans hd)
   have z_w50 := E50.size
   have hx := hx.keep0 E50
   have hT35 := hT35.keepG (Gr.of0 E50 NoB) (fun _ _ h => h) (NoK.no _)
   have hT2_35 := hT2_35.keepG (Gr.of0 E50 NoB) (fun _ _ h => h) (NoK.no _)
   have hu35 := hu35.keep0 E50
   have hb := hb.step0 E50
   have s50_0 := (hbs50 0 rfl).trans (sl_base hN rfl s0)
   have s50_31 : Sl a50 31 (Value.tuple #[(Value.bool (putT h k x t).1), u35, (ptr q35 0)]) := (Option.some.inj ((hph50 8 _ 31 rfl rfl).1 2 rfl)).symm
   refine split_end ?_
   refine from_still (m := 16) 7 (hd := [_, _, _, _, _, _, _]) (by kernel_rfl) rfl rfl ?_
   refine st_step rfl (fun _ h9 => op_move (ev_base hN50 rfl s50_31) h9) ?_
   refine st_step rfl (fun _ h9 => op_extract (ev_hit hN50 rfl) rfl h9) ?_
   refine st_step rfl (fun _ h9 => op_extract (ev_hit hN50 rfl) rfl h9) ?_
   refine st_step rfl (fun _ h9 => op_extract (ev_hit hN50 rfl) rfl h9) ?_
   refine st_step rfl (fun _ h9 => op_assign (ev_hit hN50 rfl) h9) ?_
   refine st_step rfl (fun _ h9 => op_assign (ev_hit hN50 rfl) h9) ?_
   refine st_step rfl (fun _ h9 => op_assign (ev_hit hN50 rfl) h9) ?_
   refine st_nil ?_
   refine from_end ?_ rfl
   refine hK17 _ _ (seq_any fun K51 hK51 => seq_any fun K52 hK52 => one_reg (op_move (ev_hit hN50 rfl) (op_pne_some ptrt99 (ev_hit hN50 rfl) rfl ?_)))
   refine reg_nil (hK52 _ _ (wp_cond_true (ev_hit hN50 rfl) ?_))
   refine one_reg (op_move (ev_base hN50 rfl s50_0) (op_move (ev_hit hN50 rfl) (op_bslice (e := 27) (pv := [(0, u35)]) (cs := [u35]) ⟨rfl, (ev_hit hN50 rfl), trivial⟩ (by obtain ⟨_, _, _, rfl⟩ := hu35.sl; kernel_rfl) ?_)))
   intro w53 b54 lo_b54 hi_b54 hB56 E55
   have dj57 : ¬ W1_35 b54 := fun hf => by have := (hT35.lt _ hf).2; omega
   have dj58 : ¬ W2_35 b54 := fun hf => by have := (hT2_35.lt _ hf).2; omega
   have z_w53 := E55.size
   have hx := hx.keep0 E55
   have hT35 := hT35.keepG (Gr.of0 E55 NoB) (fun _ _ h => h) (NoK.no _)
   have hT2_35 := hT2_35.keepG (Gr.of0 E55 NoB) (fun _ _ h => h) (NoK.no _)
   have hu35 := hu35.keep0 E55
   have hb := hb.step0 E55
   refine op_move (ev_base hN50 rfl s50_0) (op_nil (ev_hit hN50 rfl) (op_field fld101_0 (ev_hit hN50 rfl) (op_load1 (v := (ptr q 0)) one99 (ev_hit hN50 rfl) (hx.cell rfl) (op_move (ev_hit hN50 rfl) (op_bslice (e := 99) (pv := [(0, (ptr q 0)), (1, (ptr q35 0))]) (cs := [(ptr q 0), (ptr q35 0)]) ⟨rfl, (ev_hit hN50 rfl), ⟨rfl, (ev_hit hN50 rfl), trivial⟩⟩ (by kernel_rfl) ?_)))))
   intro w59 b60 lo_b60 hi_b60 hB62 E61
   have dj63 : ¬ W1_35 b60 := fun hf => by have := (hT35.lt _ hf).2; omega
   have dj64 : ¬ W2_35 b60 := fun hf => by have := (hT2_35.lt _ hf).2; omega
   have z_w59 := E61.size
   have hx := hx.keep0 E61
   have hT35 := hT35.keepG (Gr.of0 E61 NoB) (fun _ _ h => h) (NoK.no _)
   have hT2_35 := hT2_35.keepG (Gr.of0 E61 NoB) (fun _ _ h => h) (NoK.no _)
   have hu35 := hu35.keep0 E61
   have hB56 := hB56.keep0 E61
   have hb := hb.step0 E61
   refine op_build (pv := [(1, (Value.slice (some ⟨b54, 0, none⟩) 1 1)), (2, (Value.slice (some ⟨b60, 0, none⟩) 2 2))]) (v := (Value.agg #[(Value.slice none 0 0), (Value.slice (some ⟨b54, 0, none⟩) 1 1), (Value.slice (some ⟨b60, 0, none⟩) 2 2)])) ⟨rfl, (ev_hit hN50 rfl), ⟨rfl, (ev_hit hN50 rfl), trivial⟩⟩ (by kernel_rfl) ?_
   refine op_box (cs := [(Value.slice none 0 0), (Value.slice (some ⟨b54, 0, none⟩) 1 1), (Value.slice (some ⟨b60, 0, none⟩) 2 2)]) (ev_hit hN50 rfl) rfl ?_
   intro w65 b66 lo_b66 hi_b66 hB68 E67
   have dj69 : ¬ W1_35 b66 := fun hf => by have := (hT35.lt _ hf).2; omega
   have dj70 : ¬ W2_35 b66 := fun hf => by have := (hT2_35.lt _ hf).2; omega
   have z_w65 := E67.size
   have hx := hx.keep0 E67
   have hT35 := hT35.keepG (Gr.of0 E67 NoB) (fun _ _ h => h) (NoK.no _)
   have hT2_35 := hT2_35.keepG (Gr.of0 E67 NoB) (fun _ _ h => h) (NoK.no _)
   have hu35 := hu35.keep0 E67
   have hB56 := hB56.keep0 E67
   have hB62 := hB62.keep0 E67
   have hb := hb.step0 E67
   refine op_nil (ev_hit hN50 rfl) (op_field fld101_0 (ev_hit hN50 rfl) ?_)
   have hx_old := hx
   refine op_store (vs := [(ptr b66 0)]) (cs' := [(ptr b66 0)]) size99 (ev_hit hN50 rfl) (ev_hit hN50 rfl) rfl rfl rfl hx (Nat.le_of_ble_eq_true rfl) rfl ?_
   intro w71 hx E72
   have z_w71 := E72.size
   have hT35 := hT35.keepG (Gr.of E72) (Dj.one dj46) (NoK.ofBx hx_old (by decide))
   have hT2_35 := hT2_35.keepG (Gr.of E72) (Dj.one dj48) (NoK.ofBx hx_old (by decide))
   have hu35 := hu35.keepX hx_old E72 (by decide)
   have hB56 := hB56.keep E72 (fun hh => hB56.ne hx_old (by decide) (Option.some.inj hh))
   have hB62 := hB62.keep E72 (fun hh => hB62.ne hx_old (by decide) (Option.some.inj hh))
   have hB68 := hB68.keep E72 (fun hh => hB68.ne hx_old (by decide) (Option.some.inj hh))
   have hb := hb.stepB E72 hFp
   refine reg_nil (hK51 _ _ (seq_any fun K73 hK73 => one_reg (op_move (ev_hit hN50 rfl) (op_assign (ev_hit hN50 rfl) ?_))))
   refine reg_nil (hK73 _ _ (wp_ret ?_))
   refine ret1 rfl hd50 (ev_hit hN50 rfl) ⟨_, rfl, ?_⟩
   exact ⟨hb, rfl, b66, _, hx, (by rw [hr35]; exact (mkNode (κ := kA) (K := [(u35, y35)]) (P := [q, q35]) (ts := [(putT h k x t).2.1, t2_35]) hB68 (Own.ofBx (base := 0) (sz := 1) (n := 1) hB56 rfl (by decide) (Nat.zero_le _)) (Own.ofBx (base := 0) (sz := 1) (n := 2) hB62 rfl (by decide) (Nat.zero_le _)) (fun x hx => by rw [List.mem_singleton.1 hx]; exact hu35) (fun x hx => by rw [List.mem_singleton.1 hx]; exact hur35) (Kids.ins (i := 0) (Kids.ins (i := 0) (Kids.nil (TreeR kA (fun j => R j ∨ w.heap.size ≤ j) w71 h)) (Nat.zero_le _) hT2_35 (fun _ _ h => h)) (Nat.zero_le _) hT35 (fun k h1 h2 => h2.elim (hd35 k h1) (fun h => h))) (fun h9 => h9.elim dj69 (fun h8 => h8.elim dj70 (fun h => h))) (fun j hj h9 => h9.elim ((Dj.one dj57).symm j hj) (fun h8 => h8.elim ((Dj.one dj58).symm j hj) (fun h => h))) (fun j hj h9 => h9.elim ((Dj.one dj63).symm j hj) (fun h8 => h8.elim ((Dj.one dj64).symm j hj) (fun h => h))))), fun j hj => by
       rcases hj with rfl | hj | hj | hj | hj | hj
       · exact .inr (by omega)
       · exact .inr (by have e9 : b54 = j := Option.some.inj hj; omega)
       · exact .inr (by have e9 : b60 = j := Option.some.inj hj; omega)
       · exact hin47 j hj
       · exact hin49 j hj
       · exact hj.elim⟩
  · -- 31F
   refine op_fn (vs := [(ptr q 0), (Value.agg #[v19, (Value.int .i64 x.1), (Value.int .i64 x.2)])]) ok43 ⟨(ev_base hN33 rfl q33_26), ⟨(ev_base hN33 rfl q33_30), trivial⟩⟩ (putAllA h hT1 hO h6 (hO19.mono (Nat.zero_le _)) (fun j hj => .inr (hO19.lt j hj).1)) ?_
   rintro _ w75 ⟨E76, u74, m74, rfl, ho74⟩
   have bd77 := hx.lt
   have bd78 := hB11.lt
   have bd79 := hO19.lt
   have dj80 := (hT1.notBx hx (by decide) (by decide) (by decide) (by decide))
   have dj81 := dj22.symm
   obtain ⟨hr74, rfl, rfl, W1_74, hT74, hN1_74⟩ := outR_none k31 ho74
   have z_w75 := E76.size
   have hx := hx.keepG E76 dj80
   have hB11 := hB11.keepG E76 dj12
   have hb := hb.stepF E76 (fun k _ h => hFW k h)
   have hin82 : ∀ j, W1_74 j → F j ∨ w.heap.size ≤ j := fun j hj => (hN1_74 j hj).elim (fun h => .inl (hFW j h)) (fun h => .inr (by omega))
   refine ke_end rfl (by decide) rfl ⟨hx, hB11⟩ ?_
   intro w83 E83 a83 hN83 hd83 hbs83 hph83
   have hd83 := hd83.trans ((by simp only [putsL_defers] : _ = _).trans hd)
   have z_w83 := E83.size
   have hx := hx.keep0 E83
   have hT74 := hT74.keepG (Gr.of0 E83 NoB) (fun _ _ h => h) (NoK.no _)
   have hb := hb.step0 E83
   have s83_31 : Sl a83 31 (Value.tuple #[(Value.bool (putT h k x t).1), (Value.slice none 0 0), (Value.pointer none)]) := (Option.some.inj ((hph83 8 _ 31 rfl rfl).1 2 rfl)).symm
   refine split_end ?_
   refine from_still (m := 16) 7 (hd := [_, _, _, _, _, _, _]) (by kernel_rfl) rfl rfl ?_
   refine st_step rfl (fun _ h9 => op_move (ev_base hN83 rfl s83_31) h9) ?_
   refine st_step rfl (fun _ h9 => op_extract (ev_hit hN83 rfl) rfl h9) ?_
   refine st_step rfl (fun _ h9 => op_extract (ev_hit hN83 rfl) rfl h9) ?_
   refine st_step rfl (fun _ h9 => op_extract (ev_hit hN83 rfl) rfl h9) ?_
   refine st_step rfl (fun _ h9 => op_assign (ev_hit hN83 rfl) h9) ?_
   refine st_step rfl (fun _ h9 => op_assign (ev_hit hN83 rfl) h9) ?_
   refine st_step rfl (fun _ h9 => op_assign (ev_hit hN83 rfl) h9) ?_
   refine st_nil ?_
   refine from_end ?_ rfl
   refine hK17 _ _ (seq_any fun K84 hK84 => seq_any fun K85 hK85 => one_reg (op_move (ev_hit hN83 rfl) (op_pne_none ptrt99 (ev_hit hN83 rfl) rfl ?_)))
   refine reg_nil (hK85 _ _ (wp_cond_false (ev_hit hN83 rfl) ?_))
   refine wp_skip ?_
   refine hK84 _ _ (seq_any fun K86 hK86 => one_reg (op_move (ev_hit hN83 rfl) (op_assign (ev_hit hN83 rfl) ?_)))
   refine reg_nil (hK86 _ _ (wp_ret ?_))
   refine ret1 rfl hd83 (ev_hit hN83 rfl) ⟨_, rfl, ?_⟩
   exact ⟨hb, rfl, q, W1_74, hx, (by rw [hr74]; exact hT74), hin82⟩

end Go.Proofs.Ytcpfdfejojghbaa

/- Walks, written by a program: what each function of the translation hands back. -/
namespace Go.Proofs.Ytcpfdfejojghbaa
open Go.Gx Go.RowKit
attribute [local irreducible] wpList wpStill Code.wp Calls
open Go.Bt
theorem putTopI {o : TO (Int)} {k : List UInt8} {xv : Value} {x : Int} {F : Nat → Prop} {p base L B : Nat} {w : World} (hT : TopR kI 71 base w p o F) (hb : base ≤ w.heap.size) (hk : RdC w L B 1 xv k.length (k.map u8v)) (hB : B ≤ w.heap.size) (hap : ∀ j, F j → j < L ∨ B ≤ j) (hkn : k.length ≤ 1000000000) :
    Ret Try.prog 23 #[ptr p 0, xv, (Value.int .i64 x)] w (fun v' w' => Gr w w' F ∧ v' = .bool (putO k x o).1 ∧ ∃ F', TopR kI 71 base w' p (putO k x o).2 F' ∧ NewF w.heap.size F F') := by
  obtain ⟨hF, hlt, hO, root, hB', hr⟩ := id hT
  rcases hr with ⟨rfl, rfl⟩ | ⟨q, R, W, rfl, hTO, hFW, hFR⟩
  · refine Ret.mono (putT0I (R := NoB) (x := x) hB' hF hk hB hap hkn) fun v' w' h => ?_
    obtain ⟨E, hv, q2, W2, hB2, hTO2, hW2⟩ := h
    exact ⟨E, hv, hT.after hb E.size (putO_ok (k := k) (x := x) hO).1 hB2 (TreeO.monoR hTO2 fun j h => h.imp (fun q => q.elim) id) hW2⟩
  · match o, hT, hO, hTO with
    | some ⟨h, t⟩, hT, hO, hTO =>
      refine Ret.mono (putT1I (x := x) hB' hF hTO hFW hO.1 hO.2.2 hk hB hap hkn) fun v' w' h => ?_
      obtain ⟨E, hv, q2, W2, hB2, hTO2, hW2⟩ := h
      exact ⟨E, hv, hT.after hb E.size (putO_ok (k := k) (x := x) hO).1 hB2 (TreeO.monoR hTO2 fun j h => h.imp (hFR j) id) hW2⟩
theorem putTopS {o : TO (List UInt8)} {k : List UInt8} {xv : Value} {x : List UInt8} {F : Nat → Prop} {p base L B : Nat} {w : World} (hT : TopR kS 88 base w p o F) (hb : base ≤ w.heap.size) (hk : RdC w L B 1 xv k.length (k.map u8v)) (hB : B ≤ w.heap.size) (hap : ∀ j, F j → j < L ∨ B ≤ j) (hkn : k.length ≤ 1000000000) :
    Ret Try.prog 13 #[ptr p 0, xv, (Value.string (bs x))] w (fun v' w' => Gr w w' F ∧ v' = .bool (putO k x o).1 ∧ ∃ F', TopR kS 88 base w' p (putO k x o).2 F' ∧ NewF w.heap.size F F') := by
  obtain ⟨hF, hlt, hO, root, hB', hr⟩ := id hT
  rcases hr with ⟨rfl, rfl⟩ | ⟨q, R, W, rfl, hTO, hFW, hFR⟩
  · refine Ret.mono (putT0S (R := NoB) (x := x) hB' hF hk hB hap hkn) fun v' w' h => ?_
    obtain ⟨E, hv, q2, W2, hB2, hTO2, hW2⟩ := h
    exact ⟨E, hv, hT.after hb E.size (putO_ok (k := k) (x := x) hO).1 hB2 (TreeO.monoR hTO2 fun j h => h.imp (fun q => q.elim) id) hW2⟩
  · match o, hT, hO, hTO with
    | some ⟨h, t⟩, hT, hO, hTO =>
      refine Ret.mono (putT1S (x := x) hB' hF hTO hFW hO.1 hO.2.2 hk hB hap hkn) fun v' w' h => ?_
      obtain ⟨E, hv, q2, W2, hB2, hTO2, hW2⟩ := h
      exact ⟨E, hv, hT.after hb E.size (putO_ok (k := k) (x := x) hO).1 hB2 (TreeO.monoR hTO2 fun j h => h.imp (hFR j) id) hW2⟩
theorem putTopA {o : TO (Int × Int)} {k : List UInt8} {xv : Value} {x : Int × Int} {F : Nat → Prop} {p base L B : Nat} {w : World} (hT : TopR kA 101 base w p o F) (hb : base ≤ w.heap.size) (hk : RdC w L B 1 xv k.length (k.map u8v)) (hB : B ≤ w.heap.size) (hap : ∀ j, F j → j < L ∨ B ≤ j) (hkn : k.length ≤ 1000000000) :
    Ret Try.prog 17 #[ptr p 0, xv, (Value.agg #[(Value.int .i64 x.1), (Value.int .i64 x.2)])] w (fun v' w' => Gr w w' F ∧ v' = .bool (putO k x o).1 ∧ ∃ F', TopR kA 101 base w' p (putO k x o).2 F' ∧ NewF w.heap.size F F') := by
  obtain ⟨hF, hlt, hO, root, hB', hr⟩ := id hT
  rcases hr with ⟨rfl, rfl⟩ | ⟨q, R, W, rfl, hTO, hFW, hFR⟩
  · refine Ret.mono (putT0A (R := NoB) (x := x) hB' hF hk hB hap hkn) fun v' w' h => ?_
    obtain ⟨E, hv, q2, W2, hB2, hTO2, hW2⟩ := h
    exact ⟨E, hv, hT.after hb E.size (putO_ok (k := k) (x := x) hO).1 hB2 (TreeO.monoR hTO2 fun j h => h.imp (fun q => q.elim) id) hW2⟩
  · match o, hT, hO, hTO with
    | some ⟨h, t⟩, hT, hO, hTO =>
      refine Ret.mono (putT1A (x := x) hB' hF hTO hFW hO.1 hO.2.2 hk hB hap hkn) fun v' w' h => ?_
      obtain ⟨E, hv, q2, W2, hB2, hTO2, hW2⟩ := h
      exact ⟨E, hv, hT.after hb E.size (putO_ok (k := k) (x := x) hO).1 hB2 (TreeO.monoR hTO2 fun j h => h.imp (hFR j) id) hW2⟩
end Go.Proofs.Ytcpfdfejojghbaa

/- Nodes as they are looked at, level by level. -/
namespace Go.Gx
open Go.Bt Go.RowKit
section
variable {V : Type} {κ : Kd V} {w w' : World} {F G H W R : Nat → Prop} {B base b h p q n : Nat} {L : List Nat} {P : List Nat} {ts : List (Tr V (h + 1))} {l0 : List (Tr V 0)}
def NodeV (κ : Kd V) (B : Nat) (w : World) (p n : Nat) (L : List Nat) : Prop :=
  p < B ∧ ∃ pv kv cv a b ca cb, Bx w p κ.tB [pv, kv, cv] ∧ RdC w 0 B κ.pc pv a ca ∧ RdC w 0 B 1 kv b cb ∧ RdC w 0 B 1 cv L.length (L.flatMap cN) ∧ n = (if L.length = 0 then a else b)
theorem NodeV.below (N : NodeV κ B w p n L) (hb : Below B w w') : NodeV κ B w' p n L := by
  obtain ⟨hp, pv, kv, cv, a, b, ca, cb, h1, h2, h3, h4, h5⟩ := N
  refine ⟨hp, pv, kv, cv, a, b, ca, cb, ?_, h2.below hb, h3.below hb, h4.below hb, h5⟩
  unfold Bx; rw [hb.block p hp]; exact h1
theorem leaf_view {t : Tr V 0} (T : TreeR κ R w 0 p t W) : NodeV κ w.heap.size w p (szT 0 t) [] := by
  obtain ⟨pv, D, hL, e⟩ := T
  refine ⟨hL.bx.lt, pv, nilV, nilV, _, 0, _, [], hL.bx, hL.op.rdw.mono (Nat.zero_le _) (Nat.le_refl _), RdC.nil _ _ _ _, RdC.nil _ _ _ _, ?_⟩
  show (t : List (Ky × V)).length = D.length
  rw [← e]; simp
theorem node_view {t : Tr V (h + 1)} (T : TreeR κ R w (h + 1) p t W) (hk : t.2.length = t.1.length + 1) : ∃ L G, NodeV κ w.heap.size w p (szT (h + 1) t) L ∧ KidsR κ R w h L t.2 G ∧ ∀ k, G k → W k := by
  obtain ⟨kv, cv, K, P, G, hN, hKs, e⟩ := T
  have hl : P.length = t.2.length := hKs.len
  refine ⟨P, G, ⟨hN.bx.lt, nilV, kv, cv, 0, _, [], _, hN.bx, RdC.nil _ _ _ _, hN.ok.rdw, hN.oc.rdw, ?_⟩, hKs, hN.wg⟩
  show t.1.length = _
  rw [if_neg (by omega), ← e]; simp
/-! all of a level -/
variable {α : Type} {A : Nat → α → (Nat → Prop) → Prop} {ys9 : List α} {a : α} {f : Nat → Prop}
theorem Kids.uncons (K : Kids A (p :: P) (a :: ys9) G) : ∃ f G0, A p a f ∧ Kids A P ys9 G0 ∧ Dj f G0 ∧ (∀ k, f k → G k) ∧ (∀ k, G0 k → G k) := K.cut1 (i := 0) (by simp)
theorem Kids.cons (K : Kids A P ys9 G) (hA : A p a f) (hd : Dj f G) : Kids A (p :: P) (a :: ys9) (fun k => f k ∨ G k) := K.ins (i := 0) (Nat.zero_le _) hA hd
theorem Kids.app {P2 : List Nat} {as2 : List α} {G2 : Nat → Prop} : ∀ {P : List Nat} {ys9 : List α} {G : Nat → Prop}, Kids A P ys9 G → Kids A P2 as2 G2 → Dj G G2 → ∃ G3, Kids A (P ++ P2) (ys9 ++ as2) G3 ∧ ∀ k, G3 k → G k ∨ G2 k
  | [], ys9, G, K, K2, hd => by
    have : ys9 = [] := List.eq_nil_of_length_eq_zero K.len.symm
    subst this
    exact ⟨G2, K2, fun k => .inr⟩
  | p :: P, [], G, K, K2, hd => by have := K.len; simp at this
  | p :: P, a :: ys9, G, K, K2, hd => by
    obtain ⟨f, G0, hA, K0, hf, s1, s2⟩ := K.uncons
    obtain ⟨G3, K3, h3⟩ := Kids.app K0 K2 (fun k h => hd k (s2 k h))
    exact ⟨_, K3.cons hA (fun k h1 h2 => (h3 k h2).elim (hf k h1) (hd k (s1 k h1))), fun k hk => hk.elim (fun h => .inl (s1 k h)) fun h => (h3 k h).imp (s2 k) id⟩
theorem leaf_views : ∀ {P : List Nat} {ts : List (Tr V 0)} {G : Nat → Prop}, KidsR κ R w 0 P ts G → ∀ i, i < P.length → NodeV κ w.heap.size w (P.getD i default) ((ts.map (szT 0)).getD i 0) []
  | [], _, _, _, i, hi => by simp at hi
  | p :: P, [], _, K, _, _ => by have := Kids.len K; simp at this
  | p :: P, t :: ts, G, K, i, hi => by
    obtain ⟨f, G0, hA, K0, _⟩ := Kids.uncons K
    cases i with
    | zero => exact leaf_view hA
    | succ i => exact leaf_views K0 i (by simpa using hi)
theorem node_views : ∀ {P : List Nat} {ts : List (Tr V (h + 1))} {G : Nat → Prop}, KidsR κ R w (h + 1) P ts G → (∀ t ∈ ts, t.2.length = t.1.length + 1) →
    ∃ (PP : List (List Nat)) (G' : Nat → Prop), PP.length = P.length ∧ (∀ i, i < P.length → NodeV κ w.heap.size w (P.getD i default) ((ts.map (szT (h + 1))).getD i 0) (PP.getD i [])) ∧ KidsR κ R w h PP.flatten (ts.flatMap fun t => t.2) G' ∧ ∀ k, G' k → G k
  | [], ts, G, K, _ => by
    have : ts = [] := List.eq_nil_of_length_eq_zero (Kids.len K).symm
    subst this
    exact ⟨[], NoB, rfl, fun i hi => absurd hi (Nat.not_lt_zero i), Kids.nil _, fun k hk => hk.elim⟩
  | p :: P, [], G, K, _ => by have := Kids.len K; simp at this
  | p :: P, t :: ts, G, K, hk => by
    obtain ⟨f, G0, hA, K0, hd, s1, s2⟩ := Kids.uncons K
    obtain ⟨L, G1, hN, hK1, hG1⟩ := node_view hA (hk t (List.mem_cons_self ..))
    obtain ⟨PP, G2, hl, hv, hK2, hG2⟩ := node_views K0 (fun t ht => hk t (List.mem_cons_of_mem _ ht))
    obtain ⟨G3, hK3, hG3⟩ := Kids.app hK1 hK2 (fun k h1 h2 => hd k (hG1 k h1) (hG2 k h2))
    refine ⟨L :: PP, G3, by simp [hl], fun i hi => ?_, hK3, fun k hk => (hG3 k hk).elim (fun h => s1 k (hG1 k h)) fun h => s2 k (hG2 k h)⟩
    cases i with
    | zero => exact hN
    | succ i => exact hv i (by simpa using hi)
theorem toL_pos : ∀ {h : Nat} {t : Tr V h}, Ok h t → 1 ≤ szT h t → 1 ≤ (toL h t).length
  | 0, t, _, h1 => h1
  | h + 1, (ks, cs), H, h1 => by
    obtain ⟨N, hs⟩ := ok_node.1 H
    obtain ⟨c, hc, okc, _⟩ := N.at (i := 0) (Nat.zero_le _)
    have hm := List.mem_of_getElem? hc
    have := toL_pos okc (by have := (hs c hm).1; omega)
    obtain ⟨p, hp⟩ : ∃ p, p ∈ toL h c := List.exists_mem_of_length_pos this
    exact List.length_pos_of_mem (List.mem_flatMap.2 ⟨c, hm, hp⟩)
theorem flat_ge {α β : Type} {f : α → List β} : ∀ {l : List α}, (∀ x ∈ l, 1 ≤ (f x).length) → l.length ≤ (l.flatMap f).length
  | [], _ => Nat.le_refl _
  | a :: l, h => by
    have h1 := h a (List.mem_cons_self ..)
    have h2 := flat_ge (f := f) (l := l) (fun x hx => h x (List.mem_cons_of_mem _ hx))
    rw [List.flatMap_cons, List.length_append, List.length_cons]; omega
def Now (κ : Kd V) (w : World) (P : List Nat) (rest : List (List Nat)) : Prop :=
  P = [] ∧ rest = [] ∨ ∃ h R G, ∃ ts : List (Tr V h), ts ≠ [] ∧ KidsR κ R w h P ts G ∧ (∀ t ∈ ts, Ok h t ∧ 1 ≤ szT h t) ∧ (ts.flatMap (toL h)).length ≤ 100000 ∧ rest = lvl h ts
theorem Now.done {rest : List (List Nat)} (N : Now κ w P rest) (hP : P = []) : rest = [] := by
  rcases N with ⟨_, h⟩ | ⟨h, R, G, ts, hne, hK, _⟩
  · exact h
  · exact absurd (List.eq_nil_of_length_eq_zero (by have := Kids.len hK; rw [hP] at this; exact this.symm)) hne
theorem take9 {α : Type} {l : List α} {i : Nat} {d : α} (h : i < l.length) : l.take (i + 1) = l.take i ++ [l.getD i d] := by
  have e : l.getD i d = l[i] := by simp [List.getD_eq_getElem?_getD, h]
  rw [e, List.take_append_getElem]
theorem ints_take {S : List Nat} {i : Nat} (h : i < S.length) : (S.take (i + 1)).map Int.ofNat = (S.take i).map Int.ofNat ++ [((S.getD i 0 : Nat) : Int)] := by
  rw [take9 (d := 0) h, List.map_append]; rfl
theorem flat_take9 {PP : List (List Nat)} {i : Nat} (h : i < PP.length) : (PP.take (i + 1)).flatten = (PP.take i).flatten ++ PP.getD i [] := by
  rw [take9 (d := []) h, List.flatten_append]; simp
theorem oall_snoc9 {w : World} {base : Nat} {acc : List (Value × List Int)} {v : Value} {r : List Int} (h : ∀ x9 ∈ acc, Own w base 3 1 x9.1 x9.2.length (x9.2.map (Value.int .i64))) (O : Own w base 3 1 v r.length (r.map (Value.int .i64))) : ∀ x9 ∈ acc ++ [(v, r)], Own w base 3 1 x9.1 x9.2.length (x9.2.map (Value.int .i64)) := fun x hx => by
  rcases List.mem_append.1 hx with hx | hx
  · exact h x hx
  · rw [List.mem_singleton.1 hx]; exact O
theorem Now.len {rest : List (List Nat)} (N : Now κ w P rest) : P.length ≤ 100000 := by
  rcases N with ⟨h, _⟩ | ⟨h, R, G, ts, hne, hK, hO, hn, _⟩
  · rw [h]; exact Nat.zero_le _
  · have hl : P.length = ts.length := Kids.len hK
    have := flat_ge (f := toL h) (l := ts) (fun t ht => toL_pos (hO t ht).1 (hO t ht).2)
    omega
theorem flat_le {PP : List (List Nat)} {i : Nat} : ((PP.take i).flatten).length ≤ PP.flatten.length := by
  conv => rhs; rw [← List.take_append_drop i PP, List.flatten_append, List.length_append]
  omega
theorem Now.step {rest : List (List Nat)} (N : Now κ w P rest) (hP : P ≠ [])   : ∃ (S : List Nat) (PP : List (List Nat)) (rest' : List (List Nat)), rest = S :: rest' ∧ S.length = P.length ∧ PP.length = P.length ∧ (∀ i, i < P.length → NodeV κ w.heap.size w (P.getD i default) (S.getD i 0) (PP.getD i [])) ∧ Now κ w PP.flatten rest' := by
  rcases N with ⟨h1, _⟩ | ⟨h, R, G, ts, hne, hK, hO, hn, rfl⟩
  · exact absurd h1 hP
  · have hl : P.length = ts.length := Kids.len hK
    match h, ts, hne, hK, hO, hn, hl with
    | 0, ts, hne, hK, hO, hn, hl =>
      refine ⟨ts.map (szT 0), List.replicate P.length [], [], rfl, by simp [hl], by simp, fun i hi => ?_, .inl ⟨by simp, rfl⟩⟩
      have e : (List.replicate P.length ([] : List Nat)).getD i [] = [] := by simp [List.getD_eq_getElem?_getD, hi]
      rw [e]; exact leaf_views hK i hi
    | h + 1, ts, hne, hK, hO, hn, hl =>
      have hk : ∀ t ∈ ts, t.2.length = t.1.length + 1 := fun t ht => (ok_node.1 (hO t ht).1).1.1
      obtain ⟨PP, G', h1, h2, h3, h4⟩ := node_views hK hk
      refine ⟨ts.map (szT (h + 1)), PP, lvl h (ts.flatMap fun t => t.2), rfl, by simp [hl], h1, h2, .inr ⟨h, R, G', _, ?_, h3, fun t ht => ?_, by rw [List.flatMap_assoc]; exact hn, rfl⟩⟩
      · obtain ⟨t, r, rfl⟩ : ∃ t r, ts = t :: r := List.exists_cons_of_ne_nil hne
        have := hk t (List.mem_cons_self ..)
        intro e
        rw [List.flatMap_cons] at e
        have e2 := (List.append_eq_nil_iff.1 e).1
        rw [e2] at this; simp at this
      · obtain ⟨c, hc, ht⟩ := List.mem_flatMap.1 ht
        obtain ⟨j, hj, rfl⟩ := List.getElem_of_mem ht
        have hh := ok_node.1 (hO c hc).1
        exact ⟨(hh.1.2.2 j _ (List.getElem?_eq_getElem hj)).1, by have := (hh.2 _ (List.getElem_mem hj)).1; omega⟩
theorem toL_h : ∀ {h : Nat} {t : Tr V h}, Ok h t → 1 ≤ szT h t → h + 1 ≤ (toL h t).length
  | 0, t, H, h1 => h1
  | h + 1, (ks, cs), H, h1 => by
    obtain ⟨N, hs⟩ := ok_node.1 H
    have h1' : 1 ≤ ks.length := h1
    have hk : cs.length = ks.length + 1 := N.1
    match cs, hk, N, hs with
    | c :: d :: r, hk, N, hs =>
      have a := toL_h (N.2.2 0 c rfl).1 (by have := (hs c (List.mem_cons_self ..)).1; omega)
      have b := toL_pos (N.2.2 1 d rfl).1 (by have := (hs d (List.mem_cons_of_mem _ (List.mem_cons_self ..))).1; omega)
      show h + 1 + 1 ≤ ((c :: d :: r).flatMap (toL h)).length
      rw [List.flatMap_cons, List.flatMap_cons, List.length_append, List.length_append]; omega
    | [], hk, _, _ => simp at hk
    | [c], hk, _, _ => exact absurd hk (by simp only [List.length_cons, List.length_nil]; omega)
theorem ks_snoc {D : List (DP V)} {d : DP V} (ks : ∀ x9 ∈ D.map pk, Own w base 5 1 x9.1 x9.2.length (x9.2.map u8v)) (O : Own w base 5 1 d.1 d.2.1.length (d.2.1.map u8v)) : ∀ x9 ∈ (D ++ [d]).map pk, Own w base 5 1 x9.1 x9.2.length (x9.2.map u8v) := fun x hx => by
  rw [List.map_append, List.mem_append] at hx
  rcases hx with hx | hx
  · exact ks x hx
  · rw [show ([d] : List (DP V)).map pk = [pk d] from rfl, List.mem_singleton] at hx
    subst hx; exact O
theorem levels_le {o : TO V} (H : OkO o) : (levels o).length ≤ (toLO o).length := by
  match o, H with
  | none, _ => exact Nat.le_refl _
  | some ⟨h, t⟩, H => show (lvl h [t]).length ≤ _; rw [lvl_len]; exact toL_h H.1 H.2.1
theorem levels_sum {o : TO V} : ((levels o).getD ((levels o).length - 1) []).sum = (toLO o).length := by
  match o with
  | none => rfl
  | some ⟨h, t⟩ =>
    have a := lvl_last (h := h) (now := [t])
    have b : (lvl h [t]).length = h + 1 := lvl_len
    show ((lvl h [t]).getD ((lvl h [t]).length - 1) []).sum = (toL h t).length
    rw [List.getLast?_eq_getElem?] at a
    rw [List.getD_eq_getElem?_getD]
    have e : (lvl h [t])[(lvl h [t]).length - 1]? = some ((lvl h [t])[(lvl h [t]).length - 1]'(by omega)) := List.getElem?_eq_getElem (by omega)
    rw [e] at a ⊢
    simpa using a
theorem now_start {q : Nat} {h : Nat} {t : Tr V h} (T : TreeR κ R w h q t W) (H : Ok h t) (h1 : 1 ≤ szT h t) (hn : (toL h t).length ≤ 100000) : Now κ w [q] (levels (some ⟨h, t⟩ : TO V)) :=
  .inr ⟨h, R, _, [t], by simp, Kids.ins (i := 0) (Kids.nil _) (Nat.zero_le _) T (fun _ _ h => h), fun c hc => by rw [List.mem_singleton.1 hc]; exact ⟨H, h1⟩, by simpa using hn, rfl⟩
theorem sum_take9 {L : List Nat} {i : Nat} (h : i < L.length) : (L.take (i + 1)).sum = (L.take i).sum + L.getD i 0 := by
  rw [take9 (d := 0) h, List.sum_append]; simp
theorem sum_le9 {L : List Nat} {i : Nat} : (L.take i).sum ≤ L.sum := by
  conv => rhs; rw [← List.take_append_drop i L, List.sum_append]
  omega
theorem ints_at {L : List Nat} {i : Nat} : (L.map Int.ofNat).getD i 0 = ((L.getD i 0 : Nat) : Int) := by
  simp only [List.getD_eq_getElem?_getD, List.getElem?_map]
  cases L[i]? <;> rfl
theorem lev_at {LL : List (Value × List Int)} {lv : List (List Nat)} (h : LL.map Prod.snd = lv.map (fun l => l.map Int.ofNat)) (i : Nat) : (LL.getD i default).2 = (lv.getD i []).map Int.ofNat := by
  have e := congrArg (fun l => l[i]?) h
  simp only [List.getElem?_map] at e
  simp only [List.getD_eq_getElem?_getD]
  cases h1 : LL[i]? <;> cases h2 : lv[i]? <;> simp [h1, h2] at e ⊢
  · rfl
  · exact e
theorem lev_len {LL : List (Value × List Int)} {lv : List (List Nat)} (h : LL.map Prod.snd = lv.map (fun l => l.map Int.ofNat)) : LL.length = lv.length := by
  have := congrArg List.length h; simpa using this
end
end Go.Gx

/- Walks, written by a program: what each function of the translation hands back. -/
namespace Go.Proofs.Ytcpfdfejojghbaa
open Go.Gx Go.RowKit
attribute [local irreducible] wpList wpStill Code.wp Calls
open Go.Bt
theorem leafUI {p : Nat} {pv kv cv : Value} {a b : Nat} {ca cb : List Value} {L : List Nat} {B : Nat} {w : World} (hx : Bx w p 115 [pv, kv, cv]) (h2 : RdC w 0 B 2 pv a ca) (h3 : RdC w 0 B 1 kv b cb) (h4 : RdC w 0 B 1 cv L.length (L.flatMap cN)) : Ret Try.prog 81 #[(ptr p 0)] w (fun v' w' => v' = .bool (decide (L.length = 0)) ∧ w' = w) := by
 refine enter (N := 9) Try.func81 rfl rfl (by simp) fun a0 hN hd hA => ?_
 have s0 : a0.tmps.getD 0 undef = (ptr p 0) := hA 0 (by simp)
 clear hA
 refine seq_any fun K5 hK5 => one_reg (op_assign rfl (reg_nil (hK5 _ _ ?_)))
 refine seq_any fun K6 hK6 => one_reg (op_move (ev_base hN rfl s0) (op_nil (ev_hit hN rfl) (op_field fld115_2 (ev_hit hN rfl) (op_load1 (v := cv) one113 (ev_hit hN rfl) (hx.cell rfl) (op_len_rd Try.underlying113 (ev_hit hN rfl) h4 ?_)))))
 refine op_eql (ev_hit hN rfl) rfl (fun c8 => ?_) (fun c8 => ?_)
 · -- 8T
  refine op_assign (ev_hit hN rfl) ?_
  refine reg_nil (hK6 _ _ (wp_ret ?_))
  refine ret1 rfl hd (ev_hit hN rfl) ⟨_, rfl, ?_⟩
  exact ⟨congrArg Value.bool (decide_eq_true (by omega)).symm, rfl⟩
 · -- 8F
  refine op_assign (ev_hit hN rfl) ?_
  refine reg_nil (hK6 _ _ (wp_ret ?_))
  refine ret1 rfl hd (ev_hit hN rfl) ⟨_, rfl, ?_⟩
  exact ⟨congrArg Value.bool (decide_eq_false (by omega)).symm, rfl⟩

theorem sizeUI {p : Nat} {pv kv cv : Value} {a b n : Nat} {ca cb : List Value} {L : List Nat} {B : Nat} {w : World} (hx : Bx w p 115 [pv, kv, cv]) (h2 : RdC w 0 B 2 pv a ca) (h3 : RdC w 0 B 1 kv b cb) (h4 : RdC w 0 B 1 cv L.length (L.flatMap cN)) (h5 : n = if L.length = 0 then a else b) : Ret Try.prog 52 #[(ptr p 0)] w (fun v' w' => v' = .int .i64 (n : Int) ∧ w' = w) := by
 refine enter (N := 15) Try.func52 rfl rfl (by simp) fun a0 hN hd hA => ?_
 have s0 : a0.tmps.getD 0 undef = (ptr p 0) := hA 0 (by simp)
 clear hA
 refine seq_any fun K6 hK6 => one_reg (op_assign rfl ?_)
 refine reg_nil (hK6 _ _ (seq_any fun K7 hK7 => seq_any fun K8 hK8 => one_reg (op_move (ev_base hN rfl s0) (op_fn (vs := [(ptr p 0)]) ok81 ⟨(ev_hit hN rfl), trivial⟩ (Ret.flip (leafUI hx h2 h3 h4)) ?_))))
 rintro _ _ ⟨rfl, rfl⟩
 rcases Bool.eq_false_or_eq_true ((decide (L.length = 0))) with c4 | c4
 · -- 4T
  rw [c4]
  refine reg_nil (hK8 _ _ (wp_cond_true (ev_hit hN rfl) ?_))
  refine seq_any fun K9 hK9 => one_reg (op_move (ev_base hN rfl s0) (op_nil (ev_hit hN rfl) (op_field fld115_0 (ev_hit hN rfl) (op_load1 (v := pv) one48 (ev_hit hN rfl) (hx.cell rfl) (op_len_rd Try.underlying48 (ev_hit hN rfl) h2 ?_)))))
  refine op_assign (ev_hit hN rfl) ?_
  refine reg_nil (hK9 _ _ (wp_ret (then_ret ( ?_))))
  refine ret1 rfl hd (ev_hit hN rfl) ⟨_, rfl, ?_⟩
  exact ⟨by rw [h5, if_pos (of_decide_eq_true c4)], rfl⟩
 · -- 4F
  rw [c4]
  refine reg_nil (hK8 _ _ (wp_cond_false (ev_hit hN rfl) ?_))
  refine wp_skip ?_
  refine hK7 _ _ ?_
  refine seq_any fun K10 hK10 => one_reg (op_move (ev_base hN rfl s0) (op_nil (ev_hit hN rfl) (op_field fld115_1 (ev_hit hN rfl) (op_load1 (v := kv) one90 (ev_hit hN rfl) (hx.cell rfl) (op_len_rd Try.underlying90 (ev_hit hN rfl) h3 ?_)))))
  refine op_assign (ev_hit hN rfl) ?_
  refine reg_nil (hK10 _ _ (wp_ret ?_))
  refine ret1 rfl hd (ev_hit hN rfl) ⟨_, rfl, ?_⟩
  exact ⟨by rw [h5, if_neg (of_decide_eq_false c4)], rfl⟩

theorem levels0I {p : Nat} {w : World} (hx : Bx w p 71 [.pointer none]) : Ret Try.prog 33 #[(ptr p 0)] w (fun v' w' => v' = .slice none 0 0 ∧ w' = w) := by
 refine enter (N := 50) Try.func33 rfl rfl (by simp) fun a0 hN hd hA => ?_
 have s0 : a0.tmps.getD 0 undef = (ptr p 0) := hA 0 (by simp)
 clear hA
 refine seq_any fun K2 hK2 => one_reg (op_assign rfl ?_)
 refine reg_nil (hK2 _ _ (seq_any fun K3 hK3 => seq_any fun K4 hK4 => one_reg (op_move (ev_base hN rfl s0) (op_peq_some ptrt45 (ev_hit hN rfl) rfl ?_))))
 refine op_move (ev_hit hN rfl) (g_true (j := 2) (dj := 11) (b := false) rfl rfl rfl (ev_hit hN rfl) ?_)
 refine op_move (ev_base hN rfl s0) (g_true (j := 2) (dj := 11) (b := false) rfl rfl rfl (ev_hit hN rfl) ?_)
 refine op_nil (ev_hit hN rfl) (g_true (j := 2) (dj := 11) (b := false) rfl rfl rfl (ev_hit hN rfl) ?_)
 refine op_field fld71_0 (ev_hit hN rfl) (g_true (j := 2) (dj := 11) (b := false) rfl rfl rfl (ev_hit hN rfl) ?_)
 refine op_load1 (v := (Value.pointer none)) one69 (ev_hit hN rfl) (hx.cell rfl) (g_true (j := 2) (dj := 11) (b := false) rfl rfl rfl (ev_hit hN rfl) ?_)
 refine op_peq_none ptrt69 (ev_hit hN rfl) rfl ?_
 refine op_pick_f (ev_hit hN rfl) (ev_hit hN rfl) ?_
 refine reg_nil (hK4 _ _ (wp_cond_true (ev_hit hN rfl) ?_))
 refine seq_any fun K5 hK5 => one_reg (op_assign rfl (reg_nil (hK5 _ _ (wp_ret (then_ret ( ?_))))))
 refine ret1 rfl hd (ev_hit hN rfl) ⟨_, rfl, ?_⟩
 exact ⟨rfl, rfl⟩

theorem levels1I {o : TO (Int)} {p q : Nat} {w : World} (hx : Bx w p 71 [ptr q 0]) (hNow0 : Now kI w [q] (levels o)) (hlv : (levels o).length ≤ 100000) : Ret Try.prog 33 #[(ptr p 0)] w (fun v' w' => Below w.heap.size w w' ∧ ∃ LL : List (Value × List Int), Own w' w.heap.size 30 1 v' LL.length (LL.flatMap (fun x9 => [x9.1])) ∧ (∀ x9 ∈ LL, Own w' w.heap.size 3 1 x9.1 x9.2.length (x9.2.map (Value.int .i64))) ∧ LL.map Prod.snd = (levels o).map (fun l => l.map Int.ofNat)) := by
 have hb := Below.refl w.heap.size w
 refine enter (N := 50) Try.func33 rfl rfl (by simp) fun a0 hN hd hA => ?_
 have s0 : a0.tmps.getD 0 undef = (ptr p 0) := hA 0 (by simp)
 clear hA
 refine seq_any fun K7 hK7 => one_reg (op_assign rfl ?_)
 refine reg_nil (hK7 _ _ (seq_any fun K10 hK10 => seq_any fun K11 hK11 => one_reg (op_move (ev_base hN rfl s0) (op_peq_some ptrt45 (ev_hit hN rfl) rfl ?_))))
 refine op_move (ev_hit hN rfl) (g_true (j := 2) (dj := 11) (b := false) rfl rfl rfl (ev_hit hN rfl) ?_)
 refine op_move (ev_base hN rfl s0) (g_true (j := 2) (dj := 11) (b := false) rfl rfl rfl (ev_hit hN rfl) ?_)
 refine op_nil (ev_hit hN rfl) (g_true (j := 2) (dj := 11) (b := false) rfl rfl rfl (ev_hit hN rfl) ?_)
 refine op_field fld71_0 (ev_hit hN rfl) (g_true (j := 2) (dj := 11) (b := false) rfl rfl rfl (ev_hit hN rfl) ?_)
 refine op_load1 (v := (ptr q 0)) one69 (ev_hit hN rfl) (hx.cell rfl) (g_true (j := 2) (dj := 11) (b := false) rfl rfl rfl (ev_hit hN rfl) ?_)
 refine op_peq_some ptrt69 (ev_hit hN rfl) rfl ?_
 refine op_pick_f (ev_hit hN rfl) (ev_hit hN rfl) ?_
 refine reg_nil (hK11 _ _ (wp_cond_false (ev_hit hN rfl) ?_))
 refine wp_skip ?_
 refine hK10 _ _ (seq_any fun K12 hK12 => one_reg (op_assign rfl (reg_nil (hK12 _ _ (seq_any fun K13 hK13 => ?_)))))
 refine seq_any fun K14 hK14 => one_reg (op_move (ev_base hN rfl s0) (op_nil (ev_hit hN rfl) (op_field fld71_0 (ev_hit hN rfl) (op_load1 (v := (ptr q 0)) one69 (ev_hit hN rfl) (hx.cell rfl) (op_bslice (e := 69) (pv := [(0, (ptr q 0))]) (cs := [(ptr q 0)]) ⟨rfl, (ev_hit hN rfl), trivial⟩ (by kernel_rfl) ?_)))))
 intro w15 b16 lo_b16 hi_b16 hB18 E17
 have z_w15 := E17.size
 have hx := hx.keep0 E17
 have hb := below_step0 hb E17 hb.size
 refine op_assign (ev_hit hN rfl) ?_
 refine reg_nil (hK14 _ _ (wp_block ?_))
 refine loop_m (fun mz_ az_ w' => ∃ (u nv : Value) (acc : List (Value × List Int)) (P : List Nat) (rest : List (List Nat)), mz_ = rest.length ∧ (az_.tmps.getD 2 undef = (Value.slice none 0 0)) ∧ (az_.tmps.getD 3 undef = u) ∧ (az_.tmps.getD 4 undef = nv) ∧ (Now kI w P rest) ∧ (acc.map Prod.snd ++ rest.map (fun l => l.map Int.ofNat) = (levels o).map (fun l => l.map Int.ofNat)) ∧ (Below w.heap.size w w') ∧ (w15.heap.size ≤ w'.heap.size) ∧ (Bx w' p 71 [(ptr q 0)]) ∧ (∀ x9 ∈ acc, Own w' w.heap.size 3 1 x9.1 x9.2.length (x9.2.map (Value.int .i64))) ∧ (Own w' w.heap.size 30 1 u acc.length (acc.flatMap (fun x9 => [x9.1]))) ∧ (Own w' w.heap.size 69 1 nv P.length (P.flatMap cN))) _ hN hd ⟨_, _, [], [q], (levels o), rfl, (sl_hit hN rfl), (sl_hit hN rfl), (sl_hit hN rfl), hNow0, rfl, hb, (Nat.le_refl _), hx, (fun x9 hx9 => absurd hx9 List.not_mem_nil), (Own.nil _ _ _ _), (Own.ofBx (base := w.heap.size) (sz := 1) (n := 1) hB18 rfl (by decide) (by omega))⟩ ?_
 rintro _ a19 w19 hN19 hd19 ⟨u, nv, acc, P, rest, rfl, s19_2, s19_3, s19_4, hNow, hlev, hb, zl_w19, hx, hall, hO20, hO21⟩
 have z_w19 := hb.size
 refine seq_any fun K22 hK22 => seq_any fun K23 hK23 => one_reg (op_move (ev_base hN19 rfl s19_4) (op_len_rd Try.underlying113 (ev_hit hN19 rfl) hO21.rdw ?_))
 refine op_gtr (ev_hit hN19 rfl) rfl (fun c25 => ?_) (fun c25 => ?_)
 · -- 25T
  refine reg_nil (hK23 _ _ (wp_cond_true (ev_hit hN19 rfl) ?_))
  refine wp_skip ?_
  refine hK22 _ _ (wp_block ?_)
  refine seq_any fun K24 hK24 => one_reg (op_assign rfl (reg_nil (hK24 _ _ (seq_any fun K31 hK31 => one_reg ?_))))
  refine op_assign rfl (reg_nil (hK31 _ _ (seq_any fun K32 hK32 => seq_any fun K33 hK33 => one_reg (op_move (ev_base hN19 rfl s19_4) ?_))))
  have hPn := hNow.len
  obtain ⟨S, PP, rest2, hr2, hS, hPP, hV, hNx⟩ := hNow.step (fun e => by rw [e] at c25; exact absurd c25 (by decide))
  have hFn := hNx.len
  have hfl : ∀ j, ((PP.take j).flatten).length ≤ PP.flatten.length := fun j => flat_le
  refine op_len_rd Try.underlying113 (ev_hit hN19 rfl) hO21.rdw ?_
  refine op_move rfl (reg_nil (hK33 _ _ (wp_block ?_)))
  refine loop_m (fun mz_ az_ w' => ∃ (i : Nat) (szv xv : Value), mz_ = P.length - i ∧ (az_.tmps.getD 2 undef = (Value.slice none 0 0)) ∧ (az_.tmps.getD 3 undef = u) ∧ (az_.tmps.getD 4 undef = nv) ∧ (az_.tmps.getD 26 undef = nv) ∧ (az_.tmps.getD 27 undef = (Value.int .i64 ((P.length : Nat) : Int))) ∧ (az_.tmps.getD 28 undef = (Value.int .i64 ((i : Nat) : Int))) ∧ (az_.tmps.getD 5 undef = szv) ∧ (az_.tmps.getD 6 undef = xv) ∧ (i ≤ P.length) ∧ (∀ x9 ∈ acc, DJ x9.1 szv) ∧ (DJ nv xv) ∧ (Below w.heap.size w w') ∧ (w19.heap.size ≤ w'.heap.size) ∧ (Bx w' p 71 [(ptr q 0)]) ∧ (∀ x9 ∈ acc, Own w' w.heap.size 3 1 x9.1 x9.2.length (x9.2.map (Value.int .i64))) ∧ (Own w' w.heap.size 30 1 u acc.length (acc.flatMap (fun x9 => [x9.1]))) ∧ (Own w' w.heap.size 69 1 nv P.length (P.flatMap cN)) ∧ (Own w' w.heap.size 3 1 szv i (((S.take i).map Int.ofNat).map (Value.int .i64))) ∧ (Own w' w.heap.size 69 1 xv ((PP.take i).flatten).length (((PP.take i).flatten).flatMap cN))) _ hN19 hd19 ⟨0, _, _, rfl, (sl_base hN19 rfl s19_2), (sl_base hN19 rfl s19_3), (sl_base hN19 rfl s19_4), (sl_hit hN19 rfl), (sl_hit hN19 rfl), (sl_hit hN19 rfl), (sl_hit hN19 rfl), (sl_hit hN19 rfl), (Nat.zero_le _), (fun x9 _ => dj_nil x9.1), (dj_nil _), hb, (Nat.le_refl _), hx, hall, hO20, hO21, (Own.nil _ _ _ _), (Own.nil _ _ _ _)⟩ ?_
  rintro _ a34 w34 hN34 hd34 ⟨i, szv, xv, rfl, s34_2, s34_3, s34_4, s34_26, s34_27, s34_28, s34_5, s34_6, hi, djs, djx, hb, zl_w34, hx, hall, hO20, hO21, hO35, hO36⟩
  have z_w34 := hb.size
  refine seq_any fun K37 hK37 => ?_
  refine one_reg (op_lss (ev_base hN34 rfl s34_28) (ev_base hN34 rfl s34_27) (fun c29 => ?_) (fun c29 => ?_))
  · -- 29T
   refine reg_nil (hK37 _ _ (seq_any fun K38 hK38 => wp_cond_true (ev_hit hN34 rfl) ?_))
   refine wp_skip ?_
   refine hK38 _ _ (seq_any fun K39 hK39 => wp_block ?_)
   refine seq_any fun K40 hK40 => one_reg (op_index_rd slt113 (ev_base hN34 rfl s34_26) hO21.rdw (ev_base hN34 rfl s34_28) (by omega) (by omega) ?_)
   intro b41 o42 h0b41 h1b41 hc43
   refine op_load1 (v := (ptr (P.getD i default) 0)) one69 (ev_hit hN34 rfl) (by have := hc43 0 (ptr (P.getD i default) 0) (by decide) (el_pn (i := i) (by omega) (by first | omega | (simp only [List.length_drop, List.length_take]; omega))); simpa using this) (op_assign (ev_hit hN34 rfl) ?_)
   refine reg_nil (hK40 _ _ (seq_any fun K44 hK44 => one_reg (op_move (ev_base hN34 rfl s34_5) ?_)))
   obtain ⟨hpB46, pv46, kv46, cv46, a_46, b_46, ca46, cb46, hx46, h2_46, h3_46, h4_46, h5_46⟩ := (hV i (by omega)).below hb
   have hx46 : Bx w34 (P.getD i default) 115 [pv46, kv46, cv46] := hx46
   refine op_move (ev_hit hN34 rfl) (op_fn (vs := [(ptr (P.getD i default) 0)]) ok52 ⟨(ev_hit hN34 rfl), trivial⟩ (Ret.flip (sizeUI hx46 h2_46 h3_46 h4_46 h5_46)) ?_)
   rintro _ _ ⟨rfl, rfl⟩
   refine op_bslice (e := 3) (pv := [(0, (Value.int .i64 (((S.getD i 0) : Nat) : Int)))]) (cs := [(Value.int .i64 (((S.getD i 0) : Nat) : Int))]) ⟨rfl, (ev_hit hN34 rfl), trivial⟩ (by kernel_rfl) ?_
   intro w47 b48 lo_b48 hi_b48 hB50 E49
   have z_w47 := E49.size
   have hx := hx.keep0 E49
   have hall := all9 hall fun _ h => h.keep0 E49
   have hO20 := hO20.keep0 E49
   have hO21 := hO21.keep0 E49
   have hO35 := hO35.keep0 E49
   have hO36 := hO36.keep0 E49
   have hx46 := hx46.keep0 E49
   have h4_46 := h4_46.keep0 E49
   have hb := below_step0 hb E49 hb.size
   have hfl1 := hfl i
   have hfl2 := hfl (i + 1)
   have hfl3 : ((PP.take (i + 1)).flatten).length = ((PP.take i).flatten).length + (PP.getD i []).length := by rw [flat_take9 (by omega), List.length_append]
   have hP57 := hO35
   refine op_append slt30 (ev_hit hN34 rfl) hP57 (ev_hit hN34 rfl) (Src.ofRd Try.underlying30 (by decide) (RdC.ofBx (sz := 1) (n := 1) hB50 rfl (by decide)) (by simp [Value.oneCell', u8v])) (by unfold maxLen; omega) (by omega) hb.size ?_
   intro v51 w53 hO55 E54 hm56
   have dja58 : ∀ x9 ∈ acc, DJ x9.1 v51 := fun x9 hx9 => DJ.step hm56 (fun k hk => ((hall x9 hx9).lt k hk).2) (djs x9 hx9)
   have z_w53 := E54.size
   have hx := hx.keepO hP57 E54 (by decide)
   have hall : ∀ x9 ∈ acc, Own w53 w.heap.size 3 1 x9.1 x9.2.length (x9.2.map (Value.int .i64)) := fun x9 hx9 => (hall x9 hx9).keepD E54 (djs x9 hx9)
   have hO20 := hO20.keepT hP57 E54 (by decide)
   have hO21 := hO21.keepT hP57 E54 (by decide)
   have hO36 := hO36.keepT hP57 E54 (by decide)
   have hx46 := hx46.keepO hP57 E54 (by decide)
   have h4_46 := h4_46.keepO hP57 E54 (by omega)
   have hb := below_stepO hb hP57 E54 hb.size (by omega)
   have hO55 : Own w53 w.heap.size 3 1 v51 (i + 1) (((((S.take i).map Int.ofNat) ++ [(((S.getD i 0) : Nat) : Int)])).map (Value.int .i64)) := by simpa [u8v, sv] using hO55
   refine op_assign (ev_hit hN34 rfl) ?_
   refine reg_nil ?_
   refine hK44 _ _ (one_reg (op_move (ev_base hN34 rfl s34_6) (op_move (ev_hit hN34 rfl) (op_nil (ev_hit hN34 rfl) (op_field fld115_2 (ev_hit hN34 rfl) (op_load1 (v := cv46) one113 (ev_hit hN34 rfl) (hx46.cell rfl) ?_))))))
   have hP65 := hO36
   refine op_append slt113 (ev_hit hN34 rfl) hP65 (ev_hit hN34 rfl) (Src.ofRd Try.underlying113 (by decide) h4_46 (one_pn _)) (by unfold maxLen; omega) (by omega) hb.size ?_
   intro v59 w60 hO62 E61 hm63
   have dj66 : DJ nv v59 := DJ.step hm63 (fun k hk => (hO21.lt k hk).2) djx
   have z_w60 := E61.size
   have hx := hx.keepO hP65 E61 (by decide)
   have hall := all9 hall fun _ h => h.keepT hP65 E61 (by decide)
   have hO20 := hO20.keepT hP65 E61 (by decide)
   have hO21 := hO21.keepD E61 djx
   have hO55 := hO55.keepT hP65 E61 (by decide)
   have hb := below_stepO hb hP65 E61 hb.size (by omega)
   have hO62 : Own w60 w.heap.size 69 1 v59 (((PP.take i).flatten).length + (PP.getD i []).length) (((((PP.take i).flatten) ++ (PP.getD i []))).flatMap cN) := by simpa [u8v, sv] using hO62
   refine op_assign (ev_hit hN34 rfl) ?_
   refine reg_nil (hK39 _ _ (one_reg (op_add (ev_base hN34 rfl s34_28) rfl (add64 (by omega)) ?_)))
   refine op_move (ev_hit hN34 rfl) (reg_nil ?_)
   -- round 25T 29T
   exact loop_next _ hN34 hd34 ⟨(i + 1), _, _, rfl, (sl_base hN34 rfl s34_2), (sl_base hN34 rfl s34_3), (sl_base hN34 rfl s34_4), (sl_base hN34 rfl s34_26), (sl_base hN34 rfl s34_27), (sl_hit hN34 rfl).trans (congrArg (Value.int .i64) (by omega)), (sl_hit hN34 rfl), (sl_hit hN34 rfl), (by omega), dja58, dj66, hb, (by omega), hx, hall, hO20, hO21, (hO55.cast (by omega) (by rw [ints_take (by omega)] <;> simp)), (hO62.cast (by rw [flat_take9 (by omega)] <;> simp) (by rw [flat_take9 (by omega)] <;> simp))⟩ (by omega)
  · -- 29F
   refine reg_nil (hK37 _ _ (seq_any fun K67 hK67 => wp_cond_false (ev_hit hN34 rfl) ?_))
   refine wp_exit (then_exit (then_exit (blk_hit ?_)))
   refine hK32 _ _ (one_reg ?_)
   have hal : acc.length + rest.length = (levels o).length := by have := congrArg List.length hlev; simpa using this
   refine op_move (ev_base hN34 rfl s34_3) (op_move (ev_base hN34 rfl s34_5) (op_bslice (e := 30) (pv := [(0, szv)]) (cs := [szv]) ⟨rfl, (ev_hit hN34 rfl), trivial⟩ (by obtain ⟨_, _, _, rfl⟩ := hO35.sl; kernel_rfl) ?_))
   intro w68 b70 lo_b70 hi_b70 hB73 E72
   have z_w68 := E72.size
   have hx := hx.keep0 E72
   have hall := all9 hall fun _ h => h.keep0 E72
   have hO20 := hO20.keep0 E72
   have hO35 := hO35.keep0 E72
   have hO36 := hO36.keep0 E72
   have hb := below_step0 hb E72 hb.size
   have hP79 := hO20
   refine op_append slt28 (ev_hit hN34 rfl) hP79 (ev_hit hN34 rfl) (Src.ofRd Try.underlying28 (by decide) (RdC.ofBx (sz := 1) (n := 1) hB73 rfl (by decide)) (by simp only [List.all_cons, List.all_nil, Bool.true_and, Bool.and_true, hO35.one]; try rfl)) (by unfold maxLen; omega) (by omega) hb.size ?_
   intro v74 w75 hO77 E76 hm78
   have z_w75 := E76.size
   have hx := hx.keepO hP79 E76 (by decide)
   have hall := all9 hall fun _ h => h.keepT hP79 E76 (by decide)
   have hO35 := hO35.keepT hP79 E76 (by decide)
   have hO36 := hO36.keepT hP79 E76 (by decide)
   have hb := below_stepO hb hP79 E76 hb.size (by omega)
   have hO77 : Own w75 w.heap.size 30 1 v74 (acc.length + 1) ((acc.flatMap (fun x9 => [x9.1]) ++ [szv])) := by simpa [u8v, sv] using hO77
   refine op_move (ev_base hN34 rfl s34_6) (op_assign (ev_hit hN34 rfl) ?_)
   refine op_assign (ev_hit hN34 rfl) ?_
   refine reg_nil (blk_normal ?_)
   -- round 25T 29F
   exact loop_next _ hN34 hd34 ⟨_, _, (acc ++ [(szv, S.map Int.ofNat)]), PP.flatten, rest2, rfl, (sl_base hN34 rfl s34_2), (sl_hit hN34 rfl), (sl_hit hN34 rfl), hNx, (by rw [← hlev, hr2]; simp), hb, (by omega), hx, (oall_snoc9 hall (hO35.cast (by simp; omega) (by rw [List.take_of_length_le (by omega)]))), (hO77.cast (by simp) (by simp)), (hO36.cast (by rw [List.take_of_length_le (by omega)]) (by rw [List.take_of_length_le (by omega)]))⟩ (by rw [hr2]; simp)
 · -- 25F
  refine reg_nil (hK23 _ _ (wp_cond_false (ev_hit hN19 rfl) ?_))
  refine wp_exit (then_exit (then_exit (blk_hit ?_)))
  refine hK13 _ _ (seq_any fun K80 hK80 => one_reg (op_move (ev_base hN19 rfl s19_3) (op_assign (ev_hit hN19 rfl) ?_)))
  refine reg_nil (hK80 _ _ (wp_ret ?_))
  refine ret1 rfl hd19 (ev_hit hN19 rfl) ⟨_, rfl, ?_⟩
  have hP0 : P = [] := List.eq_nil_of_length_eq_zero (by omega)
  have hr0 := hNow.done hP0
  exact ⟨hb, acc, hO20, hall, by rw [← hlev, hr0]; simp⟩

end Go.Proofs.Ytcpfdfejojghbaa
