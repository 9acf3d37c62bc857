/- Walks, written by a program: what each function of the translation hands back. -/
import Derived.Test.YtmhdbphpmgjpcaaB2
namespace Go.Proofs.Ytmhdbphpmgjpcaa
open Go.Gx Go.RowKit
attribute [local irreducible] wpList wpStill Code.wp Calls

theorem addS {base p : Nat} {la rv wv : Value} {lab : List UInt16} {stp : Int} {D : List RD} {Wr : List (List UInt8)} {dm : Bool} {x : List UInt8} {w : World} (hbase : base ≤ w.heap.size) (hx : Bx w p 164 [la, .int .u64 stp, rv, wv, .bool dm]) (hLa : Own w base 46 1 la lab.length (lab.map u16v)) (hR : Own w base 169 2 rv D.length (D.flatMap cellsRd)) (hD : ∀ x9 ∈ D.map rdL, Own w base 46 1 x9.1 x9.2.length (x9.2.map u16v)) (hW : Own w base 9 1 wv Wr.length (Wr.map sv)) (h8 : lab.length ≤ 8 ∧ ∀ r ∈ D, r.lab.length ≤ 8) (hn9 : Wr.length ≤ 100000) : Ret Try.prog 103 #[(ptr p 3), (Value.string (bs x)), (Value.func (.func 104) #[] #[])] w (fun v' w' => Gr w w' (fun y => y = p ∨ Bl wv y) ∧ ∃ wv', Bx w' p 164 [la, .int .u64 stp, rv, wv', .bool dm] ∧ Own w' base 9 1 wv' (addW Wr x).length ((addW Wr x).map sv) ∧ (∀ y, Bl wv' y → Bl wv y ∨ w.heap.size ≤ y)) := by
 have hi_p := hx.lt
 have hb := Gr.refl w (fun y => y = p ∨ Bl wv y)
 refine enter (N := 23) Try.func103 rfl rfl (by simp) fun a0 hN hd hA => ?_
 have s0 : a0.tmps.getD 0 undef = (ptr p 3) := hA 0 (by simp)
 have s1 : a0.tmps.getD 1 undef = (Value.string (bs x)) := hA 1 (by simp)
 have s2 : a0.tmps.getD 2 undef = (Value.func (.func 104) #[] #[]) := hA 2 (by simp)
 clear hA
 refine seq_any fun K1 hK1 => ?_
 refine one_reg ?_
 refine op_box (cs := [(Value.string (bs x))]) (ev_base hN rfl s1) rfl ?_
 intro w2 b3 lo_b3 hi_b3 hB5 E4
 have ne_b3_wv : wv.ownBlock ≠ some b3 := fun hh => by have := (hW.lt _ hh).2; omega
 have z_w2 := E4.size
 have hx := hx.keep0 E4
 have hLa := hLa.keep0 E4
 have hR := hR.keep0 E4
 have hD : ∀ x9 ∈ (D.map rdL), Own w2 base 46 1 x9.1 x9.2.length (x9.2.map u16v) := fun x9 hx9 => (hD x9 hx9).keep0 E4
 have hW := hW.keep0 E4
 have hb := hb.step0 E4
 refine op_box (cs := [(Value.func (.func 104) #[] #[])]) (ev_base hN rfl s2) rfl ?_
 intro w6 b7 lo_b7 hi_b7 hB9 E8
 have z_w6 := E8.size
 have hx := hx.keep0 E8
 have hLa := hLa.keep0 E8
 have hR := hR.keep0 E8
 have hD : ∀ x9 ∈ (D.map rdL), Own w6 base 46 1 x9.1 x9.2.length (x9.2.map u16v) := fun x9 hx9 => (hD x9 hx9).keep0 E8
 have hW := hW.keep0 E8
 have hB5 := hB5.keep0 E8
 have hb := hb.step0 E8
 refine reg_nil ?_
 refine hK1 _ _ ?_
 refine seq_any fun K10 hK10 => ?_
 refine one_reg ?_
 refine op_move (ev_base hN rfl s0) ?_
 refine op_nil (ev_hit hN rfl) ?_
 refine op_field fld162_0 (ev_hit hN rfl) ?_
 refine op_load1 (v := wv) one26 (ev_hit hN rfl) (hx.cell rfl) ?_
 refine op_mkfn (cv := [(ptr b7 0), (ptr b3 0)]) ⟨(ev_hit hN rfl), ⟨(ev_hit hN rfl), trivial⟩⟩ ?_
 refine op_fn (vs := [wv, (Value.func (.func 128) #[] #[(ptr b7 0), (ptr b3 0)])]) ok124 ⟨(ev_hit hN rfl), ⟨(ev_hit hN rfl), trivial⟩⟩ (ContF_s (g := 128) (fs := []) (cs := [(ptr b7 0), (ptr b3 0)]) (p := (fun y => decide (x = y))) (hW.rdw.mono (Nat.zero_le _) (by omega)) ok128 (fun i hi w1 E => addS1 (hB9.keep0 (grown_of_below E)) (hB5.keep0 (grown_of_below E)))) ?_
 rintro _ w11 ⟨E12, rfl⟩
 have E12 := grown_of_below E12
 have z_w11 := E12.size
 have hx := hx.keep0 E12
 have hLa := hLa.keep0 E12
 have hR := hR.keep0 E12
 have hD : ∀ x9 ∈ (D.map rdL), Own w11 base 46 1 x9.1 x9.2.length (x9.2.map u16v) := fun x9 hx9 => (hD x9 hx9).keep0 E12
 have hW := hW.keep0 E12
 have hB5 := hB5.keep0 E12
 have hB9 := hB9.keep0 E12
 have hb := hb.step0 E12
 rcases Bool.eq_false_or_eq_true ((Wr.any (fun y => decide (x = y)))) with c11 | c11
 · -- 11T
  rw [c11]
  refine op_not (ev_hit hN rfl) ?_
  refine reg_nil ?_
  refine hK10 _ _ ?_
  refine wp_cond_false (ev_hit hN rfl) ?_
  refine wp_skip ?_
  refine end_ret ?_
  refine ret0 rfl hd  ⟨_, rfl, ?_⟩
  -- path 11T
  have ha : addW Wr x = Wr := if_pos c11
  exact ⟨hb, wv, hx, hW.cast (by rw [ha]) (by rw [ha]), fun y hy => .inl hy⟩
 · -- 11F
  rw [c11]
  refine op_not (ev_hit hN rfl) ?_
  refine reg_nil ?_
  refine hK10 _ _ ?_
  refine wp_cond_true (ev_hit hN rfl) ?_
  refine reg_split (hd := [_, _, _, _, _, _, _, _]) (tl := _) 8 mixed (by kernel_rfl) rfl rfl ?_
  refine any_env (φ := phiV [(fun uz => uz = (ptr p 3)), (fun uz => uz = (ptr p 3)), (fun uz => uz = (ptr p 3)), (fun uz => uz = (ptr p 3)), (fun uz => uz = wv), (fun uz => uz = (Value.string (bs x))), (fun _ => True), (fun _ => True)]) (G := fun w' => Bx w' p 164 [la, (Value.int .u64 stp), rv, wv, (Value.bool dm)] ∧ Bx w' b3 9 [(Value.string (bs x))]) [6, 7] (by kernel_rfl) (by kernel_rfl) (by kernel_rfl) (by kernel_rfl) hN (fun w1 w2 E h => by obtain ⟨h0, h1⟩ := h; exact ⟨h0.keep0 E, h1.keep0 E⟩) ⟨hx, hB5⟩ (ObEs.cons ?_ (ObEs.cons ?_ (ObEs.cons ?_ (ObEs.cons ?_ (ObEs.cons ?_ (ObEs.cons ?_ (ObEs.pass rfl (ObEs.pass rfl (ObEs.nil))))))))) (by simp only [putsL_defers]) ?_
  ·
   intro eA aA wA hNA hGA hbsA hdpA
   have qA_0 := (hbsA 0 rfl).trans (sl_base hN rfl s0)
   refine op_move (ev_base hNA rfl qA_0) ?_
   exact obE_end rfl rfl rfl
  ·
   intro eA aA wA hNA hGA hbsA hdpA
   have qA_0 := (hbsA 0 rfl).trans (sl_base hN rfl s0)
   refine op_move (ev_base hNA rfl qA_0) ?_
   exact obE_end rfl rfl rfl
  ·
   intro eA aA wA hNA hGA hbsA hdpA
   have qA_14 : Sl aA 14 (ptr p 3) := (hdpA 1 _ 14 (by kernel_rfl) rfl rfl).2 rfl
   refine op_nil (ev_base hNA rfl qA_14) ?_
   exact obE_end rfl rfl rfl
  ·
   intro eA aA wA hNA hGA hbsA hdpA
   have qA_15 : Sl aA 15 (ptr p 3) := (hdpA 2 _ 15 (by kernel_rfl) rfl rfl).2 rfl
   refine op_field fld162_0 (ev_base hNA rfl qA_15) ?_
   exact obE_end rfl rfl rfl
  ·
   intro eA aA wA hNA hGA hbsA hdpA
   have qA_16 : Sl aA 16 (ptr p 3) := (hdpA 3 _ 16 (by kernel_rfl) rfl rfl).2 rfl
   obtain ⟨hx, hB5⟩ := hGA
   refine op_load1 (v := wv) one26 (ev_base hNA rfl qA_16) (hx.cell rfl) ?_
   exact obE_end rfl rfl rfl
  ·
   intro eA aA wA hNA hGA hbsA hdpA
   have qA_4 := (hbsA 4 rfl).trans (sl_hit hN rfl)
   obtain ⟨hx, hB5⟩ := hGA
   refine op_load1 (v := (Value.string (bs x))) one9 (ev_base hNA rfl qA_4) (hB5.cell rfl) ?_
   exact obE_end rfl rfl rfl
  ·
   intro w13 E13 _ a13 hN13 hbs13 hdp13 o_ ho_; obtain rfl := Option.some.inj ho_
   have z_w13 := E13.size
   have hx := hx.keep0 E13
   have hLa := hLa.keep0 E13
   have hR := hR.keep0 E13
   have hD : ∀ x9 ∈ (D.map rdL), Own w13 base 46 1 x9.1 x9.2.length (x9.2.map u16v) := fun x9 hx9 => (hD x9 hx9).keep0 E13
   have hW := hW.keep0 E13
   have hB5 := hB5.keep0 E13
   have hB9 := hB9.keep0 E13
   have hb := hb.step0 E13
   have q13_18 : Sl a13 18 (Value.string (bs x)) := (hdp13 5 _ 18 (by kernel_rfl) rfl rfl).2 rfl
   refine op_bslice (e := 9) (pv := [(0, (Value.string (bs x)))]) (cs := [(Value.string (bs x))]) ⟨rfl, (ev_base hN13 rfl q13_18), trivial⟩ (by kernel_rfl) ?_
   intro w14 b15 lo_b15 hi_b15 hB17 E16
   have ne_b15_wv : wv.ownBlock ≠ some b15 := fun hh => by have := (hW.lt _ hh).2; omega
   have z_w14 := E16.size
   have hx := hx.keep0 E16
   have hLa := hLa.keep0 E16
   have hR := hR.keep0 E16
   have hD : ∀ x9 ∈ (D.map rdL), Own w14 base 46 1 x9.1 x9.2.length (x9.2.map u16v) := fun x9 hx9 => (hD x9 hx9).keep0 E16
   have hW := hW.keep0 E16
   have hB5 := hB5.keep0 E16
   have hB9 := hB9.keep0 E16
   have hb := hb.step0 E16
   refine ke_end rfl (by decide) rfl ⟨hx, hB5⟩ ?_
   intro w18 E18 _ a18 hN18 hbs18 hdp18 o_ ho_; obtain rfl := Option.some.inj ho_
   have z_w18 := E18.size
   have hx := hx.keep0 E18
   have hLa := hLa.keep0 E18
   have hR := hR.keep0 E18
   have hD : ∀ x9 ∈ (D.map rdL), Own w18 base 46 1 x9.1 x9.2.length (x9.2.map u16v) := fun x9 hx9 => (hD x9 hx9).keep0 E18
   have hW := hW.keep0 E18
   have hB5 := hB5.keep0 E18
   have hB9 := hB9.keep0 E18
   have hB17 := hB17.keep0 E18
   have hb := hb.step0 E18
   have q18_17 : Sl a18 17 wv := (hdp18 4 _ 17 (by kernel_rfl) rfl rfl).2 rfl
   have q18_19 : Sl a18 19 (Value.slice (some ⟨b15, 0, none⟩) 1 1) := (Option.some.inj ((hdp18 6 _ 19 (by kernel_rfl) rfl rfl).1 0 rfl)).symm
   have hP24 := hW
   refine op_append slt26 (ev_base hN18 rfl q18_17) hP24 (ev_base hN18 rfl q18_19) (Src.ofRd Try.underlying26 (by decide) (RdC.ofBx (sz := 1) (n := 1) hB17 rfl (by decide)) (by simp [Value.oneCell', u8v])) (by unfold maxLen; omega) (by omega) (Nat.le_trans (by assumption) hb.size) ?_
   intro v19 w20 hO22 E21 hm23
   have z_w20 := E21.size
   have hx := hx.keepO hP24 E21 (by decide)
   have hLa := hLa.keepT hP24 E21 (by decide)
   have hR := hR.keepT hP24 E21 (by decide)
   have hD : ∀ x9 ∈ (D.map rdL), Own w20 base 46 1 x9.1 x9.2.length (x9.2.map u16v) := fun x9 hx9 => (hD x9 hx9).keepT hP24 E21 (by decide)
   have hB5 := hB5.keep E21 (fun hh => ne_b3_wv hh.symm)
   have hB9 := hB9.keepO hP24 E21 (by decide)
   have hB17 := hB17.keep E21 (fun hh => ne_b15_wv hh.symm)
   have hb := hb.stepL E21 (fun _ _ h => .inr h)
   have hO22 : Own w20 base 9 1 v19 (Wr.length + 1) (((Wr ++ [x])).map sv) := by simpa [u8v, u16v, sv] using hO22
   have ne_b3_v19 : v19.ownBlock ≠ some b3 := ne_step (w1 := w18) ⟨E21, hm23⟩ (by omega) ne_b3_wv
   have ne_b15_v19 : v19.ownBlock ≠ some b15 := ne_step (w1 := w18) ⟨E21, hm23⟩ (by omega) ne_b15_wv
   refine ke_end rfl (by decide) rfl ⟨hx, hB5⟩ ?_
   intro w25 E25 a25 hN25 hd25 hbs25 hph25
   have hd25 := hd25.trans ((by simp only [putsL_defers] : _ = _).trans hd)
   have z_w25 := E25.size
   have hx := hx.keep0 E25
   have hLa := hLa.keep0 E25
   have hR := hR.keep0 E25
   have hD : ∀ x9 ∈ (D.map rdL), Own w25 base 46 1 x9.1 x9.2.length (x9.2.map u16v) := fun x9 hx9 => (hD x9 hx9).keep0 E25
   have hB5 := hB5.keep0 E25
   have hB9 := hB9.keep0 E25
   have hB17 := hB17.keep0 E25
   have hO22 := hO22.keep0 E25
   have hb := hb.step0 E25
   have s25_13 : Sl a25 13 (ptr p 3) := (hph25 0 _ 13 rfl rfl).2 rfl
   have s25_20 : Sl a25 20 v19 := (Option.some.inj ((hph25 7 _ 20 rfl rfl).1 1 rfl)).symm
   refine split_end ?_
   refine from_seq (tl := [_, _, _]) (by decide) (by kernel_rfl) rfl ?_
   refine op_nil (ev_base hN25 rfl s25_13) ?_
   refine op_field fld162_0 (ev_hit hN25 rfl) ?_
   have hx_old := hx
   refine op_store (vs := [v19]) (cs' := [la, (Value.int .u64 stp), rv, v19, (Value.bool dm)]) size26 (ev_hit hN25 rfl) (ev_base hN25 rfl s25_20) hO22.cl rfl (by simp only [List.all_cons, List.all_nil, Bool.true_and, Bool.and_true, hO22.one]; try rfl) hx (Nat.le_of_ble_eq_true rfl) rfl ?_
   intro w28 hx E29
   have z_w28 := E29.size
   have hLa := hLa.keepX hx_old E29 (by decide)
   have hR := hR.keepX hx_old E29 (by decide)
   have hD : ∀ x9 ∈ (D.map rdL), Own w28 base 46 1 x9.1 x9.2.length (x9.2.map u16v) := fun x9 hx9 => (hD x9 hx9).keepX hx_old E29 (by decide)
   have hB5 := hB5.keep E29 (fun hh => hB5.ne hx_old (by decide) (Option.some.inj hh))
   have hB9 := hB9.keep E29 (fun hh => hB9.ne hx_old (by decide) (Option.some.inj hh))
   have hB17 := hB17.keep E29 (fun hh => hB17.ne hx_old (by decide) (Option.some.inj hh))
   have hO22 := hO22.keepX hx_old E29 (by decide)
   have hb := hb.stepB E29 (.inl rfl)
   refine reg_nil ?_
   refine end_ret ?_
   refine ret0 rfl hd25  ⟨_, rfl, ?_⟩
   -- path 11F
   have ha : addW Wr x = Wr ++ [x] := if_neg (by rw [c11]; decide)
   exact ⟨hb, v19, hx, hO22.cast (by rw [ha]; simp) (by rw [ha]), sub_of_hm hm23 (by omega)⟩

theorem addRd {base p : Nat} {la rv wv : Value} {lab : List UInt16} {stp : Int} {D : List RD} {Wr : List (List UInt8)} {dm : Bool} {x : List UInt8} {l : List UInt16} {lv : Value} {w : World} (hbase : base ≤ w.heap.size) (hx : Bx w p 164 [la, .int .u64 stp, rv, wv, .bool dm]) (hLa : Own w base 46 1 la lab.length (lab.map u16v)) (hR : Own w base 169 2 rv D.length (D.flatMap cellsRd)) (hD : ∀ x9 ∈ D.map rdL, Own w base 46 1 x9.1 x9.2.length (x9.2.map u16v)) (hW : Own w base 9 1 wv Wr.length (Wr.map sv)) (h8 : lab.length ≤ 8 ∧ ∀ r ∈ D, r.lab.length ≤ 8) (hlv : Own w base 46 1 lv l.length (l.map u16v)) (hn9 : D.length ≤ 100000) : Ret Try.prog 100 #[(ptr p 2), (Value.agg #[(Value.string (bs x)), lv]), (Value.func (.func 101) #[] #[])] w (fun v' w' => Gr w w' (fun y => y = p ∨ Bl rv y) ∧ ∃ rv' D', Bx w' p 164 [la, .int .u64 stp, rv', wv, .bool dm] ∧ Own w' base 169 2 rv' D'.length (D'.flatMap cellsRd) ∧ (D' = D ∨ D' = D ++ [⟨x, lv, l⟩]) ∧ D'.map rOf = addR (D.map rOf) (x, l) ∧ (∀ y, Bl rv' y → Bl rv y ∨ w.heap.size ≤ y)) := by
 have hi_p := hx.lt
 have hb := Gr.refl w (fun y => y = p ∨ Bl rv y)
 refine enter (N := 23) Try.func100 rfl rfl (by simp) fun a0 hN hd hA => ?_
 have s0 : a0.tmps.getD 0 undef = (ptr p 2) := hA 0 (by simp)
 have s1 : a0.tmps.getD 1 undef = (Value.agg #[(Value.string (bs x)), lv]) := hA 1 (by simp)
 have s2 : a0.tmps.getD 2 undef = (Value.func (.func 101) #[] #[]) := hA 2 (by simp)
 clear hA
 refine seq_any fun K30 hK30 => ?_
 refine one_reg ?_
 refine op_box (cs := [(Value.string (bs x)), lv]) (ev_base hN rfl s1) rfl ?_
 intro w31 b32 lo_b32 hi_b32 hB34 E33
 have ne_b32_rv : rv.ownBlock ≠ some b32 := fun hh => by have := (hR.lt _ hh).2; omega
 have z_w31 := E33.size
 have hlv := hlv.keep0 E33
 have hx := hx.keep0 E33
 have hLa := hLa.keep0 E33
 have hR := hR.keep0 E33
 have hD : ∀ x9 ∈ (D.map rdL), Own w31 base 46 1 x9.1 x9.2.length (x9.2.map u16v) := fun x9 hx9 => (hD x9 hx9).keep0 E33
 have hW := hW.keep0 E33
 have hb := hb.step0 E33
 refine op_box (cs := [(Value.func (.func 101) #[] #[])]) (ev_base hN rfl s2) rfl ?_
 intro w35 b36 lo_b36 hi_b36 hB38 E37
 have z_w35 := E37.size
 have hlv := hlv.keep0 E37
 have hx := hx.keep0 E37
 have hLa := hLa.keep0 E37
 have hR := hR.keep0 E37
 have hD : ∀ x9 ∈ (D.map rdL), Own w35 base 46 1 x9.1 x9.2.length (x9.2.map u16v) := fun x9 hx9 => (hD x9 hx9).keep0 E37
 have hW := hW.keep0 E37
 have hB34 := hB34.keep0 E37
 have hb := hb.step0 E37
 refine reg_nil ?_
 refine hK30 _ _ ?_
 refine seq_any fun K39 hK39 => ?_
 refine one_reg ?_
 refine op_move (ev_base hN rfl s0) ?_
 refine op_nil (ev_hit hN rfl) ?_
 refine op_field fld160_0 (ev_hit hN rfl) ?_
 refine op_load1 (v := rv) one158 (ev_hit hN rfl) (hx.cell rfl) ?_
 refine op_mkfn (cv := [(ptr b36 0), (ptr b32 0)]) ⟨(ev_hit hN rfl), ⟨(ev_hit hN rfl), trivial⟩⟩ ?_
 refine op_fn (vs := [rv, (Value.func (.func 127) #[] #[(ptr b36 0), (ptr b32 0)])]) ok126 ⟨(ev_hit hN rfl), ⟨(ev_hit hN rfl), trivial⟩⟩ (ContF_r (g := 127) (fs := []) (cs := [(ptr b36 0), (ptr b32 0)]) (p := (fun r => decide (x = r.tab) && decide (l = r.lab))) (hR.rdw.mono (Nat.zero_le _) (by omega)) ok127 (fun i hi w1 E => addR1 (r := D.getD i default) (hB38.keep0 (grown_of_below E)) (hB34.keep0 (grown_of_below E)) ((hlv.rdw.keep0 (grown_of_below E)).mono (Nat.zero_le _) (by have := E.size; omega)) (((hD _ (List.mem_map.2 ⟨_, getD_mem hi, rfl⟩)).keep0 (grown_of_below E)).rdw.mono (Nat.zero_le _) (Nat.le_refl _)))) ?_
 rintro _ w40 ⟨E41, rfl⟩
 have E41 := grown_of_below E41
 have z_w40 := E41.size
 have hlv := hlv.keep0 E41
 have hx := hx.keep0 E41
 have hLa := hLa.keep0 E41
 have hR := hR.keep0 E41
 have hD : ∀ x9 ∈ (D.map rdL), Own w40 base 46 1 x9.1 x9.2.length (x9.2.map u16v) := fun x9 hx9 => (hD x9 hx9).keep0 E41
 have hW := hW.keep0 E41
 have hB34 := hB34.keep0 E41
 have hB38 := hB38.keep0 E41
 have hb := hb.step0 E41
 rcases Bool.eq_false_or_eq_true ((D.any (fun r => decide (x = r.tab) && decide (l = r.lab)))) with c11 | c11
 · -- 11T
  rw [c11]
  refine op_not (ev_hit hN rfl) ?_
  refine reg_nil ?_
  refine hK39 _ _ ?_
  refine wp_cond_false (ev_hit hN rfl) ?_
  refine wp_skip ?_
  refine end_ret ?_
  refine ret0 rfl hd  ⟨_, rfl, ?_⟩
  -- path 11T
  have ha : addR (D.map rOf) (x, l) = D.map rOf := if_pos (by rw [List.any_map]; exact c11)
  exact ⟨hb, rv, D, hx, hR, .inl rfl, ha.symm, fun y hy => .inl hy⟩
 · -- 11F
  rw [c11]
  refine op_not (ev_hit hN rfl) ?_
  refine reg_nil ?_
  refine hK39 _ _ ?_
  refine wp_cond_true (ev_hit hN rfl) ?_
  refine reg_split (hd := [_, _, _, _, _, _, _, _]) (tl := _) 8 mixed (by kernel_rfl) rfl rfl ?_
  refine any_env (φ := phiV [(fun uz => uz = (ptr p 2)), (fun uz => uz = (ptr p 2)), (fun uz => uz = (ptr p 2)), (fun uz => uz = (ptr p 2)), (fun uz => uz = rv), (fun uz => uz = (Value.agg #[(Value.string (bs x)), lv])), (fun _ => True), (fun _ => True)]) (G := fun w' => Bx w' p 164 [la, (Value.int .u64 stp), rv, wv, (Value.bool dm)] ∧ Bx w' b32 169 [(Value.string (bs x)), lv]) [6, 7] (by kernel_rfl) (by kernel_rfl) (by kernel_rfl) (by kernel_rfl) hN (fun w1 w2 E h => by obtain ⟨h0, h1⟩ := h; exact ⟨h0.keep0 E, h1.keep0 E⟩) ⟨hx, hB34⟩ (ObEs.cons ?_ (ObEs.cons ?_ (ObEs.cons ?_ (ObEs.cons ?_ (ObEs.cons ?_ (ObEs.cons ?_ (ObEs.pass rfl (ObEs.pass rfl (ObEs.nil))))))))) (by simp only [putsL_defers]) ?_
  ·
   intro eA aA wA hNA hGA hbsA hdpA
   have qA_0 := (hbsA 0 rfl).trans (sl_base hN rfl s0)
   refine op_move (ev_base hNA rfl qA_0) ?_
   exact obE_end rfl rfl rfl
  ·
   intro eA aA wA hNA hGA hbsA hdpA
   have qA_0 := (hbsA 0 rfl).trans (sl_base hN rfl s0)
   refine op_move (ev_base hNA rfl qA_0) ?_
   exact obE_end rfl rfl rfl
  ·
   intro eA aA wA hNA hGA hbsA hdpA
   have qA_14 : Sl aA 14 (ptr p 2) := (hdpA 1 _ 14 (by kernel_rfl) rfl rfl).2 rfl
   refine op_nil (ev_base hNA rfl qA_14) ?_
   exact obE_end rfl rfl rfl
  ·
   intro eA aA wA hNA hGA hbsA hdpA
   have qA_15 : Sl aA 15 (ptr p 2) := (hdpA 2 _ 15 (by kernel_rfl) rfl rfl).2 rfl
   refine op_field fld160_0 (ev_base hNA rfl qA_15) ?_
   exact obE_end rfl rfl rfl
  ·
   intro eA aA wA hNA hGA hbsA hdpA
   have qA_16 : Sl aA 16 (ptr p 2) := (hdpA 3 _ 16 (by kernel_rfl) rfl rfl).2 rfl
   obtain ⟨hx, hB34⟩ := hGA
   refine op_load1 (v := rv) one158 (ev_base hNA rfl qA_16) (hx.cell rfl) ?_
   exact obE_end rfl rfl rfl
  ·
   intro eA aA wA hNA hGA hbsA hdpA
   have qA_4 := (hbsA 4 rfl).trans (sl_hit hN rfl)
   obtain ⟨hx, hB34⟩ := hGA
   refine op_loadA (cs := [(Value.string (bs x)), lv]) agg169 rfl (ev_base hNA rfl qA_4) (fun j u hu => by rw [Nat.zero_add]; exact hB34.cell hu) ?_
   exact obE_end rfl rfl rfl
  ·
   intro w42 E42 _ a42 hN42 hbs42 hdp42 o_ ho_; obtain rfl := Option.some.inj ho_
   have z_w42 := E42.size
   have hlv := hlv.keep0 E42
   have hx := hx.keep0 E42
   have hLa := hLa.keep0 E42
   have hR := hR.keep0 E42
   have hD : ∀ x9 ∈ (D.map rdL), Own w42 base 46 1 x9.1 x9.2.length (x9.2.map u16v) := fun x9 hx9 => (hD x9 hx9).keep0 E42
   have hW := hW.keep0 E42
   have hB34 := hB34.keep0 E42
   have hB38 := hB38.keep0 E42
   have hb := hb.step0 E42
   have q42_18 : Sl a42 18 (Value.agg #[(Value.string (bs x)), lv]) := (hdp42 5 _ 18 (by kernel_rfl) rfl rfl).2 rfl
   refine op_bslice (e := 169) (pv := [(0, (Value.agg #[(Value.string (bs x)), lv]))]) (cs := [(Value.string (bs x)), lv]) ⟨rfl, (ev_base hN42 rfl q42_18), trivial⟩ (by obtain ⟨_, _, _, rfl⟩ := hlv.sl; kernel_rfl) ?_
   intro w43 b44 lo_b44 hi_b44 hB46 E45
   have ne_b44_rv : rv.ownBlock ≠ some b44 := fun hh => by have := (hR.lt _ hh).2; omega
   have z_w43 := E45.size
   have hlv := hlv.keep0 E45
   have hx := hx.keep0 E45
   have hLa := hLa.keep0 E45
   have hR := hR.keep0 E45
   have hD : ∀ x9 ∈ (D.map rdL), Own w43 base 46 1 x9.1 x9.2.length (x9.2.map u16v) := fun x9 hx9 => (hD x9 hx9).keep0 E45
   have hW := hW.keep0 E45
   have hB34 := hB34.keep0 E45
   have hB38 := hB38.keep0 E45
   have hb := hb.step0 E45
   refine ke_end rfl (by decide) rfl ⟨hx, hB34⟩ ?_
   intro w47 E47 _ a47 hN47 hbs47 hdp47 o_ ho_; obtain rfl := Option.some.inj ho_
   have z_w47 := E47.size
   have hlv := hlv.keep0 E47
   have hx := hx.keep0 E47
   have hLa := hLa.keep0 E47
   have hR := hR.keep0 E47
   have hD : ∀ x9 ∈ (D.map rdL), Own w47 base 46 1 x9.1 x9.2.length (x9.2.map u16v) := fun x9 hx9 => (hD x9 hx9).keep0 E47
   have hW := hW.keep0 E47
   have hB34 := hB34.keep0 E47
   have hB38 := hB38.keep0 E47
   have hB46 := hB46.keep0 E47
   have hb := hb.step0 E47
   have q47_17 : Sl a47 17 rv := (hdp47 4 _ 17 (by kernel_rfl) rfl rfl).2 rfl
   have q47_19 : Sl a47 19 (Value.slice (some ⟨b44, 0, none⟩) 1 1) := (Option.some.inj ((hdp47 6 _ 19 (by kernel_rfl) rfl rfl).1 0 rfl)).symm
   have hP53 := hR
   refine op_append slt158 (ev_base hN47 rfl q47_17) hP53 (ev_base hN47 rfl q47_19) (Src.ofRd Try.underlying158 (by decide) (RdC.ofBx (sz := 2) (n := 1) hB46 rfl (by decide)) (by simp only [List.all_cons, List.all_nil, Bool.true_and, Bool.and_true, hlv.one]; try rfl)) (by unfold maxLen; omega) (by omega) (Nat.le_trans (by assumption) hb.size) ?_
   intro v48 w49 hO51 E50 hm52
   have z_w49 := E50.size
   have hlv := hlv.keepT hP53 E50 (by decide)
   have hx := hx.keepO hP53 E50 (by decide)
   have hLa := hLa.keepT hP53 E50 (by decide)
   have hD : ∀ x9 ∈ (D.map rdL), Own w49 base 46 1 x9.1 x9.2.length (x9.2.map u16v) := fun x9 hx9 => (hD x9 hx9).keepT hP53 E50 (by decide)
   have hW := hW.keepT hP53 E50 (by decide)
   have hB34 := hB34.keep E50 (fun hh => ne_b32_rv hh.symm)
   have hB38 := hB38.keepO hP53 E50 (by decide)
   have hB46 := hB46.keep E50 (fun hh => ne_b44_rv hh.symm)
   have hb := hb.stepL E50 (fun _ _ h => .inr h)
   have hO51 : Own w49 base 169 2 v48 (D.length + 1) ((D.flatMap cellsRd ++ [(Value.string (bs x)), lv])) := by simpa [u8v, u16v, sv] using hO51
   have ne_b32_v48 : v48.ownBlock ≠ some b32 := ne_step (w1 := w47) ⟨E50, hm52⟩ (by omega) ne_b32_rv
   have ne_b44_v48 : v48.ownBlock ≠ some b44 := ne_step (w1 := w47) ⟨E50, hm52⟩ (by omega) ne_b44_rv
   refine ke_end rfl (by decide) rfl ⟨hx, hB34⟩ ?_
   intro w54 E54 a54 hN54 hd54 hbs54 hph54
   have hd54 := hd54.trans ((by simp only [putsL_defers] : _ = _).trans hd)
   have z_w54 := E54.size
   have hlv := hlv.keep0 E54
   have hx := hx.keep0 E54
   have hLa := hLa.keep0 E54
   have hD : ∀ x9 ∈ (D.map rdL), Own w54 base 46 1 x9.1 x9.2.length (x9.2.map u16v) := fun x9 hx9 => (hD x9 hx9).keep0 E54
   have hW := hW.keep0 E54
   have hB34 := hB34.keep0 E54
   have hB38 := hB38.keep0 E54
   have hB46 := hB46.keep0 E54
   have hO51 := hO51.keep0 E54
   have hb := hb.step0 E54
   have s54_13 : Sl a54 13 (ptr p 2) := (hph54 0 _ 13 rfl rfl).2 rfl
   have s54_20 : Sl a54 20 v48 := (Option.some.inj ((hph54 7 _ 20 rfl rfl).1 1 rfl)).symm
   refine split_end ?_
   refine from_seq (tl := [_, _, _]) (by decide) (by kernel_rfl) rfl ?_
   refine op_nil (ev_base hN54 rfl s54_13) ?_
   refine op_field fld160_0 (ev_hit hN54 rfl) ?_
   have hx_old := hx
   refine op_store (vs := [v48]) (cs' := [la, (Value.int .u64 stp), v48, wv, (Value.bool dm)]) size158 (ev_hit hN54 rfl) (ev_base hN54 rfl s54_20) hO51.cl rfl (by simp only [List.all_cons, List.all_nil, Bool.true_and, Bool.and_true, hO51.one]; try rfl) hx (Nat.le_of_ble_eq_true rfl) rfl ?_
   intro w57 hx E58
   have z_w57 := E58.size
   have hlv := hlv.keepX hx_old E58 (by decide)
   have hLa := hLa.keepX hx_old E58 (by decide)
   have hD : ∀ x9 ∈ (D.map rdL), Own w57 base 46 1 x9.1 x9.2.length (x9.2.map u16v) := fun x9 hx9 => (hD x9 hx9).keepX hx_old E58 (by decide)
   have hW := hW.keepX hx_old E58 (by decide)
   have hB34 := hB34.keep E58 (fun hh => hB34.ne hx_old (by decide) (Option.some.inj hh))
   have hB38 := hB38.keep E58 (fun hh => hB38.ne hx_old (by decide) (Option.some.inj hh))
   have hB46 := hB46.keep E58 (fun hh => hB46.ne hx_old (by decide) (Option.some.inj hh))
   have hO51 := hO51.keepX hx_old E58 (by decide)
   have hb := hb.stepB E58 (.inl rfl)
   refine reg_nil ?_
   refine end_ret ?_
   refine ret0 rfl hd54  ⟨_, rfl, ?_⟩
   -- path 11F
   have ha : addR (D.map rOf) (x, l) = D.map rOf ++ [(x, l)] := if_neg (by rw [List.any_map]; intro h9; exact absurd (h9.symm.trans c11) (by decide))
   exact ⟨hb, v48, _, hx, hO51.cast (by simp) (by simp [List.flatMap_append, cellsRd]), .inr rfl, by rw [ha]; simp [rOf], sub_of_hm hm52 (by omega)⟩

end Go.Proofs.Ytmhdbphpmgjpcaa

/- Locks as objects, the part L6. -/
namespace Go.Proofs.Ytmhdbphpmgjpcaa
open Go.Gx Go.RowKit

theorem apart_pw {w : World} {base p e sz n : Nat} {v u : Value} {cs cs2 tc : List Value} {e2 sz2 n2 : Nat} (O : Own w base e sz v n cs) (hx : Bx w p 164 tc) (O2 : Own w base e2 sz2 u n2 cs2) (h1 : e ≠ 164) (h2 : e ≠ e2) : Dj (Bl v) (fun y => y = p ∨ Bl u y) := fun y hy hf => by
  rcases hf with rfl | hf
  · exact O.neB hx (fun q => h1 q.symm) hy
  · exact O.notOwn O2 h2 y hy hf
theorem addS_T {w : World} {base p : Nat} {t : TX} {F : Nat → Prop} (x : List UInt8) (h : TxR w base p t F) (hbase : base ≤ w.heap.size) (ht : TOk t) (hn : t.writes.length ≤ 100000) :
    Ret Try.prog 103 #[ptr p 3, .string (bs x), (Value.func (.func 104) #[] #[])] w (fun v' w' => Gr w w' F ∧ ∃ F', TxR w' base p { t with writes := addW t.writes x } F' ∧ ∀ y, F' y → F y ∨ w.heap.size ≤ y) := by
  obtain ⟨la, rv, wv, D, h0, hx, hL, hR, hD, hW, hDe, hF⟩ := h.parts
  refine (addS (x := x) hbase hx hL hR hD hW ⟨ht.1, ht.rd hDe⟩ hn).mono fun v' w' q => ?_
  obtain ⟨E, wv', hx', hW', hsub⟩ := q
  refine ⟨E.mono fun y _ hy => (hF y).2 ?_, _, TxR.mk' (T := { t with writes := addW t.writes x }) h0 hx' (hL.keepG E (apart_pw hL hx hW (by decide) (by decide))) (hR.keepG E (apart_pw hR hx hW (by decide) (by decide))) (fun x9 hx9 => (hD x9 hx9).keepG E (apart_pw (hD x9 hx9) hx hW (by decide) (by decide))) hW' hDe, fun y hy => ?_⟩
  · rcases hy with hy | hy
    · exact .inl hy
    · exact .inr (.inr (.inr (.inl hy)))
  · rcases hy with hy | hy | hy | hy | hy
    · exact .inl ((hF y).2 (.inl hy))
    · exact .inl ((hF y).2 (.inr (.inl hy)))
    · exact .inl ((hF y).2 (.inr (.inr (.inl hy))))
    · exact (hsub y hy).imp (fun q => (hF y).2 (.inr (.inr (.inr (.inl q))))) id
    · exact .inl ((hF y).2 (.inr (.inr (.inr (.inr hy)))))
theorem addR_T {w : World} {base p : Nat} {t : TX} {F : Nat → Prop} (x : List UInt8) {l : List UInt16} {lv : Value} (h : TxR w base p t F) (hlv : Own w base 46 1 lv l.length (l.map u16v)) (hbase : base ≤ w.heap.size) (ht : TOk t) (hn : t.reads.length ≤ 100000) :
    Ret Try.prog 100 #[ptr p 2, .agg #[.string (bs x), lv], (Value.func (.func 101) #[] #[])] w (fun v' w' => Gr w w' F ∧ ∃ F', TxR w' base p { t with reads := addR t.reads (x, l) } F' ∧ ∀ y, F' y → F y ∨ Bl lv y ∨ w.heap.size ≤ y) := by
  obtain ⟨la, rv, wv, D, h0, hx, hL, hR, hD, hW, hDe, hF⟩ := h.parts
  have hn2 : D.length ≤ 100000 := by rw [← hDe] at hn; simpa using hn
  refine (addRd (x := x) hbase hx hL hR hD hW ⟨ht.1, ht.rd hDe⟩ hlv hn2).mono fun v' w' q => ?_
  obtain ⟨E, rv', D', hx', hR', hD', hDe', hsub⟩ := q
  have hD2 : ∀ x9 ∈ D'.map rdL, Own w' base 46 1 x9.1 x9.2.length (x9.2.map u16v) := by
    intro x9 hx9
    have hold : ∀ x9 ∈ D.map rdL, Own w' base 46 1 x9.1 x9.2.length (x9.2.map u16v) := fun x9 hx9 => (hD x9 hx9).keepG E (apart_pw (hD x9 hx9) hx hR (by decide) (by decide))
    rcases hD' with rfl | rfl
    · exact hold x9 hx9
    · rw [List.map_append] at hx9
      rcases List.mem_append.1 hx9 with q | q
      · exact hold x9 q
      · obtain rfl : x9 = (lv, l) := by simpa [rdL] using q
        exact hlv.keepG E (apart_pw hlv hx hR (by decide) (by decide))
  refine ⟨E.mono fun y _ hy => (hF y).2 ?_, _, TxR.mk' (T := { t with reads := addR t.reads (x, l) }) h0 hx' (hL.keepG E (apart_pw hL hx hR (by decide) (by decide))) hR' hD2 (hW.keepG E (apart_pw hW hx hR (by decide) (by decide))) (by rw [hDe', hDe]), fun y hy => ?_⟩
  · rcases hy with hy | hy
    · exact .inl hy
    · exact .inr (.inr (.inl hy))
  · rcases hy with hy | hy | hy | hy | ⟨r, hr, hy⟩
    · exact .inl ((hF y).2 (.inl hy))
    · exact .inl ((hF y).2 (.inr (.inl hy)))
    · exact (hsub y hy).imp (fun q => (hF y).2 (.inr (.inr (.inl q)))) .inr
    · exact .inl ((hF y).2 (.inr (.inr (.inr (.inl hy)))))
    · rcases hD' with rfl | rfl
      · exact .inl ((hF y).2 (.inr (.inr (.inr (.inr ⟨r, hr, hy⟩)))))
      · rcases List.mem_append.1 hr with q | q
        · exact .inl ((hF y).2 (.inr (.inr (.inr (.inr ⟨r, q, hy⟩)))))
        · obtain rfl : r = ⟨x, lv, l⟩ := by simpa using q
          exact .inr (.inl hy)
end Go.Proofs.Ytmhdbphpmgjpcaa

/- Walks, written by a program: what each function of the translation hands back. -/
namespace Go.Proofs.Ytmhdbphpmgjpcaa
open Go.Gx Go.RowKit
attribute [local irreducible] wpList wpStill Code.wp Calls

theorem at_hit {k m p : Nat} {es : List (Int × Nat)} (n : Int) {w : World} (hk : Bx w k 121 [.map (some m)]) (hM : MapC (Value.int .i64) pv w m es) (hg : mget es n = some p) : Ret Try.prog 95 #[(ptr k 0), (Value.int .i64 n)] w (fun v' w' => v' = .tuple #[ptr p 0, .int .i64 0] ∧ w' = w) := by
 have hb := Below.refl w.heap.size w
 refine enter (N := 22) Try.func95 rfl rfl (by simp) fun a0 hN hd hA => ?_
 have s0 : a0.tmps.getD 0 undef = (ptr k 0) := hA 0 (by simp)
 have s1 : a0.tmps.getD 1 undef = (Value.int .i64 n) := hA 1 (by simp)
 clear hA
 refine seq_any fun K1 hK1 => ?_
 refine one_reg ?_
 refine op_assign rfl ?_
 refine op_assign rfl ?_
 refine reg_nil ?_
 refine hK1 _ _ ?_
 refine seq_any fun K2 hK2 => ?_
 refine seq_any fun K3 hK3 => ?_
 refine one_reg ?_
 refine op_move (ev_base hN rfl s0) ?_
 refine op_peq_some ptrt93 (ev_hit hN rfl) rfl ?_
 refine reg_nil ?_
 refine hK3 _ _ ?_
 refine wp_cond_false (ev_hit hN rfl) ?_
 refine wp_skip ?_
 refine hK2 _ _ ?_
 refine seq_any fun K4 hK4 => ?_
 refine one_reg ?_
 refine op_move (ev_base hN rfl s0) ?_
 refine op_nil (ev_hit hN rfl) ?_
 refine op_field fld121_0 (ev_hit hN rfl) ?_
 refine op_load1 (v := (Value.map (some m))) one119 (ev_hit hN rfl) (hk.cell rfl) ?_
 refine op_move (ev_base hN rfl s1) ?_
 refine op_look2_hit (k := n) (v := p) Try.underlying119 (Go.Gx.key_int Try.underlying3) zero155 (ev_hit hN rfl) (ev_hit hN rfl) hM hg ?_
 refine op_move (ev_hit hN rfl) ?_
 refine op_extract (ev_hit hN rfl) rfl ?_
 refine op_extract (ev_hit hN rfl) rfl ?_
 refine op_assign (ev_hit hN rfl) ?_
 refine op_assign (ev_hit hN rfl) ?_
 refine reg_nil ?_
 refine hK4 _ _ ?_
 refine seq_any fun K5 hK5 => ?_
 refine seq_any fun K6 hK6 => ?_
 refine one_reg ?_
 refine op_move (ev_hit hN rfl) ?_
 refine op_not (ev_hit hN rfl) ?_
 refine reg_nil ?_
 refine hK6 _ _ ?_
 refine wp_cond_false (ev_hit hN rfl) ?_
 refine wp_skip ?_
 refine hK5 _ _ ?_
 refine seq_any fun K7 hK7 => ?_
 refine one_reg ?_
 refine op_move (ev_hit hN rfl) ?_
 refine op_assign (ev_hit hN rfl) ?_
 refine op_assign rfl ?_
 refine reg_nil ?_
 refine hK7 _ _ ?_
 refine wp_ret ?_
 refine ret2 rfl hd (ev_hit hN rfl) (ev_hit hN rfl) ⟨_, rfl, ?_⟩
 -- path
 exact ⟨rfl, rfl⟩

theorem at_miss {k m : Nat} {es : List (Int × Nat)} (n : Int) {w : World} (hk : Bx w k 121 [.map (some m)]) (hM : MapC (Value.int .i64) pv w m es) (hg : mget es n = none) : Ret Try.prog 95 #[(ptr k 0), (Value.int .i64 n)] w (fun v' w' => v' = .tuple #[.pointer none, .int .i64 18] ∧ w' = w) := by
 have hb := Below.refl w.heap.size w
 refine enter (N := 22) Try.func95 rfl rfl (by simp) fun a0 hN hd hA => ?_
 have s0 : a0.tmps.getD 0 undef = (ptr k 0) := hA 0 (by simp)
 have s1 : a0.tmps.getD 1 undef = (Value.int .i64 n) := hA 1 (by simp)
 clear hA
 refine seq_any fun K8 hK8 => ?_
 refine one_reg ?_
 refine op_assign rfl ?_
 refine op_assign rfl ?_
 refine reg_nil ?_
 refine hK8 _ _ ?_
 refine seq_any fun K9 hK9 => ?_
 refine seq_any fun K10 hK10 => ?_
 refine one_reg ?_
 refine op_move (ev_base hN rfl s0) ?_
 refine op_peq_some ptrt93 (ev_hit hN rfl) rfl ?_
 refine reg_nil ?_
 refine hK10 _ _ ?_
 refine wp_cond_false (ev_hit hN rfl) ?_
 refine wp_skip ?_
 refine hK9 _ _ ?_
 refine seq_any fun K11 hK11 => ?_
 refine one_reg ?_
 refine op_move (ev_base hN rfl s0) ?_
 refine op_nil (ev_hit hN rfl) ?_
 refine op_field fld121_0 (ev_hit hN rfl) ?_
 refine op_load1 (v := (Value.map (some m))) one119 (ev_hit hN rfl) (hk.cell rfl) ?_
 refine op_move (ev_base hN rfl s1) ?_
 refine op_look2_miss (k := n) Try.underlying119 (Go.Gx.key_int Try.underlying3) zero155 (ev_hit hN rfl) (ev_hit hN rfl) hM hg ?_
 refine op_move (ev_hit hN rfl) ?_
 refine op_extract (ev_hit hN rfl) rfl ?_
 refine op_extract (ev_hit hN rfl) rfl ?_
 refine op_assign (ev_hit hN rfl) ?_
 refine op_assign (ev_hit hN rfl) ?_
 refine reg_nil ?_
 refine hK11 _ _ ?_
 refine seq_any fun K12 hK12 => ?_
 refine seq_any fun K13 hK13 => ?_
 refine one_reg ?_
 refine op_move (ev_hit hN rfl) ?_
 refine op_not (ev_hit hN rfl) ?_
 refine reg_nil ?_
 refine hK13 _ _ ?_
 refine wp_cond_true (ev_hit hN rfl) ?_
 refine seq_any fun K14 hK14 => ?_
 refine one_reg ?_
 refine op_assign rfl ?_
 refine op_assign rfl ?_
 refine reg_nil ?_
 refine hK14 _ _ ?_
 refine wp_ret (then_ret ( ?_))
 refine ret2 rfl hd (ev_hit hN rfl) (ev_hit hN rfl) ⟨_, rfl, ?_⟩
 -- path
 exact ⟨rfl, rfl⟩

theorem at_nomap {k : Nat} (n : Int) {w : World} (hk : Bx w k 121 [.map none]) : Ret Try.prog 95 #[(ptr k 0), (Value.int .i64 n)] w (fun v' w' => v' = .tuple #[.pointer none, .int .i64 18] ∧ w' = w) := by
 have hb := Below.refl w.heap.size w
 refine enter (N := 22) Try.func95 rfl rfl (by simp) fun a0 hN hd hA => ?_
 have s0 : a0.tmps.getD 0 undef = (ptr k 0) := hA 0 (by simp)
 have s1 : a0.tmps.getD 1 undef = (Value.int .i64 n) := hA 1 (by simp)
 clear hA
 refine seq_any fun K15 hK15 => ?_
 refine one_reg ?_
 refine op_assign rfl ?_
 refine op_assign rfl ?_
 refine reg_nil ?_
 refine hK15 _ _ ?_
 refine seq_any fun K16 hK16 => ?_
 refine seq_any fun K17 hK17 => ?_
 refine one_reg ?_
 refine op_move (ev_base hN rfl s0) ?_
 refine op_peq_some ptrt93 (ev_hit hN rfl) rfl ?_
 refine reg_nil ?_
 refine hK17 _ _ ?_
 refine wp_cond_false (ev_hit hN rfl) ?_
 refine wp_skip ?_
 refine hK16 _ _ ?_
 refine seq_any fun K18 hK18 => ?_
 refine one_reg ?_
 refine op_move (ev_base hN rfl s0) ?_
 refine op_nil (ev_hit hN rfl) ?_
 refine op_field fld121_0 (ev_hit hN rfl) ?_
 refine op_load1 (v := (Value.map none)) one119 (ev_hit hN rfl) (hk.cell rfl) ?_
 refine op_move (ev_base hN rfl s1) ?_
 refine op_look2_nil (k := n) Try.underlying119 (Go.Gx.key_int Try.underlying3) zero155 (ev_hit hN rfl) (ev_hit hN rfl) ?_
 refine op_move (ev_hit hN rfl) ?_
 refine op_extract (ev_hit hN rfl) rfl ?_
 refine op_extract (ev_hit hN rfl) rfl ?_
 refine op_assign (ev_hit hN rfl) ?_
 refine op_assign (ev_hit hN rfl) ?_
 refine reg_nil ?_
 refine hK18 _ _ ?_
 refine seq_any fun K19 hK19 => ?_
 refine seq_any fun K20 hK20 => ?_
 refine one_reg ?_
 refine op_move (ev_hit hN rfl) ?_
 refine op_not (ev_hit hN rfl) ?_
 refine reg_nil ?_
 refine hK20 _ _ ?_
 refine wp_cond_true (ev_hit hN rfl) ?_
 refine seq_any fun K21 hK21 => ?_
 refine one_reg ?_
 refine op_assign rfl ?_
 refine op_assign rfl ?_
 refine reg_nil ?_
 refine hK21 _ _ ?_
 refine wp_ret (then_ret ( ?_))
 refine ret2 rfl hd (ev_hit hN rfl) (ev_hit hN rfl) ⟨_, rfl, ?_⟩
 -- path
 exact ⟨rfl, rfl⟩

theorem Leave_miss {n : Int} {k m : Nat} {es : List (Int × Nat)} {w : World} (hk : Bx w k 121 [.map (some m)]) (hM : MapC (Value.int .i64) pv w m es) (hg : mget es n = none)  : Ret Try.prog 57 #[(ptr k 0), (Value.int .i64 n)] w (fun v' w' => Below w.heap.size w w' ∧ v' = .int .i64 18) := by
 have hb := Below.refl w.heap.size w
 refine enter (N := 21) Try.func57 rfl rfl (by simp) fun a0 hN hd hA => ?_
 have s0 : a0.tmps.getD 0 undef = (ptr k 0) := hA 0 (by simp)
 have s1 : a0.tmps.getD 1 undef = (Value.int .i64 n) := hA 1 (by simp)
 clear hA
 refine seq_any fun K26 hK26 => ?_
 refine one_reg ?_
 refine op_assign rfl ?_
 refine reg_nil ?_
 refine hK26 _ _ ?_
 refine seq_any fun K27 hK27 => ?_
 refine one_reg ?_
 refine op_move (ev_base hN rfl s0) ?_
 refine op_move (ev_base hN rfl s1) ?_
 refine op_fn (vs := [(ptr k 0), (Value.int .i64 n)]) ok95 ⟨(ev_hit hN rfl), ⟨(ev_hit hN rfl), trivial⟩⟩ (Ret.flip (at_miss n hk hM hg)) ?_
 rintro _ _ ⟨rfl, rfl⟩
 refine op_move (ev_hit hN rfl) ?_
 refine op_extract (ev_hit hN rfl) rfl ?_
 refine op_extract (ev_hit hN rfl) rfl ?_
 refine op_assign (ev_hit hN rfl) ?_
 refine op_assign (ev_hit hN rfl) ?_
 refine reg_nil ?_
 refine hK27 _ _ ?_
 refine seq_any fun K28 hK28 => ?_
 refine seq_any fun K29 hK29 => ?_
 refine one_reg ?_
 refine op_move (ev_hit hN rfl) ?_
 refine op_bin (v := .bool false) (ev_hit hN rfl) rfl (by rw [binOp_eql]; rfl) ?_
 refine reg_nil ?_
 refine hK29 _ _ ?_
 refine wp_cond_false (ev_hit hN rfl) ?_
 refine wp_skip ?_
 refine hK28 _ _ ?_
 refine seq_any fun K30 hK30 => ?_
 refine one_reg ?_
 refine op_move (ev_hit hN rfl) ?_
 refine op_assign (ev_hit hN rfl) ?_
 refine reg_nil ?_
 refine hK30 _ _ ?_
 refine wp_ret ?_
 refine ret1 rfl hd (ev_hit hN rfl) ⟨_, rfl, ?_⟩
 -- path
 exact ⟨hb, rfl⟩

theorem Doomed_miss {n : Int} {k m : Nat} {es : List (Int × Nat)} {w : World} (hk : Bx w k 121 [.map (some m)]) (hM : MapC (Value.int .i64) pv w m es) (hg : mget es n = none)  : Ret Try.prog 62 #[(ptr k 0), (Value.int .i64 n)] w (fun v' w' => Below w.heap.size w w' ∧ v' = .bool false) := by
 have hb := Below.refl w.heap.size w
 refine enter (N := 21) Try.func62 rfl rfl (by simp) fun a0 hN hd hA => ?_
 have s0 : a0.tmps.getD 0 undef = (ptr k 0) := hA 0 (by simp)
 have s1 : a0.tmps.getD 1 undef = (Value.int .i64 n) := hA 1 (by simp)
 clear hA
 refine seq_any fun K31 hK31 => ?_
 refine one_reg ?_
 refine op_assign rfl ?_
 refine reg_nil ?_
 refine hK31 _ _ ?_
 refine seq_any fun K32 hK32 => ?_
 refine one_reg ?_
 refine op_move (ev_base hN rfl s0) ?_
 refine op_move (ev_base hN rfl s1) ?_
 refine op_fn (vs := [(ptr k 0), (Value.int .i64 n)]) ok95 ⟨(ev_hit hN rfl), ⟨(ev_hit hN rfl), trivial⟩⟩ (Ret.flip (at_miss n hk hM hg)) ?_
 rintro _ _ ⟨rfl, rfl⟩
 refine op_move (ev_hit hN rfl) ?_
 refine op_extract (ev_hit hN rfl) rfl ?_
 refine op_extract (ev_hit hN rfl) rfl ?_
 refine op_assign (ev_hit hN rfl) ?_
 refine op_assign (ev_hit hN rfl) ?_
 refine reg_nil ?_
 refine hK32 _ _ ?_
 refine seq_any fun K33 hK33 => ?_
 refine one_reg ?_
 refine op_move (ev_hit hN rfl) ?_
 refine op_bin (v := .bool false) (ev_hit hN rfl) rfl (by rw [binOp_eql]; rfl) ?_
 refine op_move (ev_hit hN rfl) ?_
 refine g_false (j := 2) (dj := 15) (b := true) rfl rfl rfl (ev_hit hN rfl) rfl rfl ?_
 refine g_false (j := 2) (dj := 15) (b := true) rfl rfl rfl (ev_hit hN rfl) rfl rfl ?_
 refine g_false (j := 2) (dj := 15) (b := true) rfl rfl rfl (ev_hit hN rfl) rfl rfl ?_
 refine g_false (j := 2) (dj := 15) (b := true) rfl rfl rfl (ev_hit hN rfl) rfl rfl ?_
 refine op_pick_f (ev_hit hN rfl) rfl ?_
 refine op_assign (ev_hit hN rfl) ?_
 refine reg_nil ?_
 refine hK33 _ _ ?_
 refine wp_ret ?_
 refine ret1 rfl hd (ev_hit hN rfl) ⟨_, rfl, ?_⟩
 -- path
 exact ⟨hb, rfl⟩

theorem Wrote_miss {n : Int} {k m : Nat} {es : List (Int × Nat)} {w : World} (hk : Bx w k 121 [.map (some m)]) (hM : MapC (Value.int .i64) pv w m es) (hg : mget es n = none)  : Ret Try.prog 70 #[(ptr k 0), (Value.int .i64 n)] w (fun v' w' => Below w.heap.size w w' ∧ v' = .slice none 0 0) := by
 have hb := Below.refl w.heap.size w
 refine enter (N := 21) Try.func70 rfl rfl (by simp) fun a0 hN hd hA => ?_
 have s0 : a0.tmps.getD 0 undef = (ptr k 0) := hA 0 (by simp)
 have s1 : a0.tmps.getD 1 undef = (Value.int .i64 n) := hA 1 (by simp)
 clear hA
 refine seq_any fun K34 hK34 => ?_
 refine one_reg ?_
 refine op_assign rfl ?_
 refine reg_nil ?_
 refine hK34 _ _ ?_
 refine seq_any fun K35 hK35 => ?_
 refine one_reg ?_
 refine op_move (ev_base hN rfl s0) ?_
 refine op_move (ev_base hN rfl s1) ?_
 refine op_fn (vs := [(ptr k 0), (Value.int .i64 n)]) ok95 ⟨(ev_hit hN rfl), ⟨(ev_hit hN rfl), trivial⟩⟩ (Ret.flip (at_miss n hk hM hg)) ?_
 rintro _ _ ⟨rfl, rfl⟩
 refine op_move (ev_hit hN rfl) ?_
 refine op_extract (ev_hit hN rfl) rfl ?_
 refine op_extract (ev_hit hN rfl) rfl ?_
 refine op_assign (ev_hit hN rfl) ?_
 refine op_assign (ev_hit hN rfl) ?_
 refine reg_nil ?_
 refine hK35 _ _ ?_
 refine seq_any fun K36 hK36 => ?_
 refine seq_any fun K37 hK37 => ?_
 refine one_reg ?_
 refine op_move (ev_hit hN rfl) ?_
 refine op_bin (v := .bool true) (ev_hit hN rfl) rfl (by rw [binOp_neq]; rfl) ?_
 refine reg_nil ?_
 refine hK37 _ _ ?_
 refine wp_cond_true (ev_hit hN rfl) ?_
 refine seq_any fun K38 hK38 => ?_
 refine one_reg ?_
 refine op_assign rfl ?_
 refine reg_nil ?_
 refine hK38 _ _ ?_
 refine wp_ret (then_ret ( ?_))
 refine ret1 rfl hd (ev_hit hN rfl) ⟨_, rfl, ?_⟩
 -- path
 exact ⟨hb, rfl⟩

theorem Move_miss {lv : Value} {s : Int} {n : Int} {k m : Nat} {es : List (Int × Nat)} {w : World} (hk : Bx w k 121 [.map (some m)]) (hM : MapC (Value.int .i64) pv w m es) (hg : mget es n = none)  : Ret Try.prog 59 #[(ptr k 0), (Value.int .i64 n), lv, (Value.int .u64 s)] w (fun v' w' => Below w.heap.size w w' ∧ v' = .int .i64 18) := by
 have hb := Below.refl w.heap.size w
 refine enter (N := 38) Try.func59 rfl rfl (by simp) fun a0 hN hd hA => ?_
 have s0 : a0.tmps.getD 0 undef = (ptr k 0) := hA 0 (by simp)
 have s1 : a0.tmps.getD 1 undef = (Value.int .i64 n) := hA 1 (by simp)
 have s2 : a0.tmps.getD 2 undef = lv := hA 2 (by simp)
 have s3 : a0.tmps.getD 3 undef = (Value.int .u64 s) := hA 3 (by simp)
 clear hA
 refine seq_any fun K39 hK39 => ?_
 refine one_reg ?_
 refine op_assign rfl ?_
 refine reg_nil ?_
 refine hK39 _ _ ?_
 refine seq_any fun K40 hK40 => ?_
 refine one_reg ?_
 refine op_move (ev_base hN rfl s0) ?_
 refine op_move (ev_base hN rfl s1) ?_
 refine op_fn (vs := [(ptr k 0), (Value.int .i64 n)]) ok95 ⟨(ev_hit hN rfl), ⟨(ev_hit hN rfl), trivial⟩⟩ (Ret.flip (at_miss n hk hM hg)) ?_
 rintro _ _ ⟨rfl, rfl⟩
 refine op_move (ev_hit hN rfl) ?_
 refine op_extract (ev_hit hN rfl) rfl ?_
 refine op_extract (ev_hit hN rfl) rfl ?_
 refine op_assign (ev_hit hN rfl) ?_
 refine op_assign (ev_hit hN rfl) ?_
 refine reg_nil ?_
 refine hK40 _ _ ?_
 refine seq_any fun K41 hK41 => ?_
 refine wp_block ?_
 refine seq_any fun K42 hK42 => ?_
 refine one_reg ?_
 refine op_move (ev_hit hN rfl) ?_
 refine op_bin (v := .bool true) (ev_hit hN rfl) rfl (by rw [binOp_neq]; rfl) ?_
 refine op_assign (ev_hit hN rfl) ?_
 refine reg_nil ?_
 refine hK42 _ _ ?_
 refine wp_cond_true (ev_hit hN rfl) ?_
 refine seq_any fun K43 hK43 => ?_
 refine one_reg ?_
 refine op_move (ev_hit hN rfl) ?_
 refine op_assign (ev_hit hN rfl) ?_
 refine reg_nil ?_
 refine hK43 _ _ ?_
 refine wp_ret (blk_ret (then_ret ( ?_)))
 refine ret1 rfl hd (ev_hit hN rfl) ⟨_, rfl, ?_⟩
 -- path
 exact ⟨hb, rfl⟩

theorem Leave_nomap {n : Int} {k : Nat} {w : World} (hk : Bx w k 121 [.map none])  : Ret Try.prog 57 #[(ptr k 0), (Value.int .i64 n)] w (fun v' w' => Below w.heap.size w w' ∧ v' = .int .i64 18) := by
 have hb := Below.refl w.heap.size w
 refine enter (N := 21) Try.func57 rfl rfl (by simp) fun a0 hN hd hA => ?_
 have s0 : a0.tmps.getD 0 undef = (ptr k 0) := hA 0 (by simp)
 have s1 : a0.tmps.getD 1 undef = (Value.int .i64 n) := hA 1 (by simp)
 clear hA
 refine seq_any fun K44 hK44 => ?_
 refine one_reg ?_
 refine op_assign rfl ?_
 refine reg_nil ?_
 refine hK44 _ _ ?_
 refine seq_any fun K45 hK45 => ?_
 refine one_reg ?_
 refine op_move (ev_base hN rfl s0) ?_
 refine op_move (ev_base hN rfl s1) ?_
 refine op_fn (vs := [(ptr k 0), (Value.int .i64 n)]) ok95 ⟨(ev_hit hN rfl), ⟨(ev_hit hN rfl), trivial⟩⟩ (Ret.flip (at_nomap n hk)) ?_
 rintro _ _ ⟨rfl, rfl⟩
 refine op_move (ev_hit hN rfl) ?_
 refine op_extract (ev_hit hN rfl) rfl ?_
 refine op_extract (ev_hit hN rfl) rfl ?_
 refine op_assign (ev_hit hN rfl) ?_
 refine op_assign (ev_hit hN rfl) ?_
 refine reg_nil ?_
 refine hK45 _ _ ?_
 refine seq_any fun K46 hK46 => ?_
 refine seq_any fun K47 hK47 => ?_
 refine one_reg ?_
 refine op_move (ev_hit hN rfl) ?_
 refine op_bin (v := .bool false) (ev_hit hN rfl) rfl (by rw [binOp_eql]; rfl) ?_
 refine reg_nil ?_
 refine hK47 _ _ ?_
 refine wp_cond_false (ev_hit hN rfl) ?_
 refine wp_skip ?_
 refine hK46 _ _ ?_
 refine seq_any fun K48 hK48 => ?_
 refine one_reg ?_
 refine op_move (ev_hit hN rfl) ?_
 refine op_assign (ev_hit hN rfl) ?_
 refine reg_nil ?_
 refine hK48 _ _ ?_
 refine wp_ret ?_
 refine ret1 rfl hd (ev_hit hN rfl) ⟨_, rfl, ?_⟩
 -- path
 exact ⟨hb, rfl⟩

theorem Doomed_nomap {n : Int} {k : Nat} {w : World} (hk : Bx w k 121 [.map none])  : Ret Try.prog 62 #[(ptr k 0), (Value.int .i64 n)] w (fun v' w' => Below w.heap.size w w' ∧ v' = .bool false) := by
 have hb := Below.refl w.heap.size w
 refine enter (N := 21) Try.func62 rfl rfl (by simp) fun a0 hN hd hA => ?_
 have s0 : a0.tmps.getD 0 undef = (ptr k 0) := hA 0 (by simp)
 have s1 : a0.tmps.getD 1 undef = (Value.int .i64 n) := hA 1 (by simp)
 clear hA
 refine seq_any fun K49 hK49 => ?_
 refine one_reg ?_
 refine op_assign rfl ?_
 refine reg_nil ?_
 refine hK49 _ _ ?_
 refine seq_any fun K50 hK50 => ?_
 refine one_reg ?_
 refine op_move (ev_base hN rfl s0) ?_
 refine op_move (ev_base hN rfl s1) ?_
 refine op_fn (vs := [(ptr k 0), (Value.int .i64 n)]) ok95 ⟨(ev_hit hN rfl), ⟨(ev_hit hN rfl), trivial⟩⟩ (Ret.flip (at_nomap n hk)) ?_
 rintro _ _ ⟨rfl, rfl⟩
 refine op_move (ev_hit hN rfl) ?_
 refine op_extract (ev_hit hN rfl) rfl ?_
 refine op_extract (ev_hit hN rfl) rfl ?_
 refine op_assign (ev_hit hN rfl) ?_
 refine op_assign (ev_hit hN rfl) ?_
 refine reg_nil ?_
 refine hK50 _ _ ?_
 refine seq_any fun K51 hK51 => ?_
 refine one_reg ?_
 refine op_move (ev_hit hN rfl) ?_
 refine op_bin (v := .bool false) (ev_hit hN rfl) rfl (by rw [binOp_eql]; rfl) ?_
 refine op_move (ev_hit hN rfl) ?_
 refine g_false (j := 2) (dj := 15) (b := true) rfl rfl rfl (ev_hit hN rfl) rfl rfl ?_
 refine g_false (j := 2) (dj := 15) (b := true) rfl rfl rfl (ev_hit hN rfl) rfl rfl ?_
 refine g_false (j := 2) (dj := 15) (b := true) rfl rfl rfl (ev_hit hN rfl) rfl rfl ?_
 refine g_false (j := 2) (dj := 15) (b := true) rfl rfl rfl (ev_hit hN rfl) rfl rfl ?_
 refine op_pick_f (ev_hit hN rfl) rfl ?_
 refine op_assign (ev_hit hN rfl) ?_
 refine reg_nil ?_
 refine hK51 _ _ ?_
 refine wp_ret ?_
 refine ret1 rfl hd (ev_hit hN rfl) ⟨_, rfl, ?_⟩
 -- path
 exact ⟨hb, rfl⟩

theorem Wrote_nomap {n : Int} {k : Nat} {w : World} (hk : Bx w k 121 [.map none])  : Ret Try.prog 70 #[(ptr k 0), (Value.int .i64 n)] w (fun v' w' => Below w.heap.size w w' ∧ v' = .slice none 0 0) := by
 have hb := Below.refl w.heap.size w
 refine enter (N := 21) Try.func70 rfl rfl (by simp) fun a0 hN hd hA => ?_
 have s0 : a0.tmps.getD 0 undef = (ptr k 0) := hA 0 (by simp)
 have s1 : a0.tmps.getD 1 undef = (Value.int .i64 n) := hA 1 (by simp)
 clear hA
 refine seq_any fun K52 hK52 => ?_
 refine one_reg ?_
 refine op_assign rfl ?_
 refine reg_nil ?_
 refine hK52 _ _ ?_
 refine seq_any fun K53 hK53 => ?_
 refine one_reg ?_
 refine op_move (ev_base hN rfl s0) ?_
 refine op_move (ev_base hN rfl s1) ?_
 refine op_fn (vs := [(ptr k 0), (Value.int .i64 n)]) ok95 ⟨(ev_hit hN rfl), ⟨(ev_hit hN rfl), trivial⟩⟩ (Ret.flip (at_nomap n hk)) ?_
 rintro _ _ ⟨rfl, rfl⟩
 refine op_move (ev_hit hN rfl) ?_
 refine op_extract (ev_hit hN rfl) rfl ?_
 refine op_extract (ev_hit hN rfl) rfl ?_
 refine op_assign (ev_hit hN rfl) ?_
 refine op_assign (ev_hit hN rfl) ?_
 refine reg_nil ?_
 refine hK53 _ _ ?_
 refine seq_any fun K54 hK54 => ?_
 refine seq_any fun K55 hK55 => ?_
 refine one_reg ?_
 refine op_move (ev_hit hN rfl) ?_
 refine op_bin (v := .bool true) (ev_hit hN rfl) rfl (by rw [binOp_neq]; rfl) ?_
 refine reg_nil ?_
 refine hK55 _ _ ?_
 refine wp_cond_true (ev_hit hN rfl) ?_
 refine seq_any fun K56 hK56 => ?_
 refine one_reg ?_
 refine op_assign rfl ?_
 refine reg_nil ?_
 refine hK56 _ _ ?_
 refine wp_ret (then_ret ( ?_))
 refine ret1 rfl hd (ev_hit hN rfl) ⟨_, rfl, ?_⟩
 -- path
 exact ⟨hb, rfl⟩

theorem Move_nomap {lv : Value} {s : Int} {n : Int} {k : Nat} {w : World} (hk : Bx w k 121 [.map none])  : Ret Try.prog 59 #[(ptr k 0), (Value.int .i64 n), lv, (Value.int .u64 s)] w (fun v' w' => Below w.heap.size w w' ∧ v' = .int .i64 18) := by
 have hb := Below.refl w.heap.size w
 refine enter (N := 38) Try.func59 rfl rfl (by simp) fun a0 hN hd hA => ?_
 have s0 : a0.tmps.getD 0 undef = (ptr k 0) := hA 0 (by simp)
 have s1 : a0.tmps.getD 1 undef = (Value.int .i64 n) := hA 1 (by simp)
 have s2 : a0.tmps.getD 2 undef = lv := hA 2 (by simp)
 have s3 : a0.tmps.getD 3 undef = (Value.int .u64 s) := hA 3 (by simp)
 clear hA
 refine seq_any fun K57 hK57 => ?_
 refine one_reg ?_
 refine op_assign rfl ?_
 refine reg_nil ?_
 refine hK57 _ _ ?_
 refine seq_any fun K58 hK58 => ?_
 refine one_reg ?_
 refine op_move (ev_base hN rfl s0) ?_
 refine op_move (ev_base hN rfl s1) ?_
 refine op_fn (vs := [(ptr k 0), (Value.int .i64 n)]) ok95 ⟨(ev_hit hN rfl), ⟨(ev_hit hN rfl), trivial⟩⟩ (Ret.flip (at_nomap n hk)) ?_
 rintro _ _ ⟨rfl, rfl⟩
 refine op_move (ev_hit hN rfl) ?_
 refine op_extract (ev_hit hN rfl) rfl ?_
 refine op_extract (ev_hit hN rfl) rfl ?_
 refine op_assign (ev_hit hN rfl) ?_
 refine op_assign (ev_hit hN rfl) ?_
 refine reg_nil ?_
 refine hK58 _ _ ?_
 refine seq_any fun K59 hK59 => ?_
 refine wp_block ?_
 refine seq_any fun K60 hK60 => ?_
 refine one_reg ?_
 refine op_move (ev_hit hN rfl) ?_
 refine op_bin (v := .bool true) (ev_hit hN rfl) rfl (by rw [binOp_neq]; rfl) ?_
 refine op_assign (ev_hit hN rfl) ?_
 refine reg_nil ?_
 refine hK60 _ _ ?_
 refine wp_cond_true (ev_hit hN rfl) ?_
 refine seq_any fun K61 hK61 => ?_
 refine one_reg ?_
 refine op_move (ev_hit hN rfl) ?_
 refine op_assign (ev_hit hN rfl) ?_
 refine reg_nil ?_
 refine hK61 _ _ ?_
 refine wp_ret (blk_ret (then_ret ( ?_)))
 refine ret1 rfl hd (ev_hit hN rfl) ⟨_, rfl, ?_⟩
 -- path
 exact ⟨hb, rfl⟩

end Go.Proofs.Ytmhdbphpmgjpcaa

/- Walks, written by a program: what each function of the translation hands back. -/
namespace Go.Proofs.Ytmhdbphpmgjpcaa
open Go.Gx Go.RowKit
attribute [local irreducible] wpList wpStill Code.wp Calls

theorem Leave_hit {n : Int} {k m p : Nat} {es : List (Int × Nat)} {w : World} (hk : Bx w k 121 [.map (some m)]) (hM : MapC (Value.int .i64) pv w m es) (hg : mget es n = some p)  : Ret Try.prog 57 #[(ptr k 0), (Value.int .i64 n)] w (fun v' w' => w.grownBy w' (some m) ∧ v' = .int .i64 0 ∧ MapC (Value.int .i64) pv w' m (mdel es n)) := by
 have hi_m := hM.lt
 have hb := grown_refl w (some m)
 refine enter (N := 21) Try.func57 rfl rfl (by simp) fun a0 hN hd hA => ?_
 have s0 : a0.tmps.getD 0 undef = (ptr k 0) := hA 0 (by simp)
 have s1 : a0.tmps.getD 1 undef = (Value.int .i64 n) := hA 1 (by simp)
 clear hA
 refine seq_any fun K1 hK1 => ?_
 refine one_reg ?_
 refine op_assign rfl ?_
 refine reg_nil ?_
 refine hK1 _ _ ?_
 refine seq_any fun K2 hK2 => ?_
 refine one_reg ?_
 refine op_move (ev_base hN rfl s0) ?_
 refine op_move (ev_base hN rfl s1) ?_
 refine op_fn (vs := [(ptr k 0), (Value.int .i64 n)]) ok95 ⟨(ev_hit hN rfl), ⟨(ev_hit hN rfl), trivial⟩⟩ (Ret.flip (at_hit n hk hM hg)) ?_
 rintro _ _ ⟨rfl, rfl⟩
 refine op_move (ev_hit hN rfl) ?_
 refine op_extract (ev_hit hN rfl) rfl ?_
 refine op_extract (ev_hit hN rfl) rfl ?_
 refine op_assign (ev_hit hN rfl) ?_
 refine op_assign (ev_hit hN rfl) ?_
 refine reg_nil ?_
 refine hK2 _ _ ?_
 refine seq_any fun K3 hK3 => ?_
 refine seq_any fun K4 hK4 => ?_
 refine one_reg ?_
 refine op_move (ev_hit hN rfl) ?_
 refine op_bin (v := .bool true) (ev_hit hN rfl) rfl (by rw [binOp_eql]; rfl) ?_
 refine reg_nil ?_
 refine hK4 _ _ ?_
 refine wp_cond_true (ev_hit hN rfl) ?_
 refine one_reg ?_
 refine op_move (ev_base hN rfl s0) ?_
 refine op_nil (ev_hit hN rfl) ?_
 refine op_field fld121_0 (ev_hit hN rfl) ?_
 refine op_load1 (v := (Value.map (some m))) one119 (ev_hit hN rfl) (hk.cell rfl) ?_
 refine op_move (ev_base hN rfl s1) ?_
 have hM_old := hM
 refine op_mapdel0 (k := n) Try.underlying119 (Go.Gx.key_int Try.underlying3) (ev_hit hN rfl) (ev_hit hN rfl) hM ?_
 intro w5 hM7 E6
 have z_w5 := E6.size
 have hk := hk.keepM hM_old E6
 have hb := grown_trans hb E6
 refine reg_nil ?_
 refine hK3 _ _ ?_
 refine seq_any fun K8 hK8 => ?_
 refine one_reg ?_
 refine op_move (ev_hit hN rfl) ?_
 refine op_assign (ev_hit hN rfl) ?_
 refine reg_nil ?_
 refine hK8 _ _ ?_
 refine wp_ret ?_
 refine ret1 rfl hd (ev_hit hN rfl) ⟨_, rfl, ?_⟩
 -- path
 exact ⟨hb, rfl, hM7⟩

theorem Doomed_hit {base : Nat} {la rv wv : Value} {lab : List UInt16} {stp : Int} {D : List RD} {Wr : List (List UInt8)} {dm : Bool} {n : Int} {k m p : Nat} {es : List (Int × Nat)} {w : World} (hk : Bx w k 121 [.map (some m)]) (hM : MapC (Value.int .i64) pv w m es) (hg : mget es n = some p) (hx : Bx w p 164 [la, .int .u64 stp, rv, wv, .bool dm]) : Ret Try.prog 62 #[(ptr k 0), (Value.int .i64 n)] w (fun v' w' => Below w.heap.size w w' ∧ v' = .bool dm) := by
 have hb := Below.refl w.heap.size w
 refine enter (N := 21) Try.func62 rfl rfl (by simp) fun a0 hN hd hA => ?_
 have s0 : a0.tmps.getD 0 undef = (ptr k 0) := hA 0 (by simp)
 have s1 : a0.tmps.getD 1 undef = (Value.int .i64 n) := hA 1 (by simp)
 clear hA
 refine seq_any fun K9 hK9 => ?_
 refine one_reg ?_
 refine op_assign rfl ?_
 refine reg_nil ?_
 refine hK9 _ _ ?_
 refine seq_any fun K10 hK10 => ?_
 refine one_reg ?_
 refine op_move (ev_base hN rfl s0) ?_
 refine op_move (ev_base hN rfl s1) ?_
 refine op_fn (vs := [(ptr k 0), (Value.int .i64 n)]) ok95 ⟨(ev_hit hN rfl), ⟨(ev_hit hN rfl), trivial⟩⟩ (Ret.flip (at_hit n hk hM hg)) ?_
 rintro _ _ ⟨rfl, rfl⟩
 refine op_move (ev_hit hN rfl) ?_
 refine op_extract (ev_hit hN rfl) rfl ?_
 refine op_extract (ev_hit hN rfl) rfl ?_
 refine op_assign (ev_hit hN rfl) ?_
 refine op_assign (ev_hit hN rfl) ?_
 refine reg_nil ?_
 refine hK10 _ _ ?_
 refine seq_any fun K11 hK11 => ?_
 refine one_reg ?_
 refine op_move (ev_hit hN rfl) ?_
 refine op_bin (v := .bool true) (ev_hit hN rfl) rfl (by rw [binOp_eql]; rfl) ?_
 refine op_move (ev_hit hN rfl) ?_
 refine g_true (j := 2) (dj := 15) (b := true) rfl rfl rfl (ev_hit hN rfl) ?_
 refine op_move (ev_hit hN rfl) ?_
 refine g_true (j := 2) (dj := 15) (b := true) rfl rfl rfl (ev_hit hN rfl) ?_
 refine op_nil (ev_hit hN rfl) ?_
 refine g_true (j := 2) (dj := 15) (b := true) rfl rfl rfl (ev_hit hN rfl) ?_
 refine op_field fld164_4 (ev_hit hN rfl) ?_
 refine g_true (j := 2) (dj := 15) (b := true) rfl rfl rfl (ev_hit hN rfl) ?_
 refine op_load1 (v := (Value.bool dm)) one4 (ev_hit hN rfl) (hx.cell rfl) ?_
 refine op_pick_t (ev_hit hN rfl) (ev_hit hN rfl) ?_
 refine op_assign (ev_hit hN rfl) ?_
 refine reg_nil ?_
 refine hK11 _ _ ?_
 refine wp_ret ?_
 refine ret1 rfl hd (ev_hit hN rfl) ⟨_, rfl, ?_⟩
 -- path
 exact ⟨hb, rfl⟩

theorem Wrote_hit {base : Nat} {la rv wv : Value} {lab : List UInt16} {stp : Int} {D : List RD} {Wr : List (List UInt8)} {dm : Bool} {n : Int} {k m p : Nat} {es : List (Int × Nat)} {w : World} (hk : Bx w k 121 [.map (some m)]) (hM : MapC (Value.int .i64) pv w m es) (hg : mget es n = some p) (hbase : base ≤ w.heap.size) (hx : Bx w p 164 [la, .int .u64 stp, rv, wv, .bool dm]) (hW : Own w base 9 1 wv Wr.length (Wr.map sv)) (hn9 : Wr.length ≤ 100000) : Ret Try.prog 70 #[(ptr k 0), (Value.int .i64 n)] w (fun v' w' => Below w.heap.size w w' ∧ Own w' w.heap.size 9 1 v' Wr.length (Wr.map sv)) := by
 have hb := Below.refl w.heap.size w
 refine enter (N := 21) Try.func70 rfl rfl (by simp) fun a0 hN hd hA => ?_
 have s0 : a0.tmps.getD 0 undef = (ptr k 0) := hA 0 (by simp)
 have s1 : a0.tmps.getD 1 undef = (Value.int .i64 n) := hA 1 (by simp)
 clear hA
 refine seq_any fun K12 hK12 => ?_
 refine one_reg ?_
 refine op_assign rfl ?_
 refine reg_nil ?_
 refine hK12 _ _ ?_
 refine seq_any fun K13 hK13 => ?_
 refine one_reg ?_
 refine op_move (ev_base hN rfl s0) ?_
 refine op_move (ev_base hN rfl s1) ?_
 refine op_fn (vs := [(ptr k 0), (Value.int .i64 n)]) ok95 ⟨(ev_hit hN rfl), ⟨(ev_hit hN rfl), trivial⟩⟩ (Ret.flip (at_hit n hk hM hg)) ?_
 rintro _ _ ⟨rfl, rfl⟩
 refine op_move (ev_hit hN rfl) ?_
 refine op_extract (ev_hit hN rfl) rfl ?_
 refine op_extract (ev_hit hN rfl) rfl ?_
 refine op_assign (ev_hit hN rfl) ?_
 refine op_assign (ev_hit hN rfl) ?_
 refine reg_nil ?_
 refine hK13 _ _ ?_
 refine seq_any fun K14 hK14 => ?_
 refine seq_any fun K15 hK15 => ?_
 refine one_reg ?_
 refine op_move (ev_hit hN rfl) ?_
 refine op_bin (v := .bool false) (ev_hit hN rfl) rfl (by rw [binOp_neq]; rfl) ?_
 refine reg_nil ?_
 refine hK15 _ _ ?_
 refine wp_cond_false (ev_hit hN rfl) ?_
 refine wp_skip ?_
 refine hK14 _ _ ?_
 refine seq_any fun K16 hK16 => ?_
 refine one_reg ?_
 refine op_move (ev_hit hN rfl) ?_
 refine op_nil (ev_hit hN rfl) ?_
 refine op_field fld164_3 (ev_hit hN rfl) ?_
 refine op_field fld162_0 (ev_hit hN rfl) ?_
 refine op_load1 (v := wv) one26 (ev_hit hN rfl) (hx.cell rfl) ?_
 refine op_fn (vs := [wv]) ok72 ⟨(ev_hit hN rfl), trivial⟩ (Clone_s Wr _ _ (by omega) (hW.rdw.mono (Nat.zero_le _) (by omega))) ?_
 rintro v17 w18 ⟨E19, hO17⟩
 have dj20 : DJ v17 wv := fun k hk hg => by have q1 := (hO17.lt k hk).1; have q2 := (hW.lt k hg).2; omega
 have E19 := grown_of_below E19
 have z_w18 := E19.size
 have hk := hk.keep0 E19
 have hM := hM.keep0 E19
 have hx := hx.keep0 E19
 have hW := hW.keep0 E19
 have hb := below_step0 hb E19 hb.size
 have hO17 := hO17.mono (base' := w.heap.size) (by omega)
 refine op_assign (ev_hit hN rfl) ?_
 refine reg_nil ?_
 refine hK16 _ _ ?_
 refine wp_ret ?_
 refine ret1 rfl hd (ev_hit hN rfl) ⟨_, rfl, ?_⟩
 -- path
 exact ⟨hb, hO17⟩

theorem Move_hit {base : Nat} {la rv wv : Value} {lab : List UInt16} {stp : Int} {D : List RD} {Wr : List (List UInt8)} {dm : Bool} {lv : Value} {s : Int} {l : List UInt16} {n : Int} {k m p : Nat} {es : List (Int × Nat)} {w : World} (hk : Bx w k 121 [.map (some m)]) (hM : MapC (Value.int .i64) pv w m es) (hg : mget es n = some p) (hbase : base ≤ w.heap.size) (hx : Bx w p 164 [la, .int .u64 stp, rv, wv, .bool dm]) (hW : Own w base 9 1 wv Wr.length (Wr.map sv)) (hl : RdC w 0 w.heap.size 1 lv l.length (l.map u16v)) (hl8 : l.length ≤ 100) : Ret Try.prog 59 #[(ptr k 0), (Value.int .i64 n), lv, (Value.int .u64 s)] w (fun v' w' => w.grownBy w' (some p) ∧ ((0 < Wr.length ∧ v' = .int .i64 16 ∧ w' = w) ∨ (Wr.length = 0 ∧ v' = .int .i64 0 ∧ ∃ nv, Bx w' p 164 [nv, .int .u64 s, rv, wv, .bool dm] ∧ Own w' w.heap.size 46 1 nv l.length (l.map u16v)))) := by
 have hi_p := hx.lt
 have hb := grown_refl w (some p)
 refine enter (N := 38) Try.func59 rfl rfl (by simp) fun a0 hN hd hA => ?_
 have s0 : a0.tmps.getD 0 undef = (ptr k 0) := hA 0 (by simp)
 have s1 : a0.tmps.getD 1 undef = (Value.int .i64 n) := hA 1 (by simp)
 have s2 : a0.tmps.getD 2 undef = lv := hA 2 (by simp)
 have s3 : a0.tmps.getD 3 undef = (Value.int .u64 s) := hA 3 (by simp)
 clear hA
 refine seq_any fun K21 hK21 => ?_
 refine one_reg ?_
 refine op_assign rfl ?_
 refine reg_nil ?_
 refine hK21 _ _ ?_
 refine seq_any fun K22 hK22 => ?_
 refine one_reg ?_
 refine op_move (ev_base hN rfl s0) ?_
 refine op_move (ev_base hN rfl s1) ?_
 refine op_fn (vs := [(ptr k 0), (Value.int .i64 n)]) ok95 ⟨(ev_hit hN rfl), ⟨(ev_hit hN rfl), trivial⟩⟩ (Ret.flip (at_hit n hk hM hg)) ?_
 rintro _ _ ⟨rfl, rfl⟩
 refine op_move (ev_hit hN rfl) ?_
 refine op_extract (ev_hit hN rfl) rfl ?_
 refine op_extract (ev_hit hN rfl) rfl ?_
 refine op_assign (ev_hit hN rfl) ?_
 refine op_assign (ev_hit hN rfl) ?_
 refine reg_nil ?_
 refine hK22 _ _ ?_
 refine seq_any fun K23 hK23 => ?_
 refine wp_block ?_
 refine seq_any fun K24 hK24 => ?_
 refine one_reg ?_
 refine op_move (ev_hit hN rfl) ?_
 refine op_bin (v := .bool false) (ev_hit hN rfl) rfl (by rw [binOp_neq]; rfl) ?_
 refine op_assign (ev_hit hN rfl) ?_
 refine reg_nil ?_
 refine hK24 _ _ ?_
 refine wp_cond_false (ev_hit hN rfl) ?_
 refine seq_any fun K25 hK25 => ?_
 refine one_reg ?_
 refine op_move (ev_hit hN rfl) ?_
 refine op_nil (ev_hit hN rfl) ?_
 refine op_field fld164_3 (ev_hit hN rfl) ?_
 refine op_field fld162_0 (ev_hit hN rfl) ?_
 refine op_load1 (v := wv) one26 (ev_hit hN rfl) (hx.cell rfl) ?_
 refine op_len_rd Try.underlying26 (ev_hit hN rfl) hW.rdw ?_
 refine op_gtr (ev_hit hN rfl) rfl (fun c28 => ?_) (fun c28 => ?_)
 · -- 28T
  refine op_assign (ev_hit hN rfl) ?_
  refine reg_nil ?_
  refine hK25 _ _ ?_
  refine wp_cond_true (ev_hit hN rfl) ?_
  refine seq_any fun K26 hK26 => ?_
  refine one_reg ?_
  refine op_assign rfl ?_
  refine reg_nil ?_
  refine hK26 _ _ ?_
  refine wp_ret (blk_ret (then_ret ( ?_)))
  refine ret1 rfl hd (ev_hit hN rfl) ⟨_, rfl, ?_⟩
  -- path 28T
  exact ⟨hb, .inl ⟨by omega, rfl, rfl⟩⟩
 · -- 28F
  refine op_assign (ev_hit hN rfl) ?_
  refine reg_nil ?_
  refine hK25 _ _ ?_
  refine wp_cond_false (ev_hit hN rfl) ?_
  refine wp_skip ?_
  refine hK23 _ _ ?_
  refine seq_any fun K27 hK27 => ?_
  refine one_reg ?_
  refine op_move (ev_hit hN rfl) ?_
  refine op_move (ev_hit hN rfl) ?_
  refine op_move (ev_base hN rfl s2) ?_
  refine op_fn (vs := [lv]) ok77 ⟨(ev_hit hN rfl), trivial⟩ (CloneL l _ _ (by omega) (hl.mono (Nat.zero_le _) (by omega))) ?_
  rintro v28 w29 ⟨E30, hO28⟩
  have E30 := grown_of_below E30
  have z_w29 := E30.size
  have hk := hk.keep0 E30
  have hM := hM.keep0 E30
  have hx := hx.keep0 E30
  have hW := hW.keep0 E30
  have hl := hl.keep0 E30
  have hb := grow_step0 hb E30
  have hO28 := hO28.mono (base' := w.heap.size) (by omega)
  refine op_move (ev_base hN rfl s3) ?_
  skip
  refine op_nil (ev_hit hN rfl) ?_
  refine op_field fld164_0 (ev_hit hN rfl) ?_
  have hx_old := hx
  refine op_store (vs := [v28]) (cs' := [v28, (Value.int .u64 stp), rv, wv, (Value.bool dm)]) size54 (ev_hit hN rfl) (ev_hit hN rfl) hO28.cl rfl (by simp only [List.all_cons, List.all_nil, Bool.true_and, Bool.and_true, hO28.one]; try rfl) hx (Nat.le_of_ble_eq_true rfl) rfl ?_
  intro w33 hx E34
  have z_w33 := E34.size
  have hk := hk.keep E34 (fun hh => hk.ne hx_old (by decide) (Option.some.inj hh))
  have hM := hM.keepB hx_old E34
  have hW := hW.keepX hx_old E34 (by decide)
  have hO28 := hO28.keepX hx_old E34 (by decide)
  have hb := grown_trans hb E34
  refine op_nil (ev_hit hN rfl) ?_
  refine op_field fld164_1 (ev_hit hN rfl) ?_
  have hx_old := hx
  refine op_store (vs := [(Value.int .u64 s)]) (cs' := [v28, (Value.int .u64 s), rv, wv, (Value.bool dm)]) size61 (ev_hit hN rfl) (ev_hit hN rfl) rfl rfl rfl hx (Nat.le_of_ble_eq_true rfl) rfl ?_
  intro w37 hx E38
  have z_w37 := E38.size
  have hk := hk.keep E38 (fun hh => hk.ne hx_old (by decide) (Option.some.inj hh))
  have hM := hM.keepB hx_old E38
  have hW := hW.keepX hx_old E38 (by decide)
  have hO28 := hO28.keepX hx_old E38 (by decide)
  have hb := grown_trans hb E38
  refine reg_nil ?_
  refine hK27 _ _ ?_
  refine seq_any fun K39 hK39 => ?_
  refine one_reg ?_
  refine op_assign rfl ?_
  refine reg_nil ?_
  refine hK39 _ _ ?_
  refine wp_ret ?_
  refine ret1 rfl hd (ev_hit hN rfl) ⟨_, rfl, ?_⟩
  -- path 28F
  exact ⟨hb, .inr ⟨by omega, rfl, _, hx, hO28⟩⟩

theorem Enter_hit {lv : Value} {s : Int} {l : List UInt16} {n : Int} {k m p : Nat} {es : List (Int × Nat)} {w : World} (hk : Bx w k 121 [.map (some m)]) (hM : MapC (Value.int .i64) pv w m es) (hg : mget es n = some p)  : Ret Try.prog 54 #[(ptr k 0), (Value.int .i64 n), lv, (Value.int .u64 s)] w (fun v' w' => Below w.heap.size w w' ∧ v' = .int .i64 18) := by
 have hb := Below.refl w.heap.size w
 refine enter (N := 42) Try.func54 rfl rfl (by simp) fun a0 hN hd hA => ?_
 have s0 : a0.tmps.getD 0 undef = (ptr k 0) := hA 0 (by simp)
 have s1 : a0.tmps.getD 1 undef = (Value.int .i64 n) := hA 1 (by simp)
 have s2 : a0.tmps.getD 2 undef = lv := hA 2 (by simp)
 have s3 : a0.tmps.getD 3 undef = (Value.int .u64 s) := hA 3 (by simp)
 clear hA
 refine seq_any fun K46 hK46 => ?_
 refine one_reg ?_
 refine op_assign rfl ?_
 refine reg_nil ?_
 refine hK46 _ _ ?_
 refine seq_any fun K47 hK47 => ?_
 refine one_reg ?_
 refine op_move (ev_base hN rfl s0) ?_
 refine op_move (ev_base hN rfl s1) ?_
 refine op_fn (vs := [(ptr k 0), (Value.int .i64 n)]) ok95 ⟨(ev_hit hN rfl), ⟨(ev_hit hN rfl), trivial⟩⟩ (Ret.flip (at_hit n hk hM hg)) ?_
 rintro _ _ ⟨rfl, rfl⟩
 refine op_move (ev_hit hN rfl) ?_
 refine op_extract (ev_hit hN rfl) rfl ?_
 refine op_extract (ev_hit hN rfl) rfl ?_
 refine op_assign (ev_hit hN rfl) ?_
 refine op_assign (ev_hit hN rfl) ?_
 refine reg_nil ?_
 refine hK47 _ _ ?_
 refine seq_any fun K48 hK48 => ?_
 refine seq_any fun K49 hK49 => ?_
 refine one_reg ?_
 refine op_move (ev_hit hN rfl) ?_
 refine reg_nil ?_
 refine hK49 _ _ ?_
 refine wp_block ?_
 refine seq_any fun K50 hK50 => ?_
 refine one_reg ?_
 refine op_bin (v := .bool false) (ev_hit hN rfl) rfl (by rw [binOp_eql]; rfl) ?_
 refine op_assign (ev_hit hN rfl) ?_
 refine reg_nil ?_
 refine hK50 _ _ ?_
 refine wp_cond_false (ev_hit hN rfl) ?_
 refine seq_any fun K51 hK51 => ?_
 refine one_reg ?_
 refine op_bin (v := .bool true) (ev_hit hN rfl) rfl (by rw [binOp_eql]; rfl) ?_
 refine op_assign (ev_hit hN rfl) ?_
 refine reg_nil ?_
 refine hK51 _ _ ?_
 refine wp_cond_true (ev_hit hN rfl) ?_
 refine seq_any fun K52 hK52 => ?_
 refine one_reg ?_
 refine op_assign rfl ?_
 refine reg_nil ?_
 refine hK52 _ _ ?_
 refine wp_ret (blk_ret (then_ret ( ?_)))
 refine ret1 rfl hd (ev_hit hN rfl) ⟨_, rfl, ?_⟩
 -- path
 exact ⟨hb, rfl⟩

theorem Enter_miss {lv : Value} {s : Int} {l : List UInt16} {n : Int} {k m : Nat} {es : List (Int × Nat)} {w : World} (hk : Bx w k 121 [.map (some m)]) (hM : MapC (Value.int .i64) pv w m es) (hg : mget es n = none) (hl : RdC w 0 w.heap.size 1 lv l.length (l.map u16v)) (hl8 : l.length ≤ 100) : Ret Try.prog 54 #[(ptr k 0), (Value.int .i64 n), lv, (Value.int .u64 s)] w (fun v' w' => w.grownBy w' (some m) ∧ v' = .int .i64 0 ∧ ∃ q nv, w.heap.size ≤ q ∧ Bx w' q 164 [nv, .int .u64 s, .slice none 0 0, .slice none 0 0, .bool false] ∧ Own w' w.heap.size 46 1 nv l.length (l.map u16v) ∧ MapC (Value.int .i64) pv w' m (mput es n q)) := by
 have hi_m := hM.lt
 have hb := grown_refl w (some m)
 refine enter (N := 42) Try.func54 rfl rfl (by simp) fun a0 hN hd hA => ?_
 have s0 : a0.tmps.getD 0 undef = (ptr k 0) := hA 0 (by simp)
 have s1 : a0.tmps.getD 1 undef = (Value.int .i64 n) := hA 1 (by simp)
 have s2 : a0.tmps.getD 2 undef = lv := hA 2 (by simp)
 have s3 : a0.tmps.getD 3 undef = (Value.int .u64 s) := hA 3 (by simp)
 clear hA
 refine seq_any fun K53 hK53 => ?_
 refine one_reg ?_
 refine op_assign rfl ?_
 refine reg_nil ?_
 refine hK53 _ _ ?_
 refine seq_any fun K54 hK54 => ?_
 refine one_reg ?_
 refine op_move (ev_base hN rfl s0) ?_
 refine op_move (ev_base hN rfl s1) ?_
 refine op_fn (vs := [(ptr k 0), (Value.int .i64 n)]) ok95 ⟨(ev_hit hN rfl), ⟨(ev_hit hN rfl), trivial⟩⟩ (Ret.flip (at_miss n hk hM hg)) ?_
 rintro _ _ ⟨rfl, rfl⟩
 refine op_move (ev_hit hN rfl) ?_
 refine op_extract (ev_hit hN rfl) rfl ?_
 refine op_extract (ev_hit hN rfl) rfl ?_
 refine op_assign (ev_hit hN rfl) ?_
 refine op_assign (ev_hit hN rfl) ?_
 refine reg_nil ?_
 refine hK54 _ _ ?_
 refine seq_any fun K55 hK55 => ?_
 refine seq_any fun K56 hK56 => ?_
 refine one_reg ?_
 refine op_move (ev_hit hN rfl) ?_
 refine reg_nil ?_
 refine hK56 _ _ ?_
 refine wp_block ?_
 refine seq_any fun K57 hK57 => ?_
 refine one_reg ?_
 refine op_bin (v := .bool false) (ev_hit hN rfl) rfl (by rw [binOp_eql]; rfl) ?_
 refine op_assign (ev_hit hN rfl) ?_
 refine reg_nil ?_
 refine hK57 _ _ ?_
 refine wp_cond_false (ev_hit hN rfl) ?_
 refine seq_any fun K58 hK58 => ?_
 refine one_reg ?_
 refine op_bin (v := .bool false) (ev_hit hN rfl) rfl (by rw [binOp_eql]; rfl) ?_
 refine op_assign (ev_hit hN rfl) ?_
 refine reg_nil ?_
 refine hK58 _ _ ?_
 refine wp_cond_false (ev_hit hN rfl) ?_
 refine wp_skip ?_
 refine hK55 _ _ ?_
 refine seq_any fun K59 hK59 => ?_
 refine seq_any fun K60 hK60 => ?_
 refine one_reg ?_
 refine op_move (ev_base hN rfl s0) ?_
 refine op_nil (ev_hit hN rfl) ?_
 refine op_field fld121_0 (ev_hit hN rfl) ?_
 refine op_load1 (v := (Value.map (some m))) one119 (ev_hit hN rfl) (hk.cell rfl) ?_
 refine op_meq (r := some m) Try.underlying119 (ev_hit hN rfl) rfl ?_
 refine reg_nil ?_
 refine hK60 _ _ ?_
 refine wp_cond_false (ev_hit hN rfl) ?_
 refine wp_skip ?_
 refine hK59 _ _ ?_
 refine seq_any fun K61 hK61 => ?_
 refine reg_split (hd := [_, _, _, _, _, _, _, _, _, _]) (tl := _) 10 mixed (by kernel_rfl) rfl rfl ?_
 refine any_env (φ := phiV [(fun uz => uz = (ptr k 0)), (fun uz => uz = (ptr k 0)), (fun uz => uz = (ptr k 0)), (fun uz => uz = (Value.map (some m))), (fun uz => uz = (Value.int .i64 n)), (fun uz => uz = lv), (fun _ => True), (fun uz => uz = (Value.int .u64 s)), (fun _ => True), (fun _ => True)]) (G := fun w' => Bx w' k 121 [(Value.map (some m))]) [6, 8, 9] (by kernel_rfl) (by kernel_rfl) (by kernel_rfl) (by kernel_rfl) hN (fun w1 w2 E h => h.keep0 E) hk (ObEs.cons ?_ (ObEs.cons ?_ (ObEs.cons ?_ (ObEs.cons ?_ (ObEs.cons ?_ (ObEs.cons ?_ (ObEs.pass rfl (ObEs.cons ?_ (ObEs.pass rfl (ObEs.pass rfl (ObEs.nil))))))))))) (by simp only [putsL_defers]) ?_
 ·
  intro eA aA wA hNA hGA hbsA hdpA
  have qA_0 := (hbsA 0 rfl).trans (sl_base hN rfl s0)
  refine op_move (ev_base hNA rfl qA_0) ?_
  exact obE_end rfl rfl rfl
 ·
  intro eA aA wA hNA hGA hbsA hdpA
  have qA_32 : Sl aA 32 (ptr k 0) := (hdpA 0 _ 32 (by kernel_rfl) rfl rfl).2 rfl
  refine op_nil (ev_base hNA rfl qA_32) ?_
  exact obE_end rfl rfl rfl
 ·
  intro eA aA wA hNA hGA hbsA hdpA
  have qA_33 : Sl aA 33 (ptr k 0) := (hdpA 1 _ 33 (by kernel_rfl) rfl rfl).2 rfl
  refine op_field fld121_0 (ev_base hNA rfl qA_33) ?_
  exact obE_end rfl rfl rfl
 ·
  intro eA aA wA hNA hGA hbsA hdpA
  have qA_34 : Sl aA 34 (ptr k 0) := (hdpA 2 _ 34 (by kernel_rfl) rfl rfl).2 rfl
  refine op_load1 (v := (Value.map (some m))) one119 (ev_base hNA rfl qA_34) (hGA.cell rfl) ?_
  exact obE_end rfl rfl rfl
 ·
  intro eA aA wA hNA hGA hbsA hdpA
  have qA_1 := (hbsA 1 rfl).trans (sl_base hN rfl s1)
  refine op_move (ev_base hNA rfl qA_1) ?_
  exact obE_end rfl rfl rfl
 ·
  intro eA aA wA hNA hGA hbsA hdpA
  have qA_2 := (hbsA 2 rfl).trans (sl_base hN rfl s2)
  refine op_move (ev_base hNA rfl qA_2) ?_
  exact obE_end rfl rfl rfl
 ·
  intro eA aA wA hNA hGA hbsA hdpA
  have qA_3 := (hbsA 3 rfl).trans (sl_base hN rfl s3)
  refine op_move (ev_base hNA rfl qA_3) ?_
  exact obE_end rfl rfl rfl
 ·
  intro w62 E62 _ a62 hN62 hbs62 hdp62 o_ ho_; obtain rfl := Option.some.inj ho_
  have z_w62 := E62.size
  have hk := hk.keep0 E62
  have hM := hM.keep0 E62
  have hl := hl.keep0 E62
  have hb := grow_step0 hb E62
  have q62_37 : Sl a62 37 lv := (hdp62 5 _ 37 (by kernel_rfl) rfl rfl).2 rfl
  refine op_fn (vs := [lv]) ok77 ⟨(ev_base hN62 rfl q62_37), trivial⟩ (CloneL l _ _ (by omega) (hl.mono (Nat.zero_le _) (by omega))) ?_
  rintro v63 w64 ⟨E65, hO63⟩
  have E65 := grown_of_below E65
  have z_w64 := E65.size
  have hk := hk.keep0 E65
  have hM := hM.keep0 E65
  have hl := hl.keep0 E65
  have hb := grow_step0 hb E65
  have hO63 := hO63.mono (base' := w.heap.size) (by omega)
  refine ke_end rfl (by decide) rfl hk ?_
  intro w66 E66 _ a66 hN66 hbs66 hdp66 o_ ho_; obtain rfl := Option.some.inj ho_
  have z_w66 := E66.size
  have hk := hk.keep0 E66
  have hM := hM.keep0 E66
  have hl := hl.keep0 E66
  have hO63 := hO63.keep0 E66
  have hb := grow_step0 hb E66
  have q66_38 : Sl a66 38 v63 := (Option.some.inj ((hdp66 6 _ 38 (by kernel_rfl) rfl rfl).1 0 rfl)).symm
  have q66_39 : Sl a66 39 (Value.int .u64 s) := (hdp66 7 _ 39 (by kernel_rfl) rfl rfl).2 rfl
  refine op_build (pv := [(0, v63), (1, (Value.int .u64 s))]) (v := (Value.agg #[v63, (Value.int .u64 s), (Value.slice none 0 0), (Value.slice none 0 0), (Value.bool false)])) ⟨rfl, (ev_base hN66 rfl q66_38), ⟨rfl, (ev_base hN66 rfl q66_39), trivial⟩⟩ (by obtain ⟨_, _, _, rfl⟩ := hO63.sl; kernel_rfl) ?_
  refine ke_end rfl (by decide) rfl hk ?_
  intro w67 E67 _ a67 hN67 hbs67 hdp67 o_ ho_; obtain rfl := Option.some.inj ho_
  have z_w67 := E67.size
  have hk := hk.keep0 E67
  have hM := hM.keep0 E67
  have hl := hl.keep0 E67
  have hO63 := hO63.keep0 E67
  have hb := grow_step0 hb E67
  have q67_40 : Sl a67 40 (Value.agg #[v63, (Value.int .u64 s), (Value.slice none 0 0), (Value.slice none 0 0), (Value.bool false)]) := (Option.some.inj ((hdp67 8 _ 40 (by kernel_rfl) rfl rfl).1 1 rfl)).symm
  refine op_box (cs := [v63, (Value.int .u64 s), (Value.slice none 0 0), (Value.slice none 0 0), (Value.bool false)]) (ev_base hN67 rfl q67_40) rfl ?_
  intro w68 b69 lo_b69 hi_b69 hB71 E70
  have z_w68 := E70.size
  have hk := hk.keep0 E70
  have hM := hM.keep0 E70
  have hl := hl.keep0 E70
  have hO63 := hO63.keep0 E70
  have hb := grow_step0 hb E70
  refine ke_end rfl (by decide) rfl hk ?_
  intro w72 E72 a72 hN72 hd72 hbs72 hph72
  have hd72 := hd72.trans ((by simp only [putsL_defers] : _ = _).trans hd)
  have z_w72 := E72.size
  have hk := hk.keep0 E72
  have hM := hM.keep0 E72
  have hl := hl.keep0 E72
  have hO63 := hO63.keep0 E72
  have hB71 := hB71.keep0 E72
  have hb := grow_step0 hb E72
  have s72_8 := (hbs72 8 rfl).trans (sl_hit hN rfl)
  have s72_35 : Sl a72 35 (Value.map (some m)) := (hph72 3 _ 35 rfl rfl).2 rfl
  have s72_36 : Sl a72 36 (Value.int .i64 n) := (hph72 4 _ 36 rfl rfl).2 rfl
  have s72_41 : Sl a72 41 (ptr b69 0) := (Option.some.inj ((hph72 9 _ 41 rfl rfl).1 2 rfl)).symm
  refine split_end ?_
  refine from_seq (tl := [_]) (by decide) (by kernel_rfl) rfl ?_
  have hM_old := hM
  refine op_mapput (k := n) (v := b69) Try.underlying119 (Go.Gx.key_int Try.underlying3) (ev_base hN72 rfl s72_35) (ev_base hN72 rfl s72_36) (ev_base hN72 rfl s72_41) hM ?_
  intro w73 hM75 E74
  have z_w73 := E74.size
  have hk := hk.keepM hM_old E74
  have hl := hl.keepM hM_old E74
  have hO63 := hO63.keepM hM_old E74
  have hB71 := hB71.keepM hM_old E74
  have hb := grown_trans hb E74
  refine reg_nil ?_
  refine hK61 _ _ ?_
  refine seq_any fun K76 hK76 => ?_
  refine one_reg ?_
  refine op_assign rfl ?_
  refine reg_nil ?_
  refine hK76 _ _ ?_
  refine wp_ret ?_
  refine ret1 rfl hd72 (ev_hit hN72 rfl) ⟨_, rfl, ?_⟩
  -- path
  exact ⟨hb, rfl, b69, _, by omega, hB71, hO63, hM75⟩

theorem Enter_nomap {lv : Value} {s : Int} {l : List UInt16} {n : Int} {k : Nat} {w : World} (hk : Bx w k 121 [.map none]) {lo : Nat} (hl : RdC w 0 lo 1 lv l.length (l.map u16v)) (hlo : lo ≤ k) (hl8 : l.length ≤ 100) : Ret Try.prog 54 #[(ptr k 0), (Value.int .i64 n), lv, (Value.int .u64 s)] w (fun v' w' => w.grownBy w' (some k) ∧ v' = .int .i64 0 ∧ ∃ m q nv, w.heap.size ≤ m ∧ w.heap.size ≤ q ∧ Bx w' k 121 [.map (some m)] ∧ Bx w' q 164 [nv, .int .u64 s, .slice none 0 0, .slice none 0 0, .bool false] ∧ Own w' w.heap.size 46 1 nv l.length (l.map u16v) ∧ MapC (Value.int .i64) pv w' m [(n, q)]) := by
 have hi_k := hk.lt
 have hb := grown_refl w (some k)
 refine enter (N := 42) Try.func54 rfl rfl (by simp) fun a0 hN hd hA => ?_
 have s0 : a0.tmps.getD 0 undef = (ptr k 0) := hA 0 (by simp)
 have s1 : a0.tmps.getD 1 undef = (Value.int .i64 n) := hA 1 (by simp)
 have s2 : a0.tmps.getD 2 undef = lv := hA 2 (by simp)
 have s3 : a0.tmps.getD 3 undef = (Value.int .u64 s) := hA 3 (by simp)
 clear hA
 refine seq_any fun K77 hK77 => ?_
 refine one_reg ?_
 refine op_assign rfl ?_
 refine reg_nil ?_
 refine hK77 _ _ ?_
 refine seq_any fun K78 hK78 => ?_
 refine one_reg ?_
 refine op_move (ev_base hN rfl s0) ?_
 refine op_move (ev_base hN rfl s1) ?_
 refine op_fn (vs := [(ptr k 0), (Value.int .i64 n)]) ok95 ⟨(ev_hit hN rfl), ⟨(ev_hit hN rfl), trivial⟩⟩ (Ret.flip (at_nomap n hk)) ?_
 rintro _ _ ⟨rfl, rfl⟩
 refine op_move (ev_hit hN rfl) ?_
 refine op_extract (ev_hit hN rfl) rfl ?_
 refine op_extract (ev_hit hN rfl) rfl ?_
 refine op_assign (ev_hit hN rfl) ?_
 refine op_assign (ev_hit hN rfl) ?_
 refine reg_nil ?_
 refine hK78 _ _ ?_
 refine seq_any fun K79 hK79 => ?_
 refine seq_any fun K80 hK80 => ?_
 refine one_reg ?_
 refine op_move (ev_hit hN rfl) ?_
 refine reg_nil ?_
 refine hK80 _ _ ?_
 refine wp_block ?_
 refine seq_any fun K81 hK81 => ?_
 refine one_reg ?_
 refine op_bin (v := .bool false) (ev_hit hN rfl) rfl (by rw [binOp_eql]; rfl) ?_
 refine op_assign (ev_hit hN rfl) ?_
 refine reg_nil ?_
 refine hK81 _ _ ?_
 refine wp_cond_false (ev_hit hN rfl) ?_
 refine seq_any fun K82 hK82 => ?_
 refine one_reg ?_
 refine op_bin (v := .bool false) (ev_hit hN rfl) rfl (by rw [binOp_eql]; rfl) ?_
 refine op_assign (ev_hit hN rfl) ?_
 refine reg_nil ?_
 refine hK82 _ _ ?_
 refine wp_cond_false (ev_hit hN rfl) ?_
 refine wp_skip ?_
 refine hK79 _ _ ?_
 refine seq_any fun K83 hK83 => ?_
 refine seq_any fun K84 hK84 => ?_
 refine one_reg ?_
 refine op_move (ev_base hN rfl s0) ?_
 refine op_nil (ev_hit hN rfl) ?_
 refine op_field fld121_0 (ev_hit hN rfl) ?_
 refine op_load1 (v := (Value.map none)) one119 (ev_hit hN rfl) (hk.cell rfl) ?_
 refine op_meq (r := none) Try.underlying119 (ev_hit hN rfl) rfl ?_
 refine reg_nil ?_
 refine hK84 _ _ ?_
 refine wp_cond_true (ev_hit hN rfl) ?_
 refine one_reg ?_
 refine op_move (ev_base hN rfl s0) ?_
 refine op_mkmap (kv := (Value.int .i64)) (vv := pv) ?_
 intro w85 m87 lo_m87 hi_m87 hM88 E86
 have z_w85 := E86.size
 have hk := hk.keep0 E86
 have hl := hl.keep0 E86
 have hb := grow_step0 hb E86
 refine op_nil (ev_hit hN rfl) ?_
 refine op_field fld121_0 (ev_hit hN rfl) ?_
 have hk_old := hk
 refine op_store (vs := [(Value.map (some m87))]) (cs' := [(Value.map (some m87))]) size119 (ev_hit hN rfl) (ev_hit hN rfl) rfl rfl rfl hk (Nat.le_of_ble_eq_true rfl) rfl ?_
 intro w91 hk E92
 have z_w91 := E92.size
 have hl := hl.keep E92 (fun k hk => .inr (by simp at hk; omega))
 have hM88 := hM88.keepB hk_old E92
 have hb := grown_trans hb E92
 refine reg_nil ?_
 refine hK83 _ _ ?_
 refine seq_any fun K93 hK93 => ?_
 refine reg_split (hd := [_, _, _, _, _, _, _, _, _, _]) (tl := _) 10 mixed (by kernel_rfl) rfl rfl ?_
 refine any_env (φ := phiV [(fun uz => uz = (ptr k 0)), (fun uz => uz = (ptr k 0)), (fun uz => uz = (ptr k 0)), (fun uz => uz = (Value.map (some m87))), (fun uz => uz = (Value.int .i64 n)), (fun uz => uz = lv), (fun _ => True), (fun uz => uz = (Value.int .u64 s)), (fun _ => True), (fun _ => True)]) (G := fun w' => Bx w' k 121 [(Value.map (some m87))]) [6, 8, 9] (by kernel_rfl) (by kernel_rfl) (by kernel_rfl) (by kernel_rfl) hN (fun w1 w2 E h => h.keep0 E) hk (ObEs.cons ?_ (ObEs.cons ?_ (ObEs.cons ?_ (ObEs.cons ?_ (ObEs.cons ?_ (ObEs.cons ?_ (ObEs.pass rfl (ObEs.cons ?_ (ObEs.pass rfl (ObEs.pass rfl (ObEs.nil))))))))))) (by simp only [putsL_defers]) ?_
 ·
  intro eA aA wA hNA hGA hbsA hdpA
  have qA_0 := (hbsA 0 rfl).trans (sl_base hN rfl s0)
  refine op_move (ev_base hNA rfl qA_0) ?_
  exact obE_end rfl rfl rfl
 ·
  intro eA aA wA hNA hGA hbsA hdpA
  have qA_32 : Sl aA 32 (ptr k 0) := (hdpA 0 _ 32 (by kernel_rfl) rfl rfl).2 rfl
  refine op_nil (ev_base hNA rfl qA_32) ?_
  exact obE_end rfl rfl rfl
 ·
  intro eA aA wA hNA hGA hbsA hdpA
  have qA_33 : Sl aA 33 (ptr k 0) := (hdpA 1 _ 33 (by kernel_rfl) rfl rfl).2 rfl
  refine op_field fld121_0 (ev_base hNA rfl qA_33) ?_
  exact obE_end rfl rfl rfl
 ·
  intro eA aA wA hNA hGA hbsA hdpA
  have qA_34 : Sl aA 34 (ptr k 0) := (hdpA 2 _ 34 (by kernel_rfl) rfl rfl).2 rfl
  refine op_load1 (v := (Value.map (some m87))) one119 (ev_base hNA rfl qA_34) (hGA.cell rfl) ?_
  exact obE_end rfl rfl rfl
 ·
  intro eA aA wA hNA hGA hbsA hdpA
  have qA_1 := (hbsA 1 rfl).trans (sl_base hN rfl s1)
  refine op_move (ev_base hNA rfl qA_1) ?_
  exact obE_end rfl rfl rfl
 ·
  intro eA aA wA hNA hGA hbsA hdpA
  have qA_2 := (hbsA 2 rfl).trans (sl_base hN rfl s2)
  refine op_move (ev_base hNA rfl qA_2) ?_
  exact obE_end rfl rfl rfl
 ·
  intro eA aA wA hNA hGA hbsA hdpA
  have qA_3 := (hbsA 3 rfl).trans (sl_base hN rfl s3)
  refine op_move (ev_base hNA rfl qA_3) ?_
  exact obE_end rfl rfl rfl
 ·
  intro w94 E94 _ a94 hN94 hbs94 hdp94 o_ ho_; obtain rfl := Option.some.inj ho_
  have z_w94 := E94.size
  have hl := hl.keep0 E94
  have hM88 := hM88.keep0 E94
  have hk := hk.keep0 E94
  have hb := grow_step0 hb E94
  have q94_37 : Sl a94 37 lv := (hdp94 5 _ 37 (by kernel_rfl) rfl rfl).2 rfl
  refine op_fn (vs := [lv]) ok77 ⟨(ev_base hN94 rfl q94_37), trivial⟩ (CloneL l _ _ (by omega) (hl.mono (Nat.zero_le _) (by omega))) ?_
  rintro v95 w96 ⟨E97, hO95⟩
  have E97 := grown_of_below E97
  have z_w96 := E97.size
  have hl := hl.keep0 E97
  have hM88 := hM88.keep0 E97
  have hk := hk.keep0 E97
  have hb := grow_step0 hb E97
  have hO95 := hO95.mono (base' := w.heap.size) (by omega)
  refine ke_end rfl (by decide) rfl hk ?_
  intro w98 E98 _ a98 hN98 hbs98 hdp98 o_ ho_; obtain rfl := Option.some.inj ho_
  have z_w98 := E98.size
  have hl := hl.keep0 E98
  have hM88 := hM88.keep0 E98
  have hk := hk.keep0 E98
  have hO95 := hO95.keep0 E98
  have hb := grow_step0 hb E98
  have q98_38 : Sl a98 38 v95 := (Option.some.inj ((hdp98 6 _ 38 (by kernel_rfl) rfl rfl).1 0 rfl)).symm
  have q98_39 : Sl a98 39 (Value.int .u64 s) := (hdp98 7 _ 39 (by kernel_rfl) rfl rfl).2 rfl
  refine op_build (pv := [(0, v95), (1, (Value.int .u64 s))]) (v := (Value.agg #[v95, (Value.int .u64 s), (Value.slice none 0 0), (Value.slice none 0 0), (Value.bool false)])) ⟨rfl, (ev_base hN98 rfl q98_38), ⟨rfl, (ev_base hN98 rfl q98_39), trivial⟩⟩ (by obtain ⟨_, _, _, rfl⟩ := hO95.sl; kernel_rfl) ?_
  refine ke_end rfl (by decide) rfl hk ?_
  intro w99 E99 _ a99 hN99 hbs99 hdp99 o_ ho_; obtain rfl := Option.some.inj ho_
  have z_w99 := E99.size
  have hl := hl.keep0 E99
  have hM88 := hM88.keep0 E99
  have hk := hk.keep0 E99
  have hO95 := hO95.keep0 E99
  have hb := grow_step0 hb E99
  have q99_40 : Sl a99 40 (Value.agg #[v95, (Value.int .u64 s), (Value.slice none 0 0), (Value.slice none 0 0), (Value.bool false)]) := (Option.some.inj ((hdp99 8 _ 40 (by kernel_rfl) rfl rfl).1 1 rfl)).symm
  refine op_box (cs := [v95, (Value.int .u64 s), (Value.slice none 0 0), (Value.slice none 0 0), (Value.bool false)]) (ev_base hN99 rfl q99_40) rfl ?_
  intro w100 b101 lo_b101 hi_b101 hB103 E102
  have z_w100 := E102.size
  have hl := hl.keep0 E102
  have hM88 := hM88.keep0 E102
  have hk := hk.keep0 E102
  have hO95 := hO95.keep0 E102
  have hb := grow_step0 hb E102
  refine ke_end rfl (by decide) rfl hk ?_
  intro w104 E104 a104 hN104 hd104 hbs104 hph104
  have hd104 := hd104.trans ((by simp only [putsL_defers] : _ = _).trans hd)
  have z_w104 := E104.size
  have hl := hl.keep0 E104
  have hM88 := hM88.keep0 E104
  have hk := hk.keep0 E104
  have hO95 := hO95.keep0 E104
  have hB103 := hB103.keep0 E104
  have hb := grow_step0 hb E104
  have s104_8 := (hbs104 8 rfl).trans (sl_hit hN rfl)
  have s104_35 : Sl a104 35 (Value.map (some m87)) := (hph104 3 _ 35 rfl rfl).2 rfl
  have s104_36 : Sl a104 36 (Value.int .i64 n) := (hph104 4 _ 36 rfl rfl).2 rfl
  have s104_41 : Sl a104 41 (ptr b101 0) := (Option.some.inj ((hph104 9 _ 41 rfl rfl).1 2 rfl)).symm
  refine split_end ?_
  refine from_seq (tl := [_]) (by decide) (by kernel_rfl) rfl ?_
  have hM88_old := hM88
  refine op_mapput (k := n) (v := b101) Try.underlying119 (Go.Gx.key_int Try.underlying3) (ev_base hN104 rfl s104_35) (ev_base hN104 rfl s104_36) (ev_base hN104 rfl s104_41) hM88 ?_
  intro w105 hM107 E106
  have z_w105 := E106.size
  have hl := hl.keepM hM88_old E106
  have hk := hk.keepM hM88_old E106
  have hO95 := hO95.keepM hM88_old E106
  have hB103 := hB103.keepM hM88_old E106
  have hb := grow_step1 hb E106 (by omega)
  refine reg_nil ?_
  refine hK93 _ _ ?_
  refine seq_any fun K108 hK108 => ?_
  refine one_reg ?_
  refine op_assign rfl ?_
  refine reg_nil ?_
  refine hK108 _ _ ?_
  refine wp_ret ?_
  refine ret1 rfl hd104 (ev_hit hN104 rfl) ⟨_, rfl, ?_⟩
  -- path
  exact ⟨hb, rfl, m87, b101, _, by omega, by omega, hk, hB103, hO95, hM107⟩

theorem lockNew_ret (w : World) : Ret Try.prog 53 #[] w (fun v' w' => Below w.heap.size w w' ∧ ∃ k, w.heap.size ≤ k ∧ v' = ptr k 0 ∧ Bx w' k 121 [.map none]) := by
 have hb := Below.refl w.heap.size w
 refine enter (N := 3) Try.func53 rfl rfl (by simp) fun a0 hN hd hA => ?_
 clear hA
 refine seq_any fun K109 hK109 => ?_
 refine one_reg ?_
 refine op_assign rfl ?_
 refine reg_nil ?_
 refine hK109 _ _ ?_
 refine seq_any fun K110 hK110 => ?_
 refine one_reg ?_
 refine op_build (pv := []) (v := (Value.agg #[(Value.map none)])) trivial (by kernel_rfl) ?_
 refine op_box (cs := [(Value.map none)]) (ev_hit hN rfl) rfl ?_
 intro w111 b112 lo_b112 hi_b112 hB114 E113
 have z_w111 := E113.size
 have hb := below_step0 hb E113 hb.size
 refine op_assign (ev_hit hN rfl) ?_
 refine reg_nil ?_
 refine hK110 _ _ ?_
 refine wp_ret ?_
 refine ret1 rfl hd (ev_hit hN rfl) ⟨_, rfl, ?_⟩
 -- path
 exact ⟨hb, b112, by omega, rfl, hB114⟩

end Go.Proofs.Ytmhdbphpmgjpcaa

/- Walks, written by a program: what each function of the translation hands back. -/
namespace Go.Proofs.Ytmhdbphpmgjpcaa
open Go.Gx Go.RowKit
attribute [local irreducible] wpList wpStill Code.wp Calls

theorem keys_ret {m : Nat} (w : World) : Ret Try.prog 120 #[(Value.map (some m))] w (fun v' w' => Below w.heap.size w w' ∧ ∃ b, w.heap.size ≤ b ∧ v' = .func (.func 138) #[] #[ptr b 0] ∧ Bx w' b 119 [.map (some m)]) := by
 have hb := Below.refl w.heap.size w
 refine enter (N := 4) Try.func120 rfl rfl (by simp) fun a0 hN hd hA => ?_
 have s0 : a0.tmps.getD 0 undef = (Value.map (some m)) := hA 0 (by simp)
 clear hA
 refine seq_any fun K1 hK1 => ?_
 refine one_reg ?_
 refine op_box (cs := [(Value.map (some m))]) (ev_base hN rfl s0) rfl ?_
 intro w2 b3 lo_b3 hi_b3 hB5 E4
 have z_w2 := E4.size
 have hb := below_step0 hb E4 hb.size
 refine op_assign rfl ?_
 refine reg_nil ?_
 refine hK1 _ _ ?_
 refine seq_any fun K6 hK6 => ?_
 refine one_reg ?_
 refine op_mkfn (cv := [(ptr b3 0)]) ⟨(ev_hit hN rfl), trivial⟩ ?_
 refine op_assign (ev_hit hN rfl) ?_
 refine reg_nil ?_
 refine hK6 _ _ ?_
 refine wp_ret ?_
 refine ret1 rfl hd (ev_hit hN rfl) ⟨_, rfl, ?_⟩
 -- path
 exact ⟨hb, b3, by omega, rfl, hB5⟩

theorem others_ret {base k m : Nat} {M : TM} {C : List TC} {F0 : Nat → Prop} {q : List UInt16 → Bool} (n : Int) {w : World} (hbase : base ≤ w.heap.size) (hk : Bx w k 121 [.map (some m)]) (hM : MapC (Value.int .i64) pv w m (esOf M C)) (hA : LkAll w base M C F0) (hMo : MOk M) {g : Nat} {fs cs : List Value} (hokg : callOk Try.prog g = true) (hf : ∀ j, j < M.length → ∀ w1, Below w.heap.size w w1 → Ret Try.prog g (fs ++ [(C.getD j default).la] ++ cs).toArray w1 (fun v' w' => Below w1.heap.size w1 w' ∧ v' = .bool (q (M.getD j default).2.label))) : Ret Try.prog 96 #[(ptr k 0), (Value.int .i64 n), (Value.func (.func g) fs.toArray cs.toArray)] w (fun v' w' => Below w.heap.size w w' ∧ Own w' w.heap.size 3 1 v' (othersL M n q).length ((othersL M n q).map (Value.int .i64))) := by
 have hi_k := hk.lt
 have hi_m := hM.lt
 have hsl := sortK_len (M := M)
 have hm1 := hMo.1
 have djk := hA.notBx hk (by decide) (by decide) (by decide) (by decide)
 have djm := hA.notMap hM
 have hb := Below.refl w.heap.size w
 refine enter (N := 43) Try.func96 rfl rfl (by simp) fun a0 hN hd hA => ?_
 have s0 : a0.tmps.getD 0 undef = (ptr k 0) := hA 0 (by simp)
 have s1 : a0.tmps.getD 1 undef = (Value.int .i64 n) := hA 1 (by simp)
 have s2 : a0.tmps.getD 2 undef = (Value.func (.func g) fs.toArray cs.toArray) := hA 2 (by simp)
 clear hA
 refine seq_any fun K7 hK7 => ?_
 refine one_reg ?_
 refine op_assign rfl ?_
 refine reg_nil ?_
 refine hK7 _ _ ?_
 refine seq_any fun K8 hK8 => ?_
 refine one_reg ?_
 refine op_assign rfl ?_
 refine reg_nil ?_
 refine hK8 _ _ ?_
 refine seq_any fun K9 hK9 => ?_
 refine seq_any fun K10 hK10 => ?_
 refine one_reg ?_
 refine op_move (ev_base hN rfl s0) ?_
 refine op_nil (ev_hit hN rfl) ?_
 refine op_field fld121_0 (ev_hit hN rfl) ?_
 refine op_load1 (v := (Value.map (some m))) one119 (ev_hit hN rfl) (hk.cell rfl) ?_
 refine op_fn (vs := [(Value.map (some m))]) ok120 ⟨(ev_hit hN rfl), trivial⟩ (keys_ret _) ?_
 rintro _ w12 ⟨E13, b11, lo_b11, rfl, hB11⟩
 have E13 := grown_of_below E13
 have z_w12 := E13.size
 have hk := hk.keep0 E13
 have hM := hM.keep0 E13
 have hA := hA.keepG (Gr.of0 E13 NoB) (fun _ _ h => h)
 have hb := below_step0 hb E13 hb.size
 refine op_fn (vs := [(Value.func (.func 138) #[] #[(ptr b11 0)])]) ok119 ⟨(ev_hit hN rfl), trivial⟩ (sortedKeys_ret hM (es_wf hA.1 hMo) (by rw [esOf_len hA.1]; have := hMo.1; omega) hB11) ?_
 rintro v14 w15 ⟨E16, hO14⟩
 have dj17 : Dj F0 (Bl v14) := Dj.fresh (fun k hk => (hA.lt k hk).2) (fun k hk => (hO14.lt k hk).1)
 have E16 := grown_of_below E16
 have z_w15 := E16.size
 have hk := hk.keep0 E16
 have hM := hM.keep0 E16
 have hA := hA.keepG (Gr.of0 E16 NoB) (fun _ _ h => h)
 have hB11 := hB11.keep0 E16
 have hb := below_step0 hb E16 hb.size
 rw [keysUp_eq hA.1] at hO14
 have hO14 := hO14.mono (base' := w.heap.size) (by omega)
 refine op_len_rd Try.underlying35 (ev_hit hN rfl) hO14.rdw ?_
 refine op_move rfl ?_
 refine reg_nil ?_
 refine hK10 _ _ ?_
 refine wp_block ?_
 refine loop_m (fun mz_ az_ w' => ∃ (i : Nat) (r : Value), mz_ = (sortK M).length - i ∧ (az_.tmps.getD 0 undef = (ptr k 0)) ∧ (az_.tmps.getD 1 undef = (Value.int .i64 n)) ∧ (az_.tmps.getD 2 undef = (Value.func (.func g) fs.toArray cs.toArray)) ∧ (az_.tmps.getD 6 undef = (Value.slice none 0 0)) ∧ (az_.tmps.getD 15 undef = v14) ∧ (az_.tmps.getD 16 undef = (Value.int .i64 (((sortK M).length : Nat) : Int))) ∧ (az_.tmps.getD 17 undef = (Value.int .i64 ((i : Nat) : Int))) ∧ (az_.tmps.getD 7 undef = r) ∧ (i ≤ (sortK M).length) ∧ ((((sortK M).take i).filter (fun i => decide (i ≠ n) && q (txAt M i).label)).length ≤ i) ∧ (DJ v14 r) ∧ (Below w.heap.size w w') ∧ (w15.heap.size ≤ w'.heap.size) ∧ (Bx w' k 121 [(Value.map (some m))]) ∧ (MapC (Value.int .i64) pv w' m (esOf M C)) ∧ (LkAll w' base M C F0) ∧ (Bx w' b11 119 [(Value.map (some m))]) ∧ (Own w' w.heap.size 3 1 v14 (sortK M).length ((sortK M).map (Value.int .i64))) ∧ (Own w' w.heap.size 3 1 r (((sortK M).take i).filter (fun i => decide (i ≠ n) && q (txAt M i).label)).length ((((sortK M).take i).filter (fun i => decide (i ≠ n) && q (txAt M i).label)).map (Value.int .i64)))) _ hN hd ⟨0, (Value.slice none 0 0), rfl, (sl_base hN rfl s0), (sl_base hN rfl s1), (sl_base hN rfl s2), (sl_hit hN rfl), (sl_hit hN rfl), (sl_hit hN rfl), (sl_hit hN rfl), (sl_hit hN rfl), (Nat.zero_le _), (by simp), (Dj.nil _), hb, (Nat.le_refl _), hk, hM, hA, hB11, hO14, (Own.nil _ _ _ _)⟩ ?_
 rintro _ a18 w18 hN18 hd18 ⟨i, r, rfl, s18_0, s18_1, s18_2, s18_6, s18_15, s18_16, s18_17, s18_7, hi, hfl, djr, hb, zl_w18, hk, hM, hA, hB11, hO14, hO19⟩
 have z_w18 := hb.size
 refine seq_any fun K20 hK20 => ?_
 refine one_reg ?_
 refine op_lss (ev_base hN18 rfl s18_17) (ev_base hN18 rfl s18_16) (fun c18 => ?_) (fun c18 => ?_)
 · -- 18T
  refine reg_nil ?_
  refine hK20 _ _ ?_
  refine seq_any fun K21 hK21 => ?_
  refine wp_cond_true (ev_hit hN18 rfl) ?_
  refine wp_skip ?_
  refine hK21 _ _ ?_
  refine seq_any fun K22 hK22 => ?_
  refine wp_block ?_
  refine seq_any fun K23 hK23 => ?_
  refine one_reg ?_
  refine op_index_rd slt35 (ev_base hN18 rfl s18_15) hO14.rdw (ev_base hN18 rfl s18_17) (by omega) (by omega) ?_
  intro b24 o25 h0b24 h1b24 hc26
  refine op_load1 (v := (Value.int .i64 ((sortK M).getD i 0))) one3 (ev_hit hN18 rfl) (by have := hc26 0 (Value.int .i64 ((sortK M).getD i 0)) (by decide) (el_i64 (i := i) (by omega) (by omega)); simpa using this) ?_
  refine op_assign (ev_hit hN18 rfl) ?_
  refine reg_nil ?_
  refine hK23 _ _ ?_
  refine seq_any fun K27 hK27 => ?_
  refine one_reg ?_
  refine op_move (ev_hit hN18 rfl) ?_
  refine op_move (ev_base hN18 rfl s18_1) ?_
  refine op_neq (ev_hit hN18 rfl) (ev_hit hN18 rfl) (fun c23 => ?_) (fun c23 => ?_)
  · -- 23T
   refine op_move (ev_hit hN18 rfl) ?_
   have hx9 : (sortK M).getD i 0 ∈ M.map Prod.fst := sortK_mem.1 (getD_mem (by omega))
   obtain ⟨T9, hT9⟩ := mget_key hx9
   obtain ⟨j9, p9, la9, rv9, wv9, D9, hj9, hl9, hMj9, hCj9, hes9, hp9, hx9, hL9, hR9, hD9, hW9, hDe9⟩ := LkAll.key hA hT9
   have ht9 : txAt M ((sortK M).getD i 0) = T9 := by unfold txAt; rw [hT9]; rfl
   refine g_true (j := 3) (dj := 24) (b := true) rfl rfl rfl (ev_hit hN18 rfl) ?_
   refine op_move (ev_base hN18 rfl s18_2) ?_
   refine g_true (j := 3) (dj := 24) (b := true) rfl rfl rfl (ev_hit hN18 rfl) ?_
   refine op_move (ev_base hN18 rfl s18_0) ?_
   refine g_true (j := 3) (dj := 24) (b := true) rfl rfl rfl (ev_hit hN18 rfl) ?_
   refine op_nil (ev_hit hN18 rfl) ?_
   refine g_true (j := 3) (dj := 24) (b := true) rfl rfl rfl (ev_hit hN18 rfl) ?_
   refine op_field fld121_0 (ev_hit hN18 rfl) ?_
   refine g_true (j := 3) (dj := 24) (b := true) rfl rfl rfl (ev_hit hN18 rfl) ?_
   refine op_load1 (v := (Value.map (some m))) one119 (ev_hit hN18 rfl) (hk.cell rfl) ?_
   refine g_true (j := 3) (dj := 24) (b := true) rfl rfl rfl (ev_hit hN18 rfl) ?_
   refine op_move (ev_hit hN18 rfl) ?_
   refine g_true (j := 3) (dj := 24) (b := true) rfl rfl rfl (ev_hit hN18 rfl) ?_
   refine op_look_hit (k := ((sortK M).getD i 0)) (v := p9) Try.underlying119 (Go.Gx.key_int Try.underlying3) zero155 (ev_hit hN18 rfl) (ev_hit hN18 rfl) hM hes9 ?_
   refine g_true (j := 3) (dj := 24) (b := true) rfl rfl rfl (ev_hit hN18 rfl) ?_
   refine op_nil (ev_hit hN18 rfl) ?_
   refine g_true (j := 3) (dj := 24) (b := true) rfl rfl rfl (ev_hit hN18 rfl) ?_
   refine op_field fld164_0 (ev_hit hN18 rfl) ?_
   refine g_true (j := 3) (dj := 24) (b := true) rfl rfl rfl (ev_hit hN18 rfl) ?_
   refine op_load1 (v := la9) one54 (ev_hit hN18 rfl) (hx9.cell rfl) ?_
   refine g_true (j := 3) (dj := 24) (b := true) rfl rfl rfl (ev_hit hN18 rfl) ?_
   refine op_fnv (fs := fs) (vs := [la9]) (cs := cs) (ev_hit hN18 rfl) hokg ⟨(ev_hit hN18 rfl), trivial⟩ ((by have h9 := hf j9 hj9 _ hb; rw [hCj9, hMj9] at h9; exact h9)) ?_
   rintro _ w28 ⟨E29, rfl⟩
   have E29 := grown_of_below E29
   have z_w28 := E29.size
   have hk := hk.keep0 E29
   have hM := hM.keep0 E29
   have hA := hA.keepG (Gr.of0 E29 NoB) (fun _ _ h => h)
   have hB11 := hB11.keep0 E29
   have hO14 := hO14.keep0 E29
   have hO19 := hO19.keep0 E29
   have hx9 := hx9.keep0 E29
   have hL9 := hL9.keep0 E29
   have hR9 := hR9.keep0 E29
   have hD9 : ∀ x9 ∈ (D9.map rdL), Own w28 base 46 1 x9.1 x9.2.length (x9.2.map u16v) := fun x9 hx9 => (hD9 x9 hx9).keep0 E29
   have hW9 := hW9.keep0 E29
   have hb := below_step0 hb E29 hb.size
   rcases Bool.eq_false_or_eq_true ((q T9.label)) with c35 | c35
   · -- 35T
    rw [c35]
    refine op_pick_t (ev_hit hN18 rfl) (ev_hit hN18 rfl) ?_
    refine reg_nil ?_
    refine hK27 _ _ ?_
    refine wp_cond_true (ev_hit hN18 rfl) ?_
    refine one_reg ?_
    refine op_move (ev_base hN18 rfl s18_7) ?_
    refine op_move (ev_hit hN18 rfl) ?_
    refine op_bslice (e := 3) (pv := [(0, (Value.int .i64 ((sortK M).getD i 0)))]) (cs := [(Value.int .i64 ((sortK M).getD i 0))]) ⟨rfl, (ev_hit hN18 rfl), trivial⟩ (by kernel_rfl) ?_
    intro w30 b31 lo_b31 hi_b31 hB33 E32
    have dj34 : ¬ F0 b31 := fun hf => by have := (hA.lt _ hf).2; omega
    have ne_b31_v14 : v14.ownBlock ≠ some b31 := fun hh => by have := (hO14.lt _ hh).2; omega
    have ne_b31_r : r.ownBlock ≠ some b31 := fun hh => by have := (hO19.lt _ hh).2; omega
    have z_w30 := E32.size
    have hk := hk.keep0 E32
    have hM := hM.keep0 E32
    have hA := hA.keepG (Gr.of0 E32 NoB) (fun _ _ h => h)
    have hB11 := hB11.keep0 E32
    have hO14 := hO14.keep0 E32
    have hO19 := hO19.keep0 E32
    have hx9 := hx9.keep0 E32
    have hL9 := hL9.keep0 E32
    have hR9 := hR9.keep0 E32
    have hD9 : ∀ x9 ∈ (D9.map rdL), Own w30 base 46 1 x9.1 x9.2.length (x9.2.map u16v) := fun x9 hx9 => (hD9 x9 hx9).keep0 E32
    have hW9 := hW9.keep0 E32
    have hb := below_step0 hb E32 hb.size
    have hP40 := hO19
    refine op_append slt35 (ev_hit hN18 rfl) hP40 (ev_hit hN18 rfl) (Src.ofRd Try.underlying35 (by decide) (RdC.ofBx (sz := 1) (n := 1) hB33 rfl (by decide)) (by simp [Value.oneCell', u8v])) (by unfold maxLen; omega) (by omega) hb.size ?_
    intro v35 w36 hO38 E37 hm39
    have dj41 : DJ v14 v35 := DJ.step hm39 (fun k hk => (hO14.lt k hk).2) djr
    have dj42 : Dj F0 (Bl v35) := Dj.step hm39 (fun k hk => (hA.lt k hk).2) (hA.notOwn hP40 (by decide) (by decide) (by decide) (by decide)).symm
    have z_w36 := E37.size
    have hk := hk.keepO hP40 E37 (by decide)
    have hM := hM.keepO hP40 E37
    have hA := hA.keepG (Gr.of E37) (hA.notOwn hP40 (by decide) (by decide) (by decide) (by decide)).symm
    have hB11 := hB11.keepO hP40 E37 (by decide)
    have hO14 := hO14.keepD E37 djr
    have hx9 := hx9.keepO hP40 E37 (by decide)
    have hL9 := hL9.keepT hP40 E37 (by decide)
    have hR9 := hR9.keepT hP40 E37 (by decide)
    have hD9 : ∀ x9 ∈ (D9.map rdL), Own w36 base 46 1 x9.1 x9.2.length (x9.2.map u16v) := fun x9 hx9 => (hD9 x9 hx9).keepT hP40 E37 (by decide)
    have hW9 := hW9.keepT hP40 E37 (by decide)
    have hB33 := hB33.keep E37 (fun hh => ne_b31_r hh.symm)
    have hb := below_stepO hb hP40 E37 hb.size (by omega)
    have hO38 : Own w36 w.heap.size 3 1 v35 ((((sortK M).take i).filter (fun i => decide (i ≠ n) && q (txAt M i).label)).length + 1) ((((((sortK M).take i).filter (fun i => decide (i ≠ n) && q (txAt M i).label)) ++ [((sortK M).getD i 0)])).map (Value.int .i64)) := by simpa [u8v, u16v, sv] using hO38
    have ne_b31_v35 : v35.ownBlock ≠ some b31 := ne_step (w1 := w30) ⟨E37, hm39⟩ (by omega) ne_b31_r
    refine op_assign (ev_hit hN18 rfl) ?_
    refine reg_nil ?_
    refine hK22 _ _ ?_
    refine one_reg ?_
    refine op_add (ev_base hN18 rfl s18_17) rfl (add64 (by omega)) ?_
    refine op_move (ev_hit hN18 rfl) ?_
    refine reg_nil ?_
    -- round 18T 23T 35T
    exact loop_next _ hN18 hd18 ⟨(i + 1), v35, rfl, (sl_base hN18 rfl s18_0), (sl_base hN18 rfl s18_1), (sl_base hN18 rfl s18_2), (sl_base hN18 rfl s18_6), (sl_base hN18 rfl s18_15), (sl_base hN18 rfl s18_16), (sl_hit hN18 rfl).trans (congrArg (Value.int .i64) (by omega)), (sl_hit hN18 rfl), (by omega), (filt_le (by omega)), dj41, hb, (by omega), hk, hM, hA, hB11, hO14, (hO38.cast (by rw [filtT (d := 0) (by omega) (by rw [decide_eq_true c23, ht9, c35]; rfl)]; simp) (by rw [filtT (d := 0) (by omega) (by rw [decide_eq_true c23, ht9, c35]; rfl)]))⟩ (by omega)
   · -- 35F
    rw [c35]
    refine op_pick_t (ev_hit hN18 rfl) (ev_hit hN18 rfl) ?_
    refine reg_nil ?_
    refine hK27 _ _ ?_
    refine wp_cond_false (ev_hit hN18 rfl) ?_
    refine wp_skip ?_
    refine hK22 _ _ ?_
    refine one_reg ?_
    refine op_add (ev_base hN18 rfl s18_17) rfl (add64 (by omega)) ?_
    refine op_move (ev_hit hN18 rfl) ?_
    refine reg_nil ?_
    -- round 18T 23T 35F
    exact loop_next _ hN18 hd18 ⟨(i + 1), r, rfl, (sl_base hN18 rfl s18_0), (sl_base hN18 rfl s18_1), (sl_base hN18 rfl s18_2), (sl_base hN18 rfl s18_6), (sl_base hN18 rfl s18_15), (sl_base hN18 rfl s18_16), (sl_hit hN18 rfl).trans (congrArg (Value.int .i64) (by omega)), (sl_base hN18 rfl s18_7), (by omega), (filt_le (by omega)), djr, hb, (by omega), hk, hM, hA, hB11, hO14, (hO19.cast (by rw [filtF (d := 0) (by omega) (by rw [ht9, c35, Bool.and_false])]) (by rw [filtF (d := 0) (by omega) (by rw [ht9, c35, Bool.and_false])]))⟩ (by omega)
  · -- 23F
   refine op_move (ev_hit hN18 rfl) ?_
   have hx9 : (sortK M).getD i 0 ∈ M.map Prod.fst := sortK_mem.1 (getD_mem (by omega))
   obtain ⟨T9, hT9⟩ := mget_key hx9
   obtain ⟨j9, p9, la9, rv9, wv9, D9, hj9, hl9, hMj9, hCj9, hes9, hp9, hx9, hL9, hR9, hD9, hW9, hDe9⟩ := LkAll.key hA hT9
   have ht9 : txAt M ((sortK M).getD i 0) = T9 := by unfold txAt; rw [hT9]; rfl
   refine g_false (j := 3) (dj := 24) (b := true) rfl rfl rfl (ev_hit hN18 rfl) rfl rfl ?_
   refine g_false (j := 3) (dj := 24) (b := true) rfl rfl rfl (ev_hit hN18 rfl) rfl rfl ?_
   refine g_false (j := 3) (dj := 24) (b := true) rfl rfl rfl (ev_hit hN18 rfl) rfl rfl ?_
   refine g_false (j := 3) (dj := 24) (b := true) rfl rfl rfl (ev_hit hN18 rfl) rfl rfl ?_
   refine g_false (j := 3) (dj := 24) (b := true) rfl rfl rfl (ev_hit hN18 rfl) rfl rfl ?_
   refine g_false (j := 3) (dj := 24) (b := true) rfl rfl rfl (ev_hit hN18 rfl) rfl rfl ?_
   refine g_false (j := 3) (dj := 24) (b := true) rfl rfl rfl (ev_hit hN18 rfl) rfl rfl ?_
   refine g_false (j := 3) (dj := 24) (b := true) rfl rfl rfl (ev_hit hN18 rfl) rfl rfl ?_
   refine g_false (j := 3) (dj := 24) (b := true) rfl rfl rfl (ev_hit hN18 rfl) rfl rfl ?_
   refine g_false (j := 3) (dj := 24) (b := true) rfl rfl rfl (ev_hit hN18 rfl) rfl rfl ?_
   refine g_false (j := 3) (dj := 24) (b := true) rfl rfl rfl (ev_hit hN18 rfl) rfl rfl ?_
   refine op_pick_f (ev_hit hN18 rfl) rfl ?_
   refine reg_nil ?_
   refine hK27 _ _ ?_
   refine wp_cond_false (ev_hit hN18 rfl) ?_
   refine wp_skip ?_
   refine hK22 _ _ ?_
   refine one_reg ?_
   refine op_add (ev_base hN18 rfl s18_17) rfl (add64 (by omega)) ?_
   refine op_move (ev_hit hN18 rfl) ?_
   refine reg_nil ?_
   -- round 18T 23F
   exact loop_next _ hN18 hd18 ⟨(i + 1), r, rfl, (sl_base hN18 rfl s18_0), (sl_base hN18 rfl s18_1), (sl_base hN18 rfl s18_2), (sl_base hN18 rfl s18_6), (sl_base hN18 rfl s18_15), (sl_base hN18 rfl s18_16), (sl_hit hN18 rfl).trans (congrArg (Value.int .i64) (by omega)), (sl_base hN18 rfl s18_7), (by omega), (filt_le (by omega)), djr, hb, (by omega), hk, hM, hA, hB11, hO14, (hO19.cast (by rw [filtF (d := 0) (by omega) (by rw [decide_eq_false (fun h => h c23)]; rfl)]) (by rw [filtF (d := 0) (by omega) (by rw [decide_eq_false (fun h => h c23)]; rfl)]))⟩ (by omega)
 · -- 18F
  refine reg_nil ?_
  refine hK20 _ _ ?_
  refine seq_any fun K43 hK43 => ?_
  refine wp_cond_false (ev_hit hN18 rfl) ?_
  refine wp_exit (then_exit (then_exit (blk_hit ?_)))
  refine hK9 _ _ ?_
  refine seq_any fun K44 hK44 => ?_
  refine one_reg ?_
  refine op_move (ev_base hN18 rfl s18_7) ?_
  refine op_assign (ev_hit hN18 rfl) ?_
  refine reg_nil ?_
  refine hK44 _ _ ?_
  refine wp_ret ?_
  refine ret1 rfl hd18 (ev_hit hN18 rfl) ⟨_, rfl, ?_⟩
  -- path 18F
  rw [List.take_of_length_le (by omega)] at hO19
  exact ⟨hb, hO19⟩

end Go.Proofs.Ytmhdbphpmgjpcaa

/- Walks, written by a program: what each function of the translation hands back. -/
namespace Go.Proofs.Ytmhdbphpmgjpcaa
open Go.Gx Go.RowKit
attribute [local irreducible] wpList wpStill Code.wp Calls

theorem ask1 {base : Nat} {la rv wv : Value} {lab : List UInt16} {stp : Int} {dm : Bool} {p tb : Nat} {l : List UInt16} {lv : Value} {w : World} (hb9 : Bx w tb 155 [ptr p 0]) (hx : Bx w p 164 [la, .int .u64 stp, rv, wv, .bool dm]) (hLa : Own w base 46 1 la lab.length (lab.map u16v)) (hl : RdC w 0 w.heap.size 1 lv l.length (l.map u16v)) (h8 : lab.length ≤ 8) (hl8 : l.length ≤ 8) : Ret Try.prog 97 #[lv, (ptr tb 0)] w (fun v' w' => Below w.heap.size w w' ∧ v' = .bool (decide (l = lab))) := by
 have hb := Below.refl w.heap.size w
 refine enter (N := 11) Try.func97 rfl rfl (by simp) fun a0 hN hd hA => ?_
 have s0 : a0.tmps.getD 0 undef = lv := hA 0 (by simp)
 have s1 : a0.tmps.getD 1 undef = (ptr tb 0) := hA 1 (by simp)
 clear hA
 refine seq_any fun K1 hK1 => ?_
 refine one_reg ?_
 refine op_assign rfl ?_
 refine reg_nil ?_
 refine hK1 _ _ ?_
 refine seq_any fun K2 hK2 => ?_
 refine one_reg ?_
 refine op_move (ev_base hN rfl s0) ?_
 refine op_load1 (v := (ptr p 0)) one155 (ev_base hN rfl s1) (hb9.cell rfl) ?_
 refine op_nil (ev_hit hN rfl) ?_
 refine op_field fld164_0 (ev_hit hN rfl) ?_
 refine op_load1 (v := la) one54 (ev_hit hN rfl) (hx.cell rfl) ?_
 refine op_fn (vs := [lv, la]) ok98 ⟨(ev_hit hN rfl), ⟨(ev_hit hN rfl), trivial⟩⟩ (lcmpW_ret l lab _ _ _ (by first | assumption | omega | (simp only [List.length_append, List.length_cons, List.length_nil, List.length_drop, List.length_take]; omega) | (dsimp only; omega) | decide | (simp [keyV, be8_len]; done)) (by first | assumption | omega | (simp only [List.length_append, List.length_cons, List.length_nil, List.length_drop, List.length_take]; omega) | (dsimp only; omega) | decide | (simp [keyV, be8_len]; done)) (show RdC w 0 w.heap.size 1 lv l.length (l.map u16v) from by have hh : RdC w 0 w.heap.size 1 _ _ _ := (hl.mono (L' := 0) (B' := w.heap.size) (Nat.zero_le _) (by omega)); first | exact hh | exact hh.cast (by first | omega | (simp; try omega)) (by first | rfl | simp [u16v])) (show RdC w 0 w.heap.size 1 la lab.length (lab.map u16v) from by have hh : RdC w 0 w.heap.size 1 _ _ _ := (hLa.rdw.mono (L' := 0) (B' := w.heap.size) (Nat.zero_le _) (by omega)); first | exact hh | exact hh.cast (by first | omega | (simp; try omega)) (by first | rfl | simp [u16v]))) ?_
 rintro _ w3 ⟨E4, rfl⟩
 have E4 := grown_of_below E4
 have z_w3 := E4.size
 have hb9 := hb9.keep0 E4
 have hx := hx.keep0 E4
 have hLa := hLa.keep0 E4
 have hl := hl.keep0 E4
 have hb := below_step0 hb E4 hb.size
 refine op_eql (ev_hit hN rfl) rfl (fun c10 => ?_) (fun c10 => ?_)
 · -- 10T
  refine op_assign (ev_hit hN rfl) ?_
  refine reg_nil ?_
  refine hK2 _ _ ?_
  refine wp_ret ?_
  refine ret1 rfl hd (ev_hit hN rfl) ⟨_, rfl, ?_⟩
  -- path 10T
  exact ⟨hb, congrArg Value.bool (decide_eq_true (cmpL_zero.1 c10)).symm⟩
 · -- 10F
  refine op_assign (ev_hit hN rfl) ?_
  refine reg_nil ?_
  refine hK2 _ _ ?_
  refine wp_ret ?_
  refine ret1 rfl hd (ev_hit hN rfl) ⟨_, rfl, ?_⟩
  -- path 10F
  exact ⟨hb, congrArg Value.bool (decide_eq_false (fun h => c10 (cmpL_zero.2 h))).symm⟩

theorem com1 {base : Nat} {la rv wv : Value} {lab : List UInt16} {stp : Int} {dm : Bool} {p tb : Nat} {l : List UInt16} {lv : Value} {w : World} (hb9 : Bx w tb 155 [ptr p 0]) (hx : Bx w p 164 [la, .int .u64 stp, rv, wv, .bool dm]) (hLa : Own w base 46 1 la lab.length (lab.map u16v)) (hl : RdC w 0 w.heap.size 1 lv l.length (l.map u16v)) (h8 : lab.length ≤ 8) (hl8 : l.length ≤ 8) : Ret Try.prog 105 #[lv, (ptr tb 0)] w (fun v' w' => Below w.heap.size w w' ∧ v' = .bool (decide (l ≠ lab) && flowsL lab l)) := by
 have hb := Below.refl w.heap.size w
 refine enter (N := 19) Try.func105 rfl rfl (by simp) fun a0 hN hd hA => ?_
 have s0 : a0.tmps.getD 0 undef = lv := hA 0 (by simp)
 have s1 : a0.tmps.getD 1 undef = (ptr tb 0) := hA 1 (by simp)
 clear hA
 refine seq_any fun K5 hK5 => ?_
 refine one_reg ?_
 refine op_assign rfl ?_
 refine reg_nil ?_
 refine hK5 _ _ ?_
 refine seq_any fun K6 hK6 => ?_
 refine one_reg ?_
 refine op_move (ev_base hN rfl s0) ?_
 refine op_load1 (v := (ptr p 0)) one155 (ev_base hN rfl s1) (hb9.cell rfl) ?_
 refine op_nil (ev_hit hN rfl) ?_
 refine op_field fld164_0 (ev_hit hN rfl) ?_
 refine op_load1 (v := la) one54 (ev_hit hN rfl) (hx.cell rfl) ?_
 refine op_fn (vs := [lv, la]) ok98 ⟨(ev_hit hN rfl), ⟨(ev_hit hN rfl), trivial⟩⟩ (lcmpW_ret l lab _ _ _ (by first | assumption | omega | (simp only [List.length_append, List.length_cons, List.length_nil, List.length_drop, List.length_take]; omega) | (dsimp only; omega) | decide | (simp [keyV, be8_len]; done)) (by first | assumption | omega | (simp only [List.length_append, List.length_cons, List.length_nil, List.length_drop, List.length_take]; omega) | (dsimp only; omega) | decide | (simp [keyV, be8_len]; done)) (show RdC w 0 w.heap.size 1 lv l.length (l.map u16v) from by have hh : RdC w 0 w.heap.size 1 _ _ _ := (hl.mono (L' := 0) (B' := w.heap.size) (Nat.zero_le _) (by omega)); first | exact hh | exact hh.cast (by first | omega | (simp; try omega)) (by first | rfl | simp [u16v])) (show RdC w 0 w.heap.size 1 la lab.length (lab.map u16v) from by have hh : RdC w 0 w.heap.size 1 _ _ _ := (hLa.rdw.mono (L' := 0) (B' := w.heap.size) (Nat.zero_le _) (by omega)); first | exact hh | exact hh.cast (by first | omega | (simp; try omega)) (by first | rfl | simp [u16v]))) ?_
 rintro _ w7 ⟨E8, rfl⟩
 have E8 := grown_of_below E8
 have z_w7 := E8.size
 have hb9 := hb9.keep0 E8
 have hx := hx.keep0 E8
 have hLa := hLa.keep0 E8
 have hl := hl.keep0 E8
 have hb := below_step0 hb E8 hb.size
 refine op_neq (ev_hit hN rfl) rfl (fun c10 => ?_) (fun c10 => ?_)
 · -- 10T
  refine op_move (ev_hit hN rfl) ?_
  refine g_true (j := 7) (dj := 11) (b := true) rfl rfl rfl (ev_hit hN rfl) ?_
  refine op_load1 (v := (ptr p 0)) one155 (ev_base hN rfl s1) (hb9.cell rfl) ?_
  refine g_true (j := 7) (dj := 11) (b := true) rfl rfl rfl (ev_hit hN rfl) ?_
  refine op_nil (ev_hit hN rfl) ?_
  refine g_true (j := 7) (dj := 11) (b := true) rfl rfl rfl (ev_hit hN rfl) ?_
  refine op_field fld164_0 (ev_hit hN rfl) ?_
  refine g_true (j := 7) (dj := 11) (b := true) rfl rfl rfl (ev_hit hN rfl) ?_
  refine op_load1 (v := la) one54 (ev_hit hN rfl) (hx.cell rfl) ?_
  refine g_true (j := 7) (dj := 11) (b := true) rfl rfl rfl (ev_hit hN rfl) ?_
  refine op_move (ev_base hN rfl s0) ?_
  refine g_true (j := 7) (dj := 11) (b := true) rfl rfl rfl (ev_hit hN rfl) ?_
  refine op_fn (vs := [la, lv]) ok106 ⟨(ev_hit hN rfl), ⟨(ev_hit hN rfl), trivial⟩⟩ (flowsW_ret lab l _ _ _ (by first | assumption | omega | (simp only [List.length_append, List.length_cons, List.length_nil, List.length_drop, List.length_take]; omega) | (dsimp only; omega) | decide | (simp [keyV, be8_len]; done)) (by first | assumption | omega | (simp only [List.length_append, List.length_cons, List.length_nil, List.length_drop, List.length_take]; omega) | (dsimp only; omega) | decide | (simp [keyV, be8_len]; done)) (show RdC w7 0 w7.heap.size 1 la lab.length (lab.map u16v) from by have hh : RdC w7 0 w7.heap.size 1 _ _ _ := (hLa.rdw.mono (L' := 0) (B' := w7.heap.size) (Nat.zero_le _) (by omega)); first | exact hh | exact hh.cast (by first | omega | (simp; try omega)) (by first | rfl | simp [u16v])) (show RdC w7 0 w7.heap.size 1 lv l.length (l.map u16v) from by have hh : RdC w7 0 w7.heap.size 1 _ _ _ := (hl.mono (L' := 0) (B' := w7.heap.size) (Nat.zero_le _) (by omega)); first | exact hh | exact hh.cast (by first | omega | (simp; try omega)) (by first | rfl | simp [u16v]))) ?_
  rintro _ w9 ⟨E10, rfl⟩
  have E10 := grown_of_below E10
  have z_w9 := E10.size
  have hb9 := hb9.keep0 E10
  have hx := hx.keep0 E10
  have hLa := hLa.keep0 E10
  have hl := hl.keep0 E10
  have hb := below_step0 hb E10 hb.size
  refine op_pick_t (ev_hit hN rfl) (ev_hit hN rfl) ?_
  refine op_assign (ev_hit hN rfl) ?_
  refine reg_nil ?_
  refine hK6 _ _ ?_
  refine wp_ret ?_
  refine ret1 rfl hd (ev_hit hN rfl) ⟨_, rfl, ?_⟩
  -- path 10T
  exact ⟨hb, congrArg Value.bool (by rw [decide_eq_true (show l ≠ lab from fun h => c10 (cmpL_zero.2 h)), Bool.true_and])⟩
 · -- 10F
  refine op_move (ev_hit hN rfl) ?_
  refine g_false (j := 7) (dj := 11) (b := true) rfl rfl rfl (ev_hit hN rfl) rfl rfl ?_
  refine g_false (j := 7) (dj := 11) (b := true) rfl rfl rfl (ev_hit hN rfl) rfl rfl ?_
  refine g_false (j := 7) (dj := 11) (b := true) rfl rfl rfl (ev_hit hN rfl) rfl rfl ?_
  refine g_false (j := 7) (dj := 11) (b := true) rfl rfl rfl (ev_hit hN rfl) rfl rfl ?_
  refine g_false (j := 7) (dj := 11) (b := true) rfl rfl rfl (ev_hit hN rfl) rfl rfl ?_
  refine g_false (j := 7) (dj := 11) (b := true) rfl rfl rfl (ev_hit hN rfl) rfl rfl ?_
  refine op_pick_f (ev_hit hN rfl) rfl ?_
  refine op_assign (ev_hit hN rfl) ?_
  refine reg_nil ?_
  refine hK6 _ _ ?_
  refine wp_ret ?_
  refine ret1 rfl hd (ev_hit hN rfl) ⟨_, rfl, ?_⟩
  -- path 10F
  exact ⟨hb, congrArg Value.bool (by rw [decide_eq_false (show ¬ l ≠ lab from fun h => h (cmpL_zero.1 c10)), Bool.false_and])⟩

theorem Ask_hit {base k m : Nat} {M : TM} {C : List TC} {F0 : Nat → Prop} {p : Nat} {T : TX} {FT : Nat → Prop} {Rs : List (List UInt8)} {rsv : Value} {x : List UInt8} {Lr Br : Nat} {n : Int} {w : World} (hbase : base ≤ w.heap.size) (hk : Bx w k 121 [.map (some m)]) (hM : MapC (Value.int .i64) pv w m (esOf M C)) (hA : LkAll w base M C F0) (hMo : MOk M) (hT : mget M n = some T) (hes : mget (esOf M C) n = some p) (hTx : TxR w base p T FT) (hsm : T.reads.length ≤ 50000 ∧ T.writes.length ≤ 50000) (hRl : Rs.length ≤ 1000) (hRs : RdC w Lr Br 1 rsv Rs.length (Rs.map sv)) (hBr : Br ≤ w.heap.size) (hap : ∀ y, FT y → y < Lr ∨ Br ≤ y) : Ret Try.prog 55 #[(ptr k 0), (Value.int .i64 n), rsv, (Value.string (bs x))] w (fun v' w' => Gr w w' FT ∧ v' = .tuple #[.int .i64 (askO M n T Rs x), .int .i64 0] ∧ ∃ FT', TxR w' base p (askT T Rs x (askO M n T Rs x)) FT' ∧ NewF w.heap.size FT FT') := by
 have hi_k := hk.lt
 have hi_m := hM.lt
 have hm1 := hMo.1
 have hT8 : TOk T := (hMo.2 _ (mget_mem hT)).2
 have hl8 := hT8.1
 have hol := others_len (M := M) (n := n) (q := sameQ T)
 have djk := hA.notBx hk (by decide) (by decide) (by decide) (by decide)
 have djm := hA.notMap hM
 have hbT : ∀ y, FT y → base ≤ y := fun y hy => (hTx.lt y hy).1
 have hb := Gr.refl w FT
 refine enter (N := 91) Try.func55 rfl rfl (by simp) fun a0 hN hd hA => ?_
 have s0 : a0.tmps.getD 0 undef = (ptr k 0) := hA 0 (by simp)
 have s1 : a0.tmps.getD 1 undef = (Value.int .i64 n) := hA 1 (by simp)
 have s2 : a0.tmps.getD 2 undef = rsv := hA 2 (by simp)
 have s3 : a0.tmps.getD 3 undef = (Value.string (bs x)) := hA 3 (by simp)
 clear hA
 refine seq_any fun K11 hK11 => ?_
 refine one_reg ?_
 refine op_assign rfl ?_
 refine op_assign rfl ?_
 refine reg_nil ?_
 refine hK11 _ _ ?_
 refine seq_any fun K12 hK12 => ?_
 refine one_reg ?_
 refine op_move (ev_base hN rfl s0) ?_
 refine op_move (ev_base hN rfl s1) ?_
 refine op_fn (vs := [(ptr k 0), (Value.int .i64 n)]) ok95 ⟨(ev_hit hN rfl), ⟨(ev_hit hN rfl), trivial⟩⟩ (Ret.flip (at_hit n hk hM hes)) ?_
 rintro _ _ ⟨rfl, rfl⟩
 refine op_move (ev_hit hN rfl) ?_
 refine op_extract (ev_hit hN rfl) rfl ?_
 refine op_extract (ev_hit hN rfl) rfl ?_
 refine op_alloc (cs := [(Value.pointer none)]) zero155 rfl ?_
 intro w13 b14 lo_b14 hi_b14 hB16 E15
 have dj17 : ¬ F0 b14 := fun hf => by have := (hA.lt _ hf).2; omega
 have dj18 : ¬ FT b14 := fun hf => by have := (hTx.lt _ hf).2; omega
 have z_w13 := E15.size
 have hk := hk.keep0 E15
 have hM := hM.keep0 E15
 have hA := hA.keepG (Gr.of0 E15 NoB) (fun _ _ h => h)
 have hTx := hTx.keepG (Gr.of0 E15 NoB) (fun _ _ h => h)
 have hRs := hRs.keep0 E15
 have hb := hb.step0 E15
 have hB16_old := hB16
 refine op_store (vs := [(ptr p 0)]) (cs' := [(ptr p 0)]) size155 (ev_hit hN rfl) (ev_hit hN rfl) rfl rfl rfl hB16 (Nat.le_of_ble_eq_true rfl) rfl ?_
 intro w21 hB16 E22
 have z_w21 := E22.size
 have hk := hk.keep E22 (fun hh => hk.ne hB16_old (by decide) (Option.some.inj hh))
 have hM := hM.keepB hB16_old E22
 have hA := hA.keepG (Gr.of E22) (Dj.one dj17)
 have hTx := hTx.keepG (Gr.of E22) (Dj.one dj18)
 have hRs := hRs.keep E22 (fun k hk => .inr (by simp at hk; omega))
 have hb := hb.step1 E22 (by omega)
 refine op_assign (ev_hit hN rfl) ?_
 refine reg_nil ?_
 refine hK12 _ _ ?_
 refine seq_any fun K23 hK23 => ?_
 refine seq_any fun K24 hK24 => ?_
 refine one_reg ?_
 refine op_move (ev_hit hN rfl) ?_
 refine op_bin (v := .bool false) (ev_hit hN rfl) rfl (by rw [binOp_neq]; rfl) ?_
 refine reg_nil ?_
 refine hK24 _ _ ?_
 refine wp_cond_false (ev_hit hN rfl) ?_
 refine wp_skip ?_
 refine hK23 _ _ ?_
 refine seq_any fun K25 hK25 => ?_
 refine one_reg ?_
 refine op_assign rfl ?_
 refine reg_nil ?_
 refine hK25 _ _ ?_
 refine seq_any fun K26 hK26 => ?_
 refine seq_any fun K27 hK27 => ?_
 refine one_reg ?_
 refine op_move (ev_base hN rfl s0) ?_
 refine op_move (ev_base hN rfl s1) ?_
 obtain ⟨la0, rv0, wv0, D0, hp0, hx0, hL0, hR0, hD0, hW0, hDe0, hF0⟩ := hTx.parts
 refine op_mkfn (cv := [(ptr b14 0)]) ⟨(ev_hit hN rfl), trivial⟩ ?_
 refine op_fn (vs := [(ptr k 0), (Value.int .i64 n), (Value.func (.func 97) #[] #[(ptr b14 0)])]) ok96 ⟨(ev_hit hN rfl), ⟨(ev_hit hN rfl), ⟨(ev_hit hN rfl), trivial⟩⟩⟩ (others_ret (q := sameQ T) n (by omega) hk hM hA hMo (g := 97) (fs := []) (cs := [(ptr b14 0)]) ok97 (fun j hj w1 E => ask1 (hB16.keep0 (grown_of_below E)) (hx0.keep0 (grown_of_below E)) (hL0.keep0 (grown_of_below E)) (((hA.2.1 j hj).2.2.1.keep0 (grown_of_below E)).rdw.mono (Nat.zero_le _) (Nat.le_refl _)) hT8.1 (hMo.2 _ (getD_mem hj)).2.1)) ?_
 rintro v28 w29 ⟨E30, hO28⟩
 have dj31 : Dj F0 (Bl v28) := Dj.fresh (fun k hk => (hA.lt k hk).2) (fun k hk => (hO28.lt k hk).1)
 have dj32 : Dj FT (Bl v28) := Dj.fresh (fun k hk => (hTx.lt k hk).2) (fun k hk => (hO28.lt k hk).1)
 have E30 := grown_of_below E30
 have z_w29 := E30.size
 have hk := hk.keep0 E30
 have hM := hM.keep0 E30
 have hA := hA.keepG (Gr.of0 E30 NoB) (fun _ _ h => h)
 have hTx := hTx.keepG (Gr.of0 E30 NoB) (fun _ _ h => h)
 have hRs := hRs.keep0 E30
 have hB16 := hB16.keep0 E30
 have hx0 := hx0.keep0 E30
 have hL0 := hL0.keep0 E30
 have hR0 := hR0.keep0 E30
 have hD0 : ∀ x9 ∈ (D0.map rdL), Own w29 base 46 1 x9.1 x9.2.length (x9.2.map u16v) := fun x9 hx9 => (hD0 x9 hx9).keep0 E30
 have hW0 := hW0.keep0 E30
 have hb := hb.step0 E30
 have hO28 := hO28.mono (base' := w.heap.size) (by omega)
 refine op_len_rd Try.underlying35 (ev_hit hN rfl) hO28.rdw ?_
 refine op_move rfl ?_
 refine reg_nil ?_
 refine hK27 _ _ ?_
 refine wp_block ?_
 refine loop_m (fun mz_ az_ w' => ∃ (i : Nat), mz_ = (othersL M n (sameQ T)).length - i ∧ (az_.tmps.getD 0 undef = (ptr k 0)) ∧ (az_.tmps.getD 2 undef = rsv) ∧ (az_.tmps.getD 3 undef = (Value.string (bs x))) ∧ (az_.tmps.getD 10 undef = (ptr b14 0)) ∧ (az_.tmps.getD 30 undef = v28) ∧ (az_.tmps.getD 31 undef = (Value.int .i64 (((othersL M n (sameQ T)).length : Nat) : Int))) ∧ (az_.tmps.getD 32 undef = (Value.int .i64 ((i : Nat) : Int))) ∧ (az_.tmps.getD 12 undef = (Value.int .i64 (outW (stB M T Rs x) ((othersL M n (sameQ T)).take i)))) ∧ (i ≤ (othersL M n (sameQ T)).length) ∧ (((othersL M n (sameQ T)).take i).any (dieB M T Rs x) = false) ∧ (Gr w w' FT) ∧ (w29.heap.size ≤ w'.heap.size) ∧ (Bx w' k 121 [(Value.map (some m))]) ∧ (MapC (Value.int .i64) pv w' m (esOf M C)) ∧ (LkAll w' base M C F0) ∧ (TxR w' base p T FT) ∧ (RdC w' Lr Br 1 rsv Rs.length (Rs.map sv)) ∧ (Bx w' b14 155 [(ptr p 0)]) ∧ (Bx w' p 164 [la0, (Value.int .u64 T.stamp), rv0, wv0, (Value.bool T.doomed)]) ∧ (Own w' base 46 1 la0 T.label.length (T.label.map u16v)) ∧ (Own w' base 169 2 rv0 D0.length (D0.flatMap cellsRd)) ∧ (∀ x9 ∈ (D0.map rdL), Own w' base 46 1 x9.1 x9.2.length (x9.2.map u16v)) ∧ (Own w' base 9 1 wv0 T.writes.length (T.writes.map sv)) ∧ (Own w' w.heap.size 3 1 v28 (othersL M n (sameQ T)).length ((othersL M n (sameQ T)).map (Value.int .i64)))) _ hN hd ⟨0, rfl, (sl_base hN rfl s0), (sl_base hN rfl s2), (sl_base hN rfl s3), (sl_hit hN rfl), (sl_hit hN rfl), (sl_hit hN rfl), (sl_hit hN rfl), (sl_hit hN rfl), (Nat.zero_le _), rfl, hb, (Nat.le_refl _), hk, hM, hA, hTx, hRs, hB16, hx0, hL0, hR0, hD0, hW0, hO28⟩ ?_
 rintro _ a33 w33 hN33 hd33 ⟨i, rfl, s33_0, s33_2, s33_3, s33_10, s33_30, s33_31, s33_32, s33_12, hi, hno, hb, zl_w33, hk, hM, hA, hTx, hRs, hB16, hx0, hL0, hR0, hD0, hW0, hO28⟩
 have z_w33 := hb.size
 refine seq_any fun K34 hK34 => ?_
 refine one_reg ?_
 refine op_lss (ev_base hN33 rfl s33_32) (ev_base hN33 rfl s33_31) (fun c33 => ?_) (fun c33 => ?_)
 · -- 33T
  refine reg_nil ?_
  refine hK34 _ _ ?_
  refine seq_any fun K35 hK35 => ?_
  refine wp_cond_true (ev_hit hN33 rfl) ?_
  refine wp_skip ?_
  refine hK35 _ _ ?_
  refine seq_any fun K36 hK36 => ?_
  refine wp_block ?_
  refine seq_any fun K37 hK37 => ?_
  refine one_reg ?_
  refine op_index_rd slt35 (ev_base hN33 rfl s33_30) hO28.rdw (ev_base hN33 rfl s33_32) (by omega) (by omega) ?_
  intro b38 o39 h0b38 h1b38 hc40
  refine op_load1 (v := (Value.int .i64 ((othersL M n (sameQ T)).getD i 0))) one3 (ev_hit hN33 rfl) (by have := hc40 0 (Value.int .i64 ((othersL M n (sameQ T)).getD i 0)) (by decide) (el_i64 (i := i) (by omega) (by omega)); simpa using this) ?_
  refine op_assign (ev_hit hN33 rfl) ?_
  refine reg_nil ?_
  refine hK37 _ _ ?_
  refine seq_any fun K41 hK41 => ?_
  refine one_reg ?_
  have hx9 := (others_mem (getD_mem (d := 0) (show i < (othersL M n (sameQ T)).length by omega))).1
  obtain ⟨T9, hT9⟩ := mget_key hx9
  obtain ⟨j9, p9, la9, rv9, wv9, D9, hj9, hl9, hMj9, hCj9, hes9, hp9, hx9, hL9, hR9, hD9, hW9, hDe9⟩ := LkAll.key hA hT9
  have ht9 : txAt M ((othersL M n (sameQ T)).getD i 0) = T9 := by unfold txAt; rw [hT9]; rfl
  have h89 : TOk T9 := (hMo.2 _ (mget_mem hT9)).2
  refine op_move (ev_base hN33 rfl s33_0) ?_
  refine op_nil (ev_hit hN33 rfl) ?_
  refine op_field fld121_0 (ev_hit hN33 rfl) ?_
  refine op_load1 (v := (Value.map (some m))) one119 (ev_hit hN33 rfl) (hk.cell rfl) ?_
  refine op_move (ev_hit hN33 rfl) ?_
  refine op_look_hit (k := ((othersL M n (sameQ T)).getD i 0)) (v := p9) Try.underlying119 (Go.Gx.key_int Try.underlying3) zero155 (ev_hit hN33 rfl) (ev_hit hN33 rfl) hM hes9 ?_
  refine op_assign (ev_hit hN33 rfl) ?_
  refine reg_nil ?_
  refine hK41 _ _ ?_
  refine wp_block ?_
  refine seq_any fun K42 hK42 => ?_
  refine one_reg ?_
  refine op_move (ev_hit hN33 rfl) ?_
  refine op_move (ev_base hN33 rfl s33_2) ?_
  refine op_move (ev_base hN33 rfl s33_3) ?_
  refine op_load1 (v := (ptr p 0)) one155 (ev_base hN33 rfl s33_10) (hB16.cell rfl) ?_
  refine op_nil (ev_hit hN33 rfl) ?_
  refine op_field fld164_0 (ev_hit hN33 rfl) ?_
  refine op_load1 (v := la0) one54 (ev_hit hN33 rfl) (hx0.cell rfl) ?_
  refine op_fn (vs := [(ptr p9 0), rsv, (Value.string (bs x)), la0]) ok99 ⟨(ev_hit hN33 rfl), ⟨(ev_hit hN33 rfl), ⟨(ev_hit hN33 rfl), ⟨(ev_hit hN33 rfl), trivial⟩⟩⟩⟩ (standsT (by omega) hx9 hL9 hR9 hD9 hW9 ⟨h89.1, TOk.rd h89 hDe9⟩ (hRs.mono (Nat.zero_le _) (by omega)) (hL0.rdw.mono (Nat.zero_le _) (by omega)) (by first | exact hT8.1 | omega)) ?_
  rintro _ w43 ⟨E44, rfl⟩
  have E44 := grown_of_below E44
  have z_w43 := E44.size
  have hk := hk.keep0 E44
  have hM := hM.keep0 E44
  have hA := hA.keepG (Gr.of0 E44 NoB) (fun _ _ h => h)
  have hTx := hTx.keepG (Gr.of0 E44 NoB) (fun _ _ h => h)
  have hRs := hRs.keep0 E44
  have hB16 := hB16.keep0 E44
  have hx0 := hx0.keep0 E44
  have hL0 := hL0.keep0 E44
  have hR0 := hR0.keep0 E44
  have hD0 : ∀ x9 ∈ (D0.map rdL), Own w43 base 46 1 x9.1 x9.2.length (x9.2.map u16v) := fun x9 hx9 => (hD0 x9 hx9).keep0 E44
  have hW0 := hW0.keep0 E44
  have hO28 := hO28.keep0 E44
  have hx9 := hx9.keep0 E44
  have hL9 := hL9.keep0 E44
  have hR9 := hR9.keep0 E44
  have hD9 : ∀ x9 ∈ (D9.map rdL), Own w43 base 46 1 x9.1 x9.2.length (x9.2.map u16v) := fun x9 hx9 => (hD9 x9 hx9).keep0 E44
  have hW9 := hW9.keep0 E44
  have hb := hb.step0 E44
  rcases Bool.eq_false_or_eq_true ((standB ⟨T9.label, T9.stamp, D9.map rOf, T9.writes, T9.doomed⟩ Rs x T.label)) with c50 | c50
  · -- 50T
   rw [c50]
   refine op_not (ev_hit hN33 rfl) ?_
   refine op_assign (ev_hit hN33 rfl) ?_
   refine reg_nil ?_
   refine hK42 _ _ ?_
   refine wp_cond_false (ev_hit hN33 rfl) ?_
   refine seq_any fun K45 hK45 => ?_
   refine reg_still mixed (by kernel_rfl) ?_
   intro w47 E46
   have z_w47 := E46.size
   have hk := hk.keep0 E46
   have hM := hM.keep0 E46
   have hA := hA.keepG (Gr.of0 E46 NoB) (fun _ _ h => h)
   have hTx := hTx.keepG (Gr.of0 E46 NoB) (fun _ _ h => h)
   have hRs := hRs.keep0 E46
   have hB16 := hB16.keep0 E46
   have hx0 := hx0.keep0 E46
   have hL0 := hL0.keep0 E46
   have hR0 := hR0.keep0 E46
   have hD0 : ∀ x9 ∈ (D0.map rdL), Own w47 base 46 1 x9.1 x9.2.length (x9.2.map u16v) := fun x9 hx9 => (hD0 x9 hx9).keep0 E46
   have hW0 := hW0.keep0 E46
   have hO28 := hO28.keep0 E46
   have hx9 := hx9.keep0 E46
   have hL9 := hL9.keep0 E46
   have hR9 := hR9.keep0 E46
   have hD9 : ∀ x9 ∈ (D9.map rdL), Own w47 base 46 1 x9.1 x9.2.length (x9.2.map u16v) := fun x9 hx9 => (hD9 x9 hx9).keep0 E46
   have hW9 := hW9.keep0 E46
   have hb := hb.step0 E46
   refine st_step rfl (fun _ h9 => op_move (ev_hit hN33 rfl) h9) ?_
   refine st_step rfl (fun _ h9 => op_nil (ev_hit hN33 rfl) h9) ?_
   refine st_step rfl (fun _ h9 => op_field fld164_1 (ev_hit hN33 rfl) h9) ?_
   refine st_step rfl (fun _ h9 => op_load1 (v := (Value.int .u64 T9.stamp)) one61 (ev_hit hN33 rfl) (hx9.cell rfl) h9) ?_
   refine st_step rfl (fun _ h9 => op_load1 (v := (ptr p 0)) one155 (ev_base hN33 rfl s33_10) (hB16.cell rfl) h9) ?_
   refine st_step rfl (fun _ h9 => op_nil (ev_hit hN33 rfl) h9) ?_
   refine st_step rfl (fun _ h9 => op_field fld164_1 (ev_hit hN33 rfl) h9) ?_
   refine st_step rfl (fun _ h9 => op_load1 (v := (Value.int .u64 T.stamp)) one61 (ev_hit hN33 rfl) (hx0.cell rfl) h9) ?_
   refine st_step rfl (fun _ h9 => op_cmp (b := (decide (T9.stamp ≤ T.stamp))) (ev_hit hN33 rfl) (ev_hit hN33 rfl) (b_leq rfl) h9) ?_
   refine st_step rfl (fun _ h9 => op_assign (ev_hit hN33 rfl) h9) ?_
   refine st_nil ?_
   refine hK45 _ _ ?_
   refine wp_cond_split (ev_hit hN33 rfl) (fun c52 => ?_) (fun c52 => ?_)
   · -- 52T
    have c52 := of_decide_eq_true c52
    refine seq_any fun K48 hK48 => ?_
    refine one_reg ?_
    refine op_assign rfl ?_
    refine op_assign rfl ?_
    refine reg_nil ?_
    refine hK48 _ _ ?_
    refine wp_ret (blk_ret (blk_ret (then_ret (then_ret (blk_ret (then_ret ( ?_)))))))
    refine ret2 rfl hd33 (ev_hit hN33 rfl) (ev_hit hN33 rfl) ⟨_, rfl, ?_⟩
    -- path 33T 50T 52T
    have hst9 : stB M T Rs x ((othersL M n (sameQ T)).getD i 0) = true := by unfold stB; rw [ht9]; rw [hDe9] at c50; exact c50
    have hdi : dieB M T Rs x ((othersL M n (sameQ T)).getD i 0) = true := by unfold dieB; rw [hst9, ht9, decide_eq_true c52]; rfl
    have ho : askO M n T Rs x = 3 := if_pos (any_hit (d := 0) (i := i) (by omega) hdi)
    have ho2 : askT T Rs x (askO M n T Rs x) = T := if_neg (by rw [ho]; decide)
    rw [ho2, ho]
    exact ⟨hb, rfl, _, hTx, (NewF.refl _ _)⟩
   · -- 52F
    have c52 := of_decide_eq_false c52
    refine one_reg ?_
    refine op_assign rfl ?_
    refine reg_nil ?_
    refine hK36 _ _ ?_
    refine one_reg ?_
    refine op_add (ev_base hN33 rfl s33_32) rfl (add64 (by omega)) ?_
    refine op_move (ev_hit hN33 rfl) ?_
    refine reg_nil ?_
    -- round 33T 50T 52F
    have hst9 : stB M T Rs x ((othersL M n (sameQ T)).getD i 0) = true := by unfold stB; rw [ht9]; rw [hDe9] at c50; exact c50
    have hdi : dieB M T Rs x ((othersL M n (sameQ T)).getD i 0) = false := by unfold dieB; rw [hst9, ht9, decide_eq_false c52]; rfl
    exact loop_next _ hN33 hd33 ⟨(i + 1), rfl, (sl_base hN33 rfl s33_0), (sl_base hN33 rfl s33_2), (sl_base hN33 rfl s33_3), (sl_base hN33 rfl s33_10), (sl_base hN33 rfl s33_30), (sl_base hN33 rfl s33_31), (sl_hit hN33 rfl).trans (congrArg (Value.int .i64) (by omega)), (sl_hit hN33 rfl).trans (congrArg (Value.int .i64) (outW_t (by omega) hst9).symm), (by omega), (any_step (d := 0) (by omega) hno hdi), hb, (by omega), hk, hM, hA, hTx, hRs, hB16, hx0, hL0, hR0, hD0, hW0, hO28⟩ (by omega)
  · -- 50F
   rw [c50]
   refine op_not (ev_hit hN33 rfl) ?_
   refine op_assign (ev_hit hN33 rfl) ?_
   refine reg_nil ?_
   refine hK42 _ _ ?_
   refine wp_cond_true (ev_hit hN33 rfl) ?_
   refine wp_skip ?_
   refine hK36 _ _ ?_
   refine one_reg ?_
   refine op_add (ev_base hN33 rfl s33_32) rfl (add64 (by omega)) ?_
   refine op_move (ev_hit hN33 rfl) ?_
   refine reg_nil ?_
   -- round 33T 50F
   have hst9 : stB M T Rs x ((othersL M n (sameQ T)).getD i 0) = false := by unfold stB; rw [ht9]; rw [hDe9] at c50; exact c50
   have hdi : dieB M T Rs x ((othersL M n (sameQ T)).getD i 0) = false := by unfold dieB; rw [hst9]; rfl
   exact loop_next _ hN33 hd33 ⟨(i + 1), rfl, (sl_base hN33 rfl s33_0), (sl_base hN33 rfl s33_2), (sl_base hN33 rfl s33_3), (sl_base hN33 rfl s33_10), (sl_base hN33 rfl s33_30), (sl_base hN33 rfl s33_31), (sl_hit hN33 rfl).trans (congrArg (Value.int .i64) (by omega)), (sl_base hN33 rfl s33_12).trans (congrArg (Value.int .i64) (outW_f (by omega) hst9).symm), (by omega), (any_step (d := 0) (by omega) hno hdi), hb, (by omega), hk, hM, hA, hTx, hRs, hB16, hx0, hL0, hR0, hD0, hW0, hO28⟩ (by omega)
 · -- 33F
  refine reg_nil ?_
  refine hK34 _ _ ?_
  refine seq_any fun K49 hK49 => ?_
  refine wp_cond_false (ev_hit hN33 rfl) ?_
  refine wp_exit (then_exit (then_exit (blk_hit ?_)))
  refine hK26 _ _ ?_
  refine seq_any fun K50 hK50 => ?_
  refine seq_any fun K51 hK51 => ?_
  refine one_reg ?_
  have hnoe := any_end (by omega) hno
  have hte : (othersL M n (sameQ T)).take i = (othersL M n (sameQ T)) := List.take_of_length_le (by omega)
  refine op_move (ev_base hN33 rfl s33_12) ?_
  refine op_eql (ev_hit hN33 rfl) rfl (fun c64 => ?_) (fun c64 => ?_)
  · -- 64T
   refine reg_nil ?_
   refine hK51 _ _ ?_
   refine wp_cond_true (ev_hit hN33 rfl) ?_
   refine seq_any fun K52 hK52 => ?_
   refine seq_any fun K53 hK53 => ?_
   refine one_reg ?_
   refine op_move (ev_base hN33 rfl s33_2) ?_
   refine op_len_rd Try.underlying26 (ev_hit hN33 rfl) hRs ?_
   refine op_move rfl ?_
   refine reg_nil ?_
   refine hK53 _ _ ?_
   refine wp_block ?_
   refine loop_m (fun mz_ az_ w' => ∃ (i2 : Nat) (FK : Nat → Prop), mz_ = Rs.length - i2 ∧ (az_.tmps.getD 3 undef = (Value.string (bs x))) ∧ (az_.tmps.getD 10 undef = (ptr b14 0)) ∧ (az_.tmps.getD 12 undef = (Value.int .i64 (outW (stB M T Rs x) ((othersL M n (sameQ T)).take i)))) ∧ (az_.tmps.getD 65 undef = rsv) ∧ (az_.tmps.getD 66 undef = (Value.int .i64 ((Rs.length : Nat) : Int))) ∧ (az_.tmps.getD 67 undef = (Value.int .i64 ((i2 : Nat) : Int))) ∧ (i2 ≤ Rs.length) ∧ (NewF w.heap.size FT FK) ∧ (Gr w w' FT) ∧ (w33.heap.size ≤ w'.heap.size) ∧ (Bx w' k 121 [(Value.map (some m))]) ∧ (MapC (Value.int .i64) pv w' m (esOf M C)) ∧ (RdC w' Lr Br 1 rsv Rs.length (Rs.map sv)) ∧ (Bx w' b14 155 [(ptr p 0)]) ∧ (TxR w' base p ({ T with reads := gotR T (Rs.take i2) }) FK)) _ hN33 hd33 ⟨0, FT, rfl, (sl_base hN33 rfl s33_3), (sl_base hN33 rfl s33_10), (sl_base hN33 rfl s33_12), (sl_hit hN33 rfl), (sl_hit hN33 rfl), (sl_hit hN33 rfl), (Nat.zero_le _), (NewF.refl _ _), hb, (Nat.le_refl _), hk, hM, hRs, hB16, hTx⟩ ?_
   rintro _ a54 w54 hN54 hd54 ⟨i2, FK, rfl, s54_3, s54_10, s54_12, s54_65, s54_66, s54_67, hi2, hNK, hb, zl_w54, hk, hM, hRs, hB16, hT⟩
   have z_w54 := hb.size
   refine seq_any fun K55 hK55 => ?_
   refine one_reg ?_
   refine op_lss (ev_base hN54 rfl s54_67) (ev_base hN54 rfl s54_66) (fun c68 => ?_) (fun c68 => ?_)
   · -- 68T
    refine reg_nil ?_
    refine hK55 _ _ ?_
    refine seq_any fun K56 hK56 => ?_
    refine wp_cond_true (ev_hit hN54 rfl) ?_
    refine wp_skip ?_
    refine hK56 _ _ ?_
    refine seq_any fun K57 hK57 => ?_
    refine wp_block ?_
    refine seq_any fun K58 hK58 => ?_
    refine one_reg ?_
    refine op_index_rd slt26 (ev_base hN54 rfl s54_65) hRs (ev_base hN54 rfl s54_67) (by omega) (by omega) ?_
    intro b59 o60 h0b59 h1b59 hc61
    refine op_load1 (v := (Value.string (bs (Rs.getD i2 [])))) one9 (ev_hit hN54 rfl) (by have := hc61 0 (Value.string (bs (Rs.getD i2 []))) (by decide) (el_sv (i := i2) (by omega) (by omega)); simpa using this) ?_
    refine op_assign (ev_hit hN54 rfl) ?_
    refine reg_nil ?_
    refine hK58 _ _ ?_
    obtain ⟨la0, rv0, wv0, D0, hp0, hx0, hL0, hR0, hD0, hW0, hDe0, hF0⟩ := hT.parts
    refine reg_split (hd := [_, _, _, _, _, _, _, _, _, _]) (tl := _) 10 mixed (by kernel_rfl) rfl rfl ?_
    refine any_env (φ := phiV [(fun uz => uz = (ptr p 0)), (fun uz => uz = (ptr p 0)), (fun uz => uz = (ptr p 2)), (fun uz => uz = (Value.string (bs (Rs.getD i2 [])))), (fun uz => uz = (ptr p 0)), (fun uz => uz = (ptr p 0)), (fun uz => uz = (ptr p 0)), (fun uz => uz = la0), (fun _ => True), (fun _ => True)]) (G := fun w' => Bx w' b14 155 [(ptr p 0)] ∧ Bx w' p 164 [la0, (Value.int .u64 T.stamp), rv0, wv0, (Value.bool T.doomed)]) [8, 9] (by kernel_rfl) (by kernel_rfl) (by kernel_rfl) (by kernel_rfl) hN54 (fun w1 w2 E h => by obtain ⟨h0, h1⟩ := h; exact ⟨h0.keep0 E, h1.keep0 E⟩) ⟨hB16, hx0⟩ (ObEs.cons ?_ (ObEs.cons ?_ (ObEs.cons ?_ (ObEs.cons ?_ (ObEs.cons ?_ (ObEs.cons ?_ (ObEs.cons ?_ (ObEs.cons ?_ (ObEs.pass rfl (ObEs.pass rfl (ObEs.nil))))))))))) (by simp only [putsL_defers]) ?_
    ·
     intro eA aA wA hNA hGA hbsA hdpA
     have qA_10 := (hbsA 10 rfl).trans (sl_base hN54 rfl s54_10)
     obtain ⟨hB16, hx0⟩ := hGA
     refine op_load1 (v := (ptr p 0)) one155 (ev_base hNA rfl qA_10) (hB16.cell rfl) ?_
     exact obE_end rfl rfl rfl
    ·
     intro eA aA wA hNA hGA hbsA hdpA
     have qA_71 : Sl aA 71 (ptr p 0) := (hdpA 0 _ 71 (by kernel_rfl) rfl rfl).2 rfl
     refine op_nil (ev_base hNA rfl qA_71) ?_
     exact obE_end rfl rfl rfl
    ·
     intro eA aA wA hNA hGA hbsA hdpA
     have qA_72 : Sl aA 72 (ptr p 0) := (hdpA 1 _ 72 (by kernel_rfl) rfl rfl).2 rfl
     refine op_field fld164_2 (ev_base hNA rfl qA_72) ?_
     exact obE_end rfl rfl rfl
    ·
     intro eA aA wA hNA hGA hbsA hdpA
     have qA_17 := (hbsA 17 rfl).trans (sl_hit hN54 rfl)
     refine op_move (ev_base hNA rfl qA_17) ?_
     exact obE_end rfl rfl rfl
    ·
     intro eA aA wA hNA hGA hbsA hdpA
     have qA_10 := (hbsA 10 rfl).trans (sl_base hN54 rfl s54_10)
     obtain ⟨hB16, hx0⟩ := hGA
     refine op_load1 (v := (ptr p 0)) one155 (ev_base hNA rfl qA_10) (hB16.cell rfl) ?_
     exact obE_end rfl rfl rfl
    ·
     intro eA aA wA hNA hGA hbsA hdpA
     have qA_75 : Sl aA 75 (ptr p 0) := (hdpA 4 _ 75 (by kernel_rfl) rfl rfl).2 rfl
     refine op_nil (ev_base hNA rfl qA_75) ?_
     exact obE_end rfl rfl rfl
    ·
     intro eA aA wA hNA hGA hbsA hdpA
     have qA_76 : Sl aA 76 (ptr p 0) := (hdpA 5 _ 76 (by kernel_rfl) rfl rfl).2 rfl
     refine op_field fld164_0 (ev_base hNA rfl qA_76) ?_
     exact obE_end rfl rfl rfl
    ·
     intro eA aA wA hNA hGA hbsA hdpA
     have qA_77 : Sl aA 77 (ptr p 0) := (hdpA 6 _ 77 (by kernel_rfl) rfl rfl).2 rfl
     obtain ⟨hB16, hx0⟩ := hGA
     refine op_load1 (v := la0) one54 (ev_base hNA rfl qA_77) (hx0.cell rfl) ?_
     exact obE_end rfl rfl rfl
    ·
     intro w62 E62 _ a62 hN62 hbs62 hdp62 o_ ho_; obtain rfl := Option.some.inj ho_
     have z_w62 := E62.size
     have hk := hk.keep0 E62
     have hM := hM.keep0 E62
     have hRs := hRs.keep0 E62
     have hB16 := hB16.keep0 E62
     have hT := hT.keepG (Gr.of0 E62 NoB) (fun _ _ h => h)
     have hx0 := hx0.keep0 E62
     have hL0 := hL0.keep0 E62
     have hR0 := hR0.keep0 E62
     have hD0 : ∀ x9 ∈ (D0.map rdL), Own w62 base 46 1 x9.1 x9.2.length (x9.2.map u16v) := fun x9 hx9 => (hD0 x9 hx9).keep0 E62
     have hW0 := hW0.keep0 E62
     have hb := hb.step0 E62
     have q62_78 : Sl a62 78 la0 := (hdp62 7 _ 78 (by kernel_rfl) rfl rfl).2 rfl
     refine op_fn (vs := [la0]) ok77 ⟨(ev_base hN62 rfl q62_78), trivial⟩ (CloneL T.label _ _ (by omega) (hL0.rdw.mono (Nat.zero_le _) (by omega))) ?_
     rintro v63 w64 ⟨E65, hO63⟩
     have dj66 : Dj FK (Bl v63) := Dj.fresh (fun k hk => (hT.lt k hk).2) (fun k hk => (hO63.lt k hk).1)
     have dj67 : DJ v63 la0 := fun k hk hg => by have q1 := (hO63.lt k hk).1; have q2 := (hL0.lt k hg).2; omega
     have dja68 : ∀ x9 ∈ (D0.map rdL), DJ x9.1 v63 := fun x9 hx9 k hk hg => by have q1 := ((hD0 x9 hx9).lt k hk).2; have q2 := (hO63.lt k hg).1; omega
     have E65 := grown_of_below E65
     have z_w64 := E65.size
     have hk := hk.keep0 E65
     have hM := hM.keep0 E65
     have hRs := hRs.keep0 E65
     have hB16 := hB16.keep0 E65
     have hT := hT.keepG (Gr.of0 E65 NoB) (fun _ _ h => h)
     have hx0 := hx0.keep0 E65
     have hL0 := hL0.keep0 E65
     have hR0 := hR0.keep0 E65
     have hD0 : ∀ x9 ∈ (D0.map rdL), Own w64 base 46 1 x9.1 x9.2.length (x9.2.map u16v) := fun x9 hx9 => (hD0 x9 hx9).keep0 E65
     have hW0 := hW0.keep0 E65
     have hb := hb.step0 E65
     have hO63 := hO63.mono (base' := w.heap.size) (by omega)
     refine ke_end rfl (by decide) rfl ⟨hB16, hx0⟩ ?_
     intro w69 E69 _ a69 hN69 hbs69 hdp69 o_ ho_; obtain rfl := Option.some.inj ho_
     have z_w69 := E69.size
     have hk := hk.keep0 E69
     have hM := hM.keep0 E69
     have hRs := hRs.keep0 E69
     have hB16 := hB16.keep0 E69
     have hT := hT.keepG (Gr.of0 E69 NoB) (fun _ _ h => h)
     have hx0 := hx0.keep0 E69
     have hL0 := hL0.keep0 E69
     have hR0 := hR0.keep0 E69
     have hD0 : ∀ x9 ∈ (D0.map rdL), Own w69 base 46 1 x9.1 x9.2.length (x9.2.map u16v) := fun x9 hx9 => (hD0 x9 hx9).keep0 E69
     have hW0 := hW0.keep0 E69
     have hO63 := hO63.keep0 E69
     have hb := hb.step0 E69
     have q69_74 : Sl a69 74 (Value.string (bs (Rs.getD i2 []))) := (hdp69 3 _ 74 (by kernel_rfl) rfl rfl).2 rfl
     have q69_79 : Sl a69 79 v63 := (Option.some.inj ((hdp69 8 _ 79 (by kernel_rfl) rfl rfl).1 0 rfl)).symm
     refine op_build (pv := [(0, (Value.string (bs (Rs.getD i2 [])))), (1, v63)]) (v := (Value.agg #[(Value.string (bs (Rs.getD i2 []))), v63])) ⟨rfl, (ev_base hN69 rfl q69_74), ⟨rfl, (ev_base hN69 rfl q69_79), trivial⟩⟩ (by obtain ⟨_, _, _, rfl⟩ := hO63.sl; kernel_rfl) ?_
     refine ke_end rfl (by decide) rfl ⟨hB16, hx0⟩ ?_
     intro w70 E70 a70 hN70 hd70 hbs70 hph70
     have hd70 := hd70.trans ((by simp only [putsL_defers] : _ = _).trans hd54)
     have z_w70 := E70.size
     have hk := hk.keep0 E70
     have hM := hM.keep0 E70
     have hRs := hRs.keep0 E70
     have hB16 := hB16.keep0 E70
     have hT := hT.keepG (Gr.of0 E70 NoB) (fun _ _ h => h)
     have hx0 := hx0.keep0 E70
     have hL0 := hL0.keep0 E70
     have hR0 := hR0.keep0 E70
     have hD0 : ∀ x9 ∈ (D0.map rdL), Own w70 base 46 1 x9.1 x9.2.length (x9.2.map u16v) := fun x9 hx9 => (hD0 x9 hx9).keep0 E70
     have hW0 := hW0.keep0 E70
     have hO63 := hO63.keep0 E70
     have hb := hb.step0 E70
     have s70_3 := (hbs70 3 rfl).trans (sl_base hN54 rfl s54_3)
     have s70_10 := (hbs70 10 rfl).trans (sl_base hN54 rfl s54_10)
     have s70_12 := (hbs70 12 rfl).trans (sl_base hN54 rfl s54_12)
     have s70_65 := (hbs70 65 rfl).trans (sl_base hN54 rfl s54_65)
     have s70_66 := (hbs70 66 rfl).trans (sl_base hN54 rfl s54_66)
     have s70_67 := (hbs70 67 rfl).trans (sl_base hN54 rfl s54_67)
     have s70_73 : Sl a70 73 (ptr p 2) := (hph70 2 _ 73 rfl rfl).2 rfl
     have s70_80 : Sl a70 80 (Value.agg #[(Value.string (bs (Rs.getD i2 []))), v63]) := (Option.some.inj ((hph70 9 _ 80 rfl rfl).1 1 rfl)).symm
     refine split_end ?_
     refine from_seq (tl := [_]) (by decide) (by kernel_rfl) rfl ?_
     refine op_fn (vs := [(ptr p 2), (Value.agg #[(Value.string (bs (Rs.getD i2 []))), v63]), (Value.func (.func 101) #[] #[])]) ok100 ⟨(ev_base hN70 rfl s70_73), ⟨(ev_base hN70 rfl s70_80), ⟨rfl, trivial⟩⟩⟩ (addR_T (Rs.getD i2 []) hT (hO63.mono (by omega)) (by omega) ⟨hT8.1, (gotR_ok hT8.1 (Rs.take i2) T rfl hT8.2).1⟩ (by have h9 := (gotR_ok hT8.1 (Rs.take i2) T rfl hT8.2).2; simp only [List.length_take] at h9; show (gotR T (Rs.take i2)).length ≤ 100000; omega)) ?_
     rintro u71 w72 ⟨E73, F71, hT71, hs71⟩
     have hlc71 := fun y hy => (hO63.lt y hy).1
     have hT_old := hT
     have hN71 : NewF w.heap.size FT F71 := fun y hy => (hs71 y hy).elim (fun q => hNK y q) (fun q => .inr (q.elim (fun q => hlc71 y q) (fun q => by omega)))
     have z_w72 := E73.size
     have hk := hk.keepG E73 (hT_old.notBx hk (by decide) (by decide) (by decide) (by decide))
     have hM := hM.keepG E73 (hT_old.notMap hM)
     have hRs := hRs.keepG E73 (fun k hk => (hNK k hk).elim (fun q => hap k q) (fun q => .inr (by omega)))
     have hB16 := hB16.keepG E73 (hT_old.notBx hB16 (by decide) (by decide) (by decide) (by decide))
     have hb := hb.stepF E73 (fun y hy h9 => (hNK y h9).resolve_right (by omega))
     have hT71 : TxR w72 base p ({ T with reads := addR (gotR T (Rs.take i2)) ((Rs.getD i2 []), T.label) }) F71 := hT71
     refine reg_nil ?_
     refine hK57 _ _ ?_
     refine one_reg ?_
     refine op_add (ev_base hN70 rfl s70_67) rfl (add64 (by omega)) ?_
     refine op_move (ev_hit hN70 rfl) ?_
     refine reg_nil ?_
     -- round 33F 64T 68T
     exact loop_next _ hN70 hd70 ⟨(i2 + 1), F71, rfl, (sl_base hN70 rfl s70_3), (sl_base hN70 rfl s70_10), (sl_base hN70 rfl s70_12), (sl_base hN70 rfl s70_65), (sl_base hN70 rfl s70_66), (sl_hit hN70 rfl).trans (congrArg (Value.int .i64) (by omega)), (by omega), hN71, hb, (by omega), hk, hM, hRs, hB16, (by rw [gotR_step (by omega)]; exact hT71)⟩ (by omega)
   · -- 68F
    refine reg_nil ?_
    refine hK55 _ _ ?_
    refine seq_any fun K74 hK74 => ?_
    refine wp_cond_false (ev_hit hN54 rfl) ?_
    refine wp_exit (then_exit (then_exit (blk_hit ?_)))
    refine hK52 _ _ ?_
    refine seq_any fun K75 hK75 => ?_
    refine one_reg ?_
    refine op_move (ev_base hN54 rfl s54_3) ?_
    refine op_sneq (ev_hit hN54 rfl) rfl (fun c84 => ?_) (fun c84 => ?_)
    · -- 84T
     refine reg_nil ?_
     refine hK75 _ _ ?_
     refine wp_cond_true (ev_hit hN54 rfl) ?_
     refine one_reg ?_
     refine op_load1 (v := (ptr p 0)) one155 (ev_base hN54 rfl s54_10) (hB16.cell rfl) ?_
     refine op_nil (ev_hit hN54 rfl) ?_
     refine op_field fld164_3 (ev_hit hN54 rfl) ?_
     refine op_move (ev_base hN54 rfl s54_3) ?_
     refine op_fn (vs := [(ptr p 3), (Value.string (bs x)), (Value.func (.func 104) #[] #[])]) ok103 ⟨(ev_hit hN54 rfl), ⟨(ev_hit hN54 rfl), ⟨rfl, trivial⟩⟩⟩ (addS_T x hT (by omega) ⟨hT8.1, (gotR_ok hT8.1 (Rs.take i2) T rfl hT8.2).1⟩ (show T.writes.length ≤ 100000 by omega)) ?_
     rintro u76 w77 ⟨E78, F76, hT76, hs76⟩
     have hT_old := hT
     have hN76 : NewF w.heap.size FT F76 := fun y hy => (hs76 y hy).elim (fun q => hNK y q) (fun q => .inr (by omega))
     have z_w77 := E78.size
     have hk := hk.keepG E78 (hT_old.notBx hk (by decide) (by decide) (by decide) (by decide))
     have hM := hM.keepG E78 (hT_old.notMap hM)
     have hRs := hRs.keepG E78 (fun k hk => (hNK k hk).elim (fun q => hap k q) (fun q => .inr (by omega)))
     have hB16 := hB16.keepG E78 (hT_old.notBx hB16 (by decide) (by decide) (by decide) (by decide))
     have hb := hb.stepF E78 (fun y hy h9 => (hNK y h9).resolve_right (by omega))
     have hT76 : TxR w77 base p ({ T with reads := gotR T (Rs.take i2), writes := addW T.writes x }) F76 := hT76
     refine reg_nil ?_
     refine hK50 _ _ ?_
     refine seq_any fun K79 hK79 => ?_
     refine one_reg ?_
     refine op_move (ev_base hN54 rfl s54_12) ?_
     refine op_assign (ev_hit hN54 rfl) ?_
     refine op_assign rfl ?_
     refine reg_nil ?_
     refine hK79 _ _ ?_
     refine wp_ret ?_
     refine ret2 rfl hd54 (ev_hit hN54 rfl) (ev_hit hN54 rfl) ⟨_, rfl, ?_⟩
     -- path 33F 64T 68F 84T
     have hv := c64
     rw [hte] at c64
     have ho : askO M n T Rs x = 1 := (if_neg (by rw [hnoe]; decide)).trans c64
     have ho2 : askT T Rs x (askO M n T Rs x) = { T with reads := gotR T Rs, writes := gotW T x } := if_pos ho
     have hre : Rs.take i2 = Rs := List.take_of_length_le (by omega)
     have hgw : gotW T x = addW T.writes x := if_neg c84
     rw [ho2, ho, hgw]
     rw [hre] at hT76
     exact ⟨hb, congrArg (fun z : Int => Value.tuple #[.int .i64 z, .int .i64 0]) hv, _, hT76, hN76⟩
    · -- 84F
     refine reg_nil ?_
     refine hK75 _ _ ?_
     refine wp_cond_false (ev_hit hN54 rfl) ?_
     refine wp_skip ?_
     refine hK50 _ _ ?_
     refine seq_any fun K80 hK80 => ?_
     refine one_reg ?_
     refine op_move (ev_base hN54 rfl s54_12) ?_
     refine op_assign (ev_hit hN54 rfl) ?_
     refine op_assign rfl ?_
     refine reg_nil ?_
     refine hK80 _ _ ?_
     refine wp_ret ?_
     refine ret2 rfl hd54 (ev_hit hN54 rfl) (ev_hit hN54 rfl) ⟨_, rfl, ?_⟩
     -- path 33F 64T 68F 84F
     have hv := c64
     rw [hte] at c64
     have ho : askO M n T Rs x = 1 := (if_neg (by rw [hnoe]; decide)).trans c64
     have ho2 : askT T Rs x (askO M n T Rs x) = { T with reads := gotR T Rs, writes := gotW T x } := if_pos ho
     have hre : Rs.take i2 = Rs := List.take_of_length_le (by omega)
     have hgw : gotW T x = T.writes := if_pos c84
     rw [ho2, ho, hgw]
     rw [hre] at hT
     exact ⟨hb, congrArg (fun z : Int => Value.tuple #[.int .i64 z, .int .i64 0]) hv, _, hT, hNK⟩
  · -- 64F
   refine reg_nil ?_
   refine hK51 _ _ ?_
   refine wp_cond_false (ev_hit hN33 rfl) ?_
   refine wp_skip ?_
   refine hK50 _ _ ?_
   refine seq_any fun K81 hK81 => ?_
   refine one_reg ?_
   refine op_move (ev_base hN33 rfl s33_12) ?_
   refine op_assign (ev_hit hN33 rfl) ?_
   refine op_assign rfl ?_
   refine reg_nil ?_
   refine hK81 _ _ ?_
   refine wp_ret ?_
   refine ret2 rfl hd33 (ev_hit hN33 rfl) (ev_hit hN33 rfl) ⟨_, rfl, ?_⟩
   -- path 33F 64F
   rw [hte] at c64
   have ho : askO M n T Rs x = outW (stB M T Rs x) (othersL M n (sameQ T)) := if_neg (by rw [hnoe]; decide)
   have ho2 : askT T Rs x (askO M n T Rs x) = T := if_neg (by rw [ho]; exact c64)
   rw [ho2, ho]
   exact ⟨hb, congrArg (fun z : Int => Value.tuple #[.int .i64 z, .int .i64 0]) (by rw [hte]), _, hTx, (NewF.refl _ _)⟩

theorem Ask_miss {rsv : Value} {x : List UInt8} {n : Int} {k m : Nat} {es : List (Int × Nat)} {w : World} (hk : Bx w k 121 [.map (some m)]) (hM : MapC (Value.int .i64) pv w m es) (hg : mget es n = none)  : Ret Try.prog 55 #[(ptr k 0), (Value.int .i64 n), rsv, (Value.string (bs x))] w (fun v' w' => Below w.heap.size w w' ∧ v' = .tuple #[.int .i64 0, .int .i64 18]) := by
 have hb := Below.refl w.heap.size w
 refine enter (N := 91) Try.func55 rfl rfl (by simp) fun a0 hN hd hA => ?_
 have s0 : a0.tmps.getD 0 undef = (ptr k 0) := hA 0 (by simp)
 have s1 : a0.tmps.getD 1 undef = (Value.int .i64 n) := hA 1 (by simp)
 have s2 : a0.tmps.getD 2 undef = rsv := hA 2 (by simp)
 have s3 : a0.tmps.getD 3 undef = (Value.string (bs x)) := hA 3 (by simp)
 clear hA
 refine seq_any fun K82 hK82 => ?_
 refine one_reg ?_
 refine op_assign rfl ?_
 refine op_assign rfl ?_
 refine reg_nil ?_
 refine hK82 _ _ ?_
 refine seq_any fun K83 hK83 => ?_
 refine one_reg ?_
 refine op_move (ev_base hN rfl s0) ?_
 refine op_move (ev_base hN rfl s1) ?_
 refine op_fn (vs := [(ptr k 0), (Value.int .i64 n)]) ok95 ⟨(ev_hit hN rfl), ⟨(ev_hit hN rfl), trivial⟩⟩ (Ret.flip (at_miss n hk hM hg)) ?_
 rintro _ _ ⟨rfl, rfl⟩
 refine op_move (ev_hit hN rfl) ?_
 refine op_extract (ev_hit hN rfl) rfl ?_
 refine op_extract (ev_hit hN rfl) rfl ?_
 refine op_alloc (cs := [(Value.pointer none)]) zero155 rfl ?_
 intro w84 b85 lo_b85 hi_b85 hB87 E86
 have z_w84 := E86.size
 have hk := hk.keep0 E86
 have hM := hM.keep0 E86
 have hb := below_step0 hb E86 hb.size
 have hB87_old := hB87
 refine op_store (vs := [(Value.pointer none)]) (cs' := [(Value.pointer none)]) size155 (ev_hit hN rfl) (ev_hit hN rfl) rfl rfl rfl hB87 (Nat.le_of_ble_eq_true rfl) rfl ?_
 intro w90 hB87 E91
 have z_w90 := E91.size
 have hk := hk.keep E91 (fun hh => hk.ne hB87_old (by decide) (Option.some.inj hh))
 have hM := hM.keepB hB87_old E91
 have hb := below_step1 hb E91 hb.size (by omega)
 refine op_assign (ev_hit hN rfl) ?_
 refine reg_nil ?_
 refine hK83 _ _ ?_
 refine seq_any fun K92 hK92 => ?_
 refine seq_any fun K93 hK93 => ?_
 refine one_reg ?_
 refine op_move (ev_hit hN rfl) ?_
 refine op_bin (v := .bool true) (ev_hit hN rfl) rfl (by rw [binOp_neq]; rfl) ?_
 refine reg_nil ?_
 refine hK93 _ _ ?_
 refine wp_cond_true (ev_hit hN rfl) ?_
 refine seq_any fun K94 hK94 => ?_
 refine one_reg ?_
 refine op_move (ev_hit hN rfl) ?_
 refine op_assign rfl ?_
 refine op_assign (ev_hit hN rfl) ?_
 refine reg_nil ?_
 refine hK94 _ _ ?_
 refine wp_ret (then_ret ( ?_))
 refine ret2 rfl hd (ev_hit hN rfl) (ev_hit hN rfl) ⟨_, rfl, ?_⟩
 -- path
 exact ⟨hb, rfl⟩

theorem Ask_nomap {rsv : Value} {x : List UInt8} {n : Int} {k : Nat} {w : World} (hk : Bx w k 121 [.map none])  : Ret Try.prog 55 #[(ptr k 0), (Value.int .i64 n), rsv, (Value.string (bs x))] w (fun v' w' => Below w.heap.size w w' ∧ v' = .tuple #[.int .i64 0, .int .i64 18]) := by
 have hb := Below.refl w.heap.size w
 refine enter (N := 91) Try.func55 rfl rfl (by simp) fun a0 hN hd hA => ?_
 have s0 : a0.tmps.getD 0 undef = (ptr k 0) := hA 0 (by simp)
 have s1 : a0.tmps.getD 1 undef = (Value.int .i64 n) := hA 1 (by simp)
 have s2 : a0.tmps.getD 2 undef = rsv := hA 2 (by simp)
 have s3 : a0.tmps.getD 3 undef = (Value.string (bs x)) := hA 3 (by simp)
 clear hA
 refine seq_any fun K95 hK95 => ?_
 refine one_reg ?_
 refine op_assign rfl ?_
 refine op_assign rfl ?_
 refine reg_nil ?_
 refine hK95 _ _ ?_
 refine seq_any fun K96 hK96 => ?_
 refine one_reg ?_
 refine op_move (ev_base hN rfl s0) ?_
 refine op_move (ev_base hN rfl s1) ?_
 refine op_fn (vs := [(ptr k 0), (Value.int .i64 n)]) ok95 ⟨(ev_hit hN rfl), ⟨(ev_hit hN rfl), trivial⟩⟩ (Ret.flip (at_nomap n hk)) ?_
 rintro _ _ ⟨rfl, rfl⟩
 refine op_move (ev_hit hN rfl) ?_
 refine op_extract (ev_hit hN rfl) rfl ?_
 refine op_extract (ev_hit hN rfl) rfl ?_
 refine op_alloc (cs := [(Value.pointer none)]) zero155 rfl ?_
 intro w97 b98 lo_b98 hi_b98 hB100 E99
 have z_w97 := E99.size
 have hk := hk.keep0 E99
 have hb := below_step0 hb E99 hb.size
 have hB100_old := hB100
 refine op_store (vs := [(Value.pointer none)]) (cs' := [(Value.pointer none)]) size155 (ev_hit hN rfl) (ev_hit hN rfl) rfl rfl rfl hB100 (Nat.le_of_ble_eq_true rfl) rfl ?_
 intro w103 hB100 E104
 have z_w103 := E104.size
 have hk := hk.keep E104 (fun hh => hk.ne hB100_old (by decide) (Option.some.inj hh))
 have hb := below_step1 hb E104 hb.size (by omega)
 refine op_assign (ev_hit hN rfl) ?_
 refine reg_nil ?_
 refine hK96 _ _ ?_
 refine seq_any fun K105 hK105 => ?_
 refine seq_any fun K106 hK106 => ?_
 refine one_reg ?_
 refine op_move (ev_hit hN rfl) ?_
 refine op_bin (v := .bool true) (ev_hit hN rfl) rfl (by rw [binOp_neq]; rfl) ?_
 refine reg_nil ?_
 refine hK106 _ _ ?_
 refine wp_cond_true (ev_hit hN rfl) ?_
 refine seq_any fun K107 hK107 => ?_
 refine one_reg ?_
 refine op_move (ev_hit hN rfl) ?_
 refine op_assign rfl ?_
 refine op_assign (ev_hit hN rfl) ?_
 refine reg_nil ?_
 refine hK107 _ _ ?_
 refine wp_ret (then_ret ( ?_))
 refine ret2 rfl hd (ev_hit hN rfl) (ev_hit hN rfl) ⟨_, rfl, ?_⟩
 -- path
 exact ⟨hb, rfl⟩

end Go.Proofs.Ytmhdbphpmgjpcaa

/- Who is doomed, plainly. -/
namespace Go.Proofs.Ytmhdbphpmgjpcaa
open Go.Gx
def hitB (M : TM) (T : TX) (x : Int) : Bool := T.writes.any fun s => covB (txAt M x).reads s T.label
def doomT (t : TX) : TX := { t with doomed := true }
def doomA (M : TM) (T : TX) (xs : List Int) (a : Int × TX) : Int × TX := if (xs.contains a.1 && hitB M T a.1) = true then (a.1, doomT a.2) else a
def doomL (M : TM) (T : TX) (xs : List Int) : TM := M.map (doomA M T xs)
def upQ (T : TX) (l : List UInt16) : Bool := decide (l ≠ T.label) && flowsL T.label l
section
variable {M : TM} {T : TX} {xs L : List Int} {x : Int} {i j : Nat} {t : TX} {C : List TC}
theorem doomA_key {a : Int × TX} : (doomA M T xs a).1 = a.1 := by unfold doomA; split <;> rfl
theorem doomL_keys : (doomL M T xs).map Prod.fst = M.map Prod.fst := by
  unfold doomL; rw [List.map_map]; exact List.map_congr_left fun a _ => doomA_key
theorem doomL_len : (doomL M T xs).length = M.length := by unfold doomL; rw [List.length_map]
theorem doomL_esOf (h : C.length = M.length) : esOf (doomL M T xs) C = esOf M C := by
  unfold esOf doomL
  apply List.ext_getElem?
  intro q
  simp only [List.getElem?_zipWith, List.getElem?_map]
  cases M[q]? with
  | none => rfl
  | some a => cases C[q]? with
    | none => rfl
    | some c => simp [doomA_key]
theorem doomL_nil : doomL M T [] = M := by
  unfold doomL
  have : ∀ a ∈ M, doomA M T [] a = a := fun a _ => if_neg (by simp)
  rw [List.map_congr_left this]; simp
theorem mget_map {f : Int × TX → Int × TX} (hf : ∀ a, (f a).1 = a.1) : ∀ {M : TM}, mget (M.map f) x = (mget M x).map fun t => (f (x, t)).2
  | [] => rfl
  | (a, u) :: M => by
    have ih := mget_map hf (M := M)
    unfold mget at ih ⊢
    simp only [List.map_cons, mlook]
    have h1 := hf (a, u)
    rw [show f (a, u) = ((f (a, u)).1, (f (a, u)).2) from rfl, h1]
    simp only [mlook]
    by_cases hxa : x = a
    · subst hxa; rw [if_pos rfl, if_pos rfl]; rfl
    · rw [if_neg hxa, if_neg hxa]
      cases hq : mlook M x with
      | none => rw [hq] at ih; cases hq2 : mlook (M.map f) x with
        | none => rfl
        | some r => rw [hq2] at ih; cases ih
      | some q => rw [hq] at ih; cases hq2 : mlook (M.map f) x with
        | none => rw [hq2] at ih; cases ih
        | some r => rw [hq2] at ih; simpa using ih
theorem mget_doom : mget (doomL M T xs) x = (mget M x).map fun t => if (xs.contains x && hitB M T x) = true then doomT t else t := by
  unfold doomL
  rw [mget_map (fun a => doomA_key)]
  cases mget M x with
  | none => rfl
  | some t => simp only [Option.map_some, doomA]; split <;> rfl
theorem doom_parts (h : mget (doomL M T xs) x = some t) : t.reads = (txAt M x).reads ∧ t.label = (txAt M x).label ∧ t.writes = (txAt M x).writes ∧ t.stamp = (txAt M x).stamp := by
  rw [mget_doom] at h
  unfold txAt
  cases hq : mget M x with
  | none => rw [hq] at h; cases h
  | some u =>
    rw [hq] at h
    simp only [Option.map_some, Option.some.injEq] at h
    subst h
    split <;> exact ⟨rfl, rfl, rfl, rfl⟩
theorem hit_parts {D : List RD} (hR : t.reads = (txAt M x).reads) (hD : D.map rOf = t.reads) : (T.writes.any fun s => covB (D.map rOf) s T.label) = hitB M T x := by
  unfold hitB; rw [hD, hR]
theorem contains_take (h : i < L.length) {a : Int} : (L.take (i + 1)).contains a = ((L.take i).contains a || a == L.getD i 0) := by
  rw [takeT (d := 0) h]
  simp [List.contains_eq_any_beq, List.any_append]
  rfl
theorem doom_f (h : i < L.length) (hh : hitB M T (L.getD i 0) = false) : doomL M T (L.take (i + 1)) = doomL M T (L.take i) := by
  unfold doomL
  apply List.map_congr_left
  intro a _
  unfold doomA
  rw [contains_take h]
  by_cases ha : a.1 = L.getD i 0
  · rw [ha, hh]; simp
  · rw [beq_false_of_ne ha, Bool.or_false]
theorem doom_t (h : i < L.length) (hh : hitB M T (L.getD i 0) = true) (hn : (M.map Prod.fst).Nodup) (hj : j < M.length) (hM : (doomL M T (L.take i)).getD j default = (L.getD i 0, t)) :
    doomL M T (L.take (i + 1)) = (doomL M T (L.take i)).set j (L.getD i 0, doomT t) := by
  have hjd : (doomL M T (L.take i)).getD j default = doomA M T (L.take i) M[j] := by unfold doomL; simp [List.getD_eq_getElem?_getD, hj]
  rw [hM] at hjd
  have hk : M[j].1 = L.getD i 0 := by rw [← doomA_key (M := M) (T := T) (xs := L.take i), ← hjd]
  apply List.ext_getElem?
  intro q
  rw [List.getElem?_set]
  by_cases hq : j = q
  · subst hq
    rw [if_pos rfl, if_pos (by rw [doomL_len]; exact hj)]
    unfold doomL
    rw [List.getElem?_map, List.getElem?_eq_getElem hj, Option.map_some]
    have h1 : doomA M T (L.take (i + 1)) M[j] = (M[j].1, doomT M[j].2) := if_pos (by rw [contains_take h, hk, hh]; simp)
    rw [h1, hk]
    have h2 : doomT M[j].2 = doomT t := by
      unfold doomA at hjd
      split at hjd
      · have := congrArg Prod.snd hjd; simp only at this; rw [this]; rfl
      · have := congrArg Prod.snd hjd; simp only at this; rw [this]
    rw [h2]
  · rw [if_neg hq]
    unfold doomL
    rw [List.getElem?_map, List.getElem?_map]
    cases hMq : M[q]? with
    | none => rfl
    | some a =>
      simp only [Option.map_some, Option.some.injEq]
      have hne : a.1 ≠ L.getD i 0 := by
        intro he
        have h1 : (M.map Prod.fst)[q]? = some (L.getD i 0) := by simp [hMq, he]
        have h2 : (M.map Prod.fst)[j]? = some (L.getD i 0) := by rw [List.getElem?_map, List.getElem?_eq_getElem hj, Option.map_some, hk]
        exact hq (nodup_inj hn h2 h1)
      unfold doomA
      rw [contains_take h, beq_false_of_ne hne, Bool.or_false]
theorem doom_ne {j0 j9 : Nat} {n : Int} {T0 T9 : TX} (h0 : M.getD j0 default = (n, T0)) (hj0 : j0 < M.length) (h9 : (doomL M T xs).getD j9 default = (x, T9)) (hne : x ≠ n) : j0 ≠ j9 := by
  rintro rfl
  have hjd : (doomL M T xs).getD j0 default = doomA M T xs M[j0] := by unfold doomL; simp [List.getD_eq_getElem?_getD, hj0]
  have h1 : M[j0] = (n, T0) := by rw [← h0]; simp [List.getD_eq_getElem?_getD, hj0]
  rw [h9] at hjd
  have := congrArg Prod.fst hjd
  rw [doomA_key, h1] at this
  exact hne this
theorem txAt_ok (h : MOk M) (hx : x ∈ M.map Prod.fst) : TOk (txAt M x) := by
  obtain ⟨t, ht⟩ := mget_key hx
  unfold txAt; rw [ht]; exact (h.2 _ (mget_mem ht)).2
end
section
variable {w w' : World} {base j p : Nat} {M : TM} {C : List TC} {F : Nat → Prop} {T : TX} {la rv wv : Value} {D : List RD} {x : Int}
/-- One transaction is doomed. -/
theorem LkAll.doom (h : LkAll w base M C F) (hj : j < M.length) (hM : M.getD j default = (x, T)) (hC : C.getD j default = ⟨p, la, rv, wv, D⟩) (E : w.grownBy w' (some p)) (hx : Bx w' p 164 [la, .int .u64 T.stamp, rv, wv, .bool true]) :
    LkAll w' base (M.set j (x, doomT T)) C F := by
  obtain ⟨h1, h2, h3, h4⟩ := h
  have E' : Gr w w' (fun y => some p = some y) := Gr.of E
  have gM : ∀ q, (M.set j (x, doomT T)).getD q default = if q = j then (x, doomT T) else M.getD q default := fun q => getD_set hj
  have hTj := h2 j hj
  rw [hC, hM] at hTj
  obtain ⟨b0, b1, b2, b3, b4, b5, b6⟩ := hTj
  refine ⟨by simp [h1], fun q hq => ?_, fun a b ha hb hab => ?_, fun y => ?_⟩
  · rw [List.length_set] at hq
    rw [gM]
    by_cases hqj : q = j
    · rw [if_pos hqj, hqj, hC]
      refine ⟨b0, hx, b2.keepG E' fun y hy hp => ?_, b3.keepG E' fun y hy hp => ?_, fun x9 hx9 => (b4 x9 hx9).keepG E' fun y hy hp => ?_, b5.keepG E' fun y hy hp => ?_, b6⟩
      · injection hp with hp; subst hp; exact b2.neB b1 (by decide) hy
      · injection hp with hp; subst hp; exact b3.neB b1 (by decide) hy
      · injection hp with hp; subst hp; exact (b4 x9 hx9).neB b1 (by decide) hy
      · injection hp with hp; subst hp; exact b5.neB b1 (by decide) hy
    · rw [if_neg hqj]
      refine (h2 q hq).keepG E' fun y hy hp => ?_
      injection hp with hp; subst hp
      exact h3 q j hq hj hqj _ hy (by rw [hC]; exact .inl rfl)
  · rw [List.length_set] at ha hb; exact h3 a b ha hb hab
  · rw [h4 y, List.length_set]
/-- Unlike keys have unlike boxes. -/
theorem LkAll.ne (h : LkAll w base M C F) {i j p q : Nat} {la rv wv la2 rv2 wv2 : Value} {D D2 : List RD} (hi : i < M.length) (hj : j < M.length) (hij : i ≠ j) (h1 : C.getD i default = ⟨p, la, rv, wv, D⟩) (h2 : C.getD j default = ⟨q, la2, rv2, wv2, D2⟩) : p ≠ q := by
  rintro rfl
  exact h.2.2.1 i j hi hj hij p (by rw [h1]; exact .inl rfl) (by rw [h2]; exact .inl rfl)
end
end Go.Proofs.Ytmhdbphpmgjpcaa

/- Walks, written by a program: what each function of the translation hands back. -/
namespace Go.Proofs.Ytmhdbphpmgjpcaa
open Go.Gx Go.RowKit
attribute [local irreducible] wpList wpStill Code.wp Calls

theorem com2 {base p : Nat} {la rv wv : Value} {lab : List UInt16} {stp : Int} {D : List RD} {Wr : List (List UInt8)} {dm : Bool} {y : List UInt8} {la2 rv2 wv2 : Value} {lab2 : List UInt16} {s2 : Int} {d2 : Bool} {p2 ob tb : Nat} {w : World} (hbase : base ≤ w.heap.size) (hx : Bx w p 164 [la, .int .u64 stp, rv, wv, .bool dm]) (hLa : Own w base 46 1 la lab.length (lab.map u16v)) (hR : Own w base 169 2 rv D.length (D.flatMap cellsRd)) (hD : ∀ x9 ∈ D.map rdL, Own w base 46 1 x9.1 x9.2.length (x9.2.map u16v)) (hW : Own w base 9 1 wv Wr.length (Wr.map sv)) (h8 : lab.length ≤ 8 ∧ ∀ r ∈ D, r.lab.length ≤ 8) (hb9 : Bx w ob 155 [ptr p 0]) (hb8 : Bx w tb 155 [ptr p2 0]) (hx2 : Bx w p2 164 [la2, .int .u64 s2, rv2, wv2, .bool d2]) (hL2 : Own w base 46 1 la2 lab2.length (lab2.map u16v)) (h82 : lab2.length ≤ 8) : Ret Try.prog 108 #[(Value.string (bs y)), (ptr ob 0), (ptr tb 0)] w (fun v' w' => Below w.heap.size w w' ∧ v' = .bool (covB (D.map rOf) y lab2)) := by
 have hb := Below.refl w.heap.size w
 refine enter (N := 12) Try.func108 rfl rfl (by simp) fun a0 hN hd hA => ?_
 have s0 : a0.tmps.getD 0 undef = (Value.string (bs y)) := hA 0 (by simp)
 have s1 : a0.tmps.getD 1 undef = (ptr ob 0) := hA 1 (by simp)
 have s2 : a0.tmps.getD 2 undef = (ptr tb 0) := hA 2 (by simp)
 clear hA
 refine seq_any fun K1 hK1 => ?_
 refine one_reg ?_
 refine op_assign rfl ?_
 refine reg_nil ?_
 refine hK1 _ _ ?_
 refine seq_any fun K2 hK2 => ?_
 refine reg_from mixed ?_
 intro w4 E3
 have z_w4 := E3.size
 have hb9 := hb9.keep0 E3
 have hb8 := hb8.keep0 E3
 have hx2 := hx2.keep0 E3
 have hL2 := hL2.keep0 E3
 have hx := hx.keep0 E3
 have hLa := hLa.keep0 E3
 have hR := hR.keep0 E3
 have hD : ∀ x9 ∈ (D.map rdL), Own w4 base 46 1 x9.1 x9.2.length (x9.2.map u16v) := fun x9 hx9 => (hD x9 hx9).keep0 E3
 have hW := hW.keep0 E3
 have hb := below_step0 hb E3 hb.size
 refine from_still (m := 6) 6 (hd := [_, _, _, _, _, _]) (by kernel_rfl) rfl rfl ?_
 refine st_step rfl (fun _ h9 => op_load1 (v := (ptr p 0)) one155 (ev_base hN rfl s1) (hb9.cell rfl) h9) ?_
 refine st_step rfl (fun _ h9 => op_move (ev_base hN rfl s0) h9) ?_
 refine st_step rfl (fun _ h9 => op_load1 (v := (ptr p2 0)) one155 (ev_base hN rfl s2) (hb8.cell rfl) h9) ?_
 refine st_step rfl (fun _ h9 => op_nil (ev_hit hN rfl) h9) ?_
 refine st_step rfl (fun _ h9 => op_field fld164_0 (ev_hit hN rfl) h9) ?_
 refine st_step rfl (fun _ h9 => op_load1 (v := la2) one54 (ev_hit hN rfl) (hx2.cell rfl) h9) ?_
 refine st_nil ?_
 refine from_seq (tl := [_, _]) (by decide) (by kernel_rfl) rfl ?_
 refine op_fn (vs := [(ptr p 0), (Value.string (bs y)), la2]) ok109 ⟨(ev_hit hN rfl), ⟨(ev_hit hN rfl), ⟨(ev_hit hN rfl), trivial⟩⟩⟩ (coversT (by omega) hx hLa hR hD hW h8 (hL2.rdw.mono (Nat.zero_le _) (by omega)) (by omega)) ?_
 rintro _ w5 ⟨E6, rfl⟩
 have E6 := grown_of_below E6
 have z_w5 := E6.size
 have hb9 := hb9.keep0 E6
 have hb8 := hb8.keep0 E6
 have hx2 := hx2.keep0 E6
 have hL2 := hL2.keep0 E6
 have hx := hx.keep0 E6
 have hLa := hLa.keep0 E6
 have hR := hR.keep0 E6
 have hD : ∀ x9 ∈ (D.map rdL), Own w5 base 46 1 x9.1 x9.2.length (x9.2.map u16v) := fun x9 hx9 => (hD x9 hx9).keep0 E6
 have hW := hW.keep0 E6
 have hb := below_step0 hb E6 hb.size
 refine op_assign (ev_hit hN rfl) ?_
 refine reg_nil ?_
 refine hK2 _ _ ?_
 refine wp_ret ?_
 refine ret1 rfl hd (ev_hit hN rfl) ⟨_, rfl, ?_⟩
 -- path
 exact ⟨hb, rfl⟩

theorem Com_hit {base k m : Nat} {M : TM} {C : List TC} {F0 : Nat → Prop} {T : TX} {n : Int} {w : World} (hbase : base ≤ w.heap.size) (hk : Bx w k 121 [.map (some m)]) (hM : MapC (Value.int .i64) pv w m (esOf M C)) (hA : LkAll w base M C F0) (hMo : MOk M) (hT : mget M n = some T) : Ret Try.prog 60 #[(ptr k 0), (Value.int .i64 n)] w (fun v' w' => Gr w w' (fun y => F0 y ∨ y = m) ∧ ∃ v, v' = .tuple #[v, .int .i64 0] ∧ Own w' w.heap.size 3 1 v ((othersL M n (upQ T)).filter (hitB M T)).length (((othersL M n (upQ T)).filter (hitB M T)).map (Value.int .i64)) ∧ MapC (Value.int .i64) pv w' m (mdel (esOf M C) n) ∧ LkAll w' base (doomL M T (othersL M n (upQ T))) C F0) := by
 have hi_k := hk.lt
 have hi_m := hM.lt
 have hm1 := hMo.1
 have hT8 : TOk T := (hMo.2 _ (mget_mem hT)).2
 have hl8 := hT8.1
 have hol := others_len (M := M) (n := n) (q := upQ T)
 have djk := hA.notBx hk (by decide) (by decide) (by decide) (by decide)
 have djm := hA.notMap hM
 have hC0 := hA.1
 have hnd : (M.map Prod.fst).Nodup := by have h9 := hM.nodup (Go.Gx.key_int (P := Try.prog) Try.underlying3); rw [esOf_keys hC0] at h9; exact h9
 obtain ⟨j0, p0, la0, rv0, wv0, D0, hj0, hl0, hMj0, hCj0, hes0, hp0, hx0, hL0, hR0, hD0, hW0, hDe0⟩ := LkAll.key hA hT
 have hb := Gr.refl w (fun y => F0 y ∨ y = m)
 refine enter (N := 55) Try.func60 rfl rfl (by simp) fun a0 hN hd hA => ?_
 have s0 : a0.tmps.getD 0 undef = (ptr k 0) := hA 0 (by simp)
 have s1 : a0.tmps.getD 1 undef = (Value.int .i64 n) := hA 1 (by simp)
 clear hA
 refine seq_any fun K7 hK7 => ?_
 refine one_reg ?_
 refine op_assign rfl ?_
 refine op_assign rfl ?_
 refine reg_nil ?_
 refine hK7 _ _ ?_
 refine seq_any fun K8 hK8 => ?_
 refine one_reg ?_
 refine op_move (ev_base hN rfl s0) ?_
 refine op_move (ev_base hN rfl s1) ?_
 refine op_fn (vs := [(ptr k 0), (Value.int .i64 n)]) ok95 ⟨(ev_hit hN rfl), ⟨(ev_hit hN rfl), trivial⟩⟩ (Ret.flip (at_hit n hk hM hes0)) ?_
 rintro _ _ ⟨rfl, rfl⟩
 refine op_move (ev_hit hN rfl) ?_
 refine op_extract (ev_hit hN rfl) rfl ?_
 refine op_extract (ev_hit hN rfl) rfl ?_
 refine op_alloc (cs := [(Value.pointer none)]) zero155 rfl ?_
 intro w9 b10 lo_b10 hi_b10 hB12 E11
 have dj13 : ¬ F0 b10 := fun hf => by have := (hA.lt _ hf).2; omega
 have z_w9 := E11.size
 have hk := hk.keep0 E11
 have hM := hM.keep0 E11
 have hA := hA.keepG (Gr.of0 E11 NoB) (fun _ _ h => h)
 have hx0 := hx0.keep0 E11
 have hL0 := hL0.keep0 E11
 have hR0 := hR0.keep0 E11
 have hD0 : ∀ x9 ∈ (D0.map rdL), Own w9 base 46 1 x9.1 x9.2.length (x9.2.map u16v) := fun x9 hx9 => (hD0 x9 hx9).keep0 E11
 have hW0 := hW0.keep0 E11
 have hb := hb.step0 E11
 have hB12_old := hB12
 refine op_store (vs := [(ptr p0 0)]) (cs' := [(ptr p0 0)]) size155 (ev_hit hN rfl) (ev_hit hN rfl) rfl rfl rfl hB12 (Nat.le_of_ble_eq_true rfl) rfl ?_
 intro w16 hB12 E17
 have z_w16 := E17.size
 have hk := hk.keep E17 (fun hh => hk.ne hB12_old (by decide) (Option.some.inj hh))
 have hM := hM.keepB hB12_old E17
 have hA := hA.keepG (Gr.of E17) (Dj.one dj13)
 have hx0 := hx0.keep E17 (fun hh => hx0.ne hB12_old (by decide) (Option.some.inj hh))
 have hL0 := hL0.keepX hB12_old E17 (by decide)
 have hR0 := hR0.keepX hB12_old E17 (by decide)
 have hD0 : ∀ x9 ∈ (D0.map rdL), Own w16 base 46 1 x9.1 x9.2.length (x9.2.map u16v) := fun x9 hx9 => (hD0 x9 hx9).keepX hB12_old E17 (by decide)
 have hW0 := hW0.keepX hB12_old E17 (by decide)
 have hb := hb.step1 E17 (by omega)
 refine op_assign (ev_hit hN rfl) ?_
 refine reg_nil ?_
 refine hK8 _ _ ?_
 refine seq_any fun K18 hK18 => ?_
 refine seq_any fun K19 hK19 => ?_
 refine one_reg ?_
 refine op_move (ev_hit hN rfl) ?_
 refine op_bin (v := .bool false) (ev_hit hN rfl) rfl (by rw [binOp_neq]; rfl) ?_
 refine reg_nil ?_
 refine hK19 _ _ ?_
 refine wp_cond_false (ev_hit hN rfl) ?_
 refine wp_skip ?_
 refine hK18 _ _ ?_
 refine seq_any fun K20 hK20 => ?_
 refine one_reg ?_
 refine op_assign rfl ?_
 refine reg_nil ?_
 refine hK20 _ _ ?_
 refine seq_any fun K21 hK21 => ?_
 refine seq_any fun K22 hK22 => ?_
 refine one_reg ?_
 refine op_move (ev_base hN rfl s0) ?_
 refine op_move (ev_base hN rfl s1) ?_
 refine op_mkfn (cv := [(ptr b10 0)]) ⟨(ev_hit hN rfl), trivial⟩ ?_
 refine op_fn (vs := [(ptr k 0), (Value.int .i64 n), (Value.func (.func 105) #[] #[(ptr b10 0)])]) ok96 ⟨(ev_hit hN rfl), ⟨(ev_hit hN rfl), ⟨(ev_hit hN rfl), trivial⟩⟩⟩ (others_ret (q := upQ T) n (by omega) hk hM hA hMo (g := 105) (fs := []) (cs := [(ptr b10 0)]) ok105 (fun j hj w1 E => com1 (hB12.keep0 (grown_of_below E)) (hx0.keep0 (grown_of_below E)) (hL0.keep0 (grown_of_below E)) (((hA.2.1 j hj).2.2.1.keep0 (grown_of_below E)).rdw.mono (Nat.zero_le _) (Nat.le_refl _)) hT8.1 (hMo.2 _ (getD_mem hj)).2.1)) ?_
 rintro v23 w24 ⟨E25, hO23⟩
 have dj26 : Dj F0 (Bl v23) := Dj.fresh (fun k hk => (hA.lt k hk).2) (fun k hk => (hO23.lt k hk).1)
 have E25 := grown_of_below E25
 have z_w24 := E25.size
 have hk := hk.keep0 E25
 have hM := hM.keep0 E25
 have hA := hA.keepG (Gr.of0 E25 NoB) (fun _ _ h => h)
 have hx0 := hx0.keep0 E25
 have hL0 := hL0.keep0 E25
 have hR0 := hR0.keep0 E25
 have hD0 : ∀ x9 ∈ (D0.map rdL), Own w24 base 46 1 x9.1 x9.2.length (x9.2.map u16v) := fun x9 hx9 => (hD0 x9 hx9).keep0 E25
 have hW0 := hW0.keep0 E25
 have hB12 := hB12.keep0 E25
 have hb := hb.step0 E25
 have hO23 := hO23.mono (base' := w.heap.size) (by omega)
 refine op_len_rd Try.underlying35 (ev_hit hN rfl) hO23.rdw ?_
 refine op_move rfl ?_
 refine reg_nil ?_
 refine hK22 _ _ ?_
 refine wp_block ?_
 refine loop_m (fun mz_ az_ w' => ∃ (i : Nat) (r : Value), mz_ = (othersL M n (upQ T)).length - i ∧ (az_.tmps.getD 0 undef = (ptr k 0)) ∧ (az_.tmps.getD 1 undef = (Value.int .i64 n)) ∧ (az_.tmps.getD 4 undef = (Value.slice none 0 0)) ∧ (az_.tmps.getD 5 undef = (Value.int .i64 0)) ∧ (az_.tmps.getD 6 undef = (ptr b10 0)) ∧ (az_.tmps.getD 24 undef = v23) ∧ (az_.tmps.getD 25 undef = (Value.int .i64 (((othersL M n (upQ T)).length : Nat) : Int))) ∧ (az_.tmps.getD 26 undef = (Value.int .i64 ((i : Nat) : Int))) ∧ (az_.tmps.getD 8 undef = r) ∧ (i ≤ (othersL M n (upQ T)).length) ∧ ((((othersL M n (upQ T)).take i).filter (hitB M T)).length ≤ i) ∧ (DJ v23 r) ∧ (Gr w w' (fun y => F0 y ∨ y = m)) ∧ (w24.heap.size ≤ w'.heap.size) ∧ (Bx w' k 121 [(Value.map (some m))]) ∧ (MapC (Value.int .i64) pv w' m (esOf M C)) ∧ (Bx w' p0 164 [la0, (Value.int .u64 T.stamp), rv0, wv0, (Value.bool T.doomed)]) ∧ (Own w' base 46 1 la0 T.label.length (T.label.map u16v)) ∧ (Own w' base 169 2 rv0 D0.length (D0.flatMap cellsRd)) ∧ (∀ x9 ∈ (D0.map rdL), Own w' base 46 1 x9.1 x9.2.length (x9.2.map u16v)) ∧ (Own w' base 9 1 wv0 T.writes.length (T.writes.map sv)) ∧ (Bx w' b10 155 [(ptr p0 0)]) ∧ (Own w' w.heap.size 3 1 v23 (othersL M n (upQ T)).length ((othersL M n (upQ T)).map (Value.int .i64))) ∧ (LkAll w' base (doomL M T ((othersL M n (upQ T)).take i)) C F0) ∧ (Own w' w.heap.size 3 1 r (((othersL M n (upQ T)).take i).filter (hitB M T)).length ((((othersL M n (upQ T)).take i).filter (hitB M T)).map (Value.int .i64)))) _ hN hd ⟨0, (Value.slice none 0 0), rfl, (sl_base hN rfl s0), (sl_base hN rfl s1), (sl_hit hN rfl), (sl_hit hN rfl), (sl_hit hN rfl), (sl_hit hN rfl), (sl_hit hN rfl), (sl_hit hN rfl), (sl_hit hN rfl), (Nat.zero_le _), (by simp), (Dj.nil _), hb, (Nat.le_refl _), hk, hM, hx0, hL0, hR0, hD0, hW0, hB12, hO23, (by rw [List.take_zero, doomL_nil]; exact hA), (Own.nil _ _ _ _)⟩ ?_
 rintro _ a27 w27 hN27 hd27 ⟨i, r, rfl, s27_0, s27_1, s27_4, s27_5, s27_6, s27_24, s27_25, s27_26, s27_8, hi, hfl, djr, hb, zl_w27, hk, hM, hx0, hL0, hR0, hD0, hW0, hB12, hO23, hA, hO28⟩
 have z_w27 := hb.size
 refine seq_any fun K29 hK29 => ?_
 refine one_reg ?_
 refine op_lss (ev_base hN27 rfl s27_26) (ev_base hN27 rfl s27_25) (fun c27 => ?_) (fun c27 => ?_)
 · -- 27T
  refine reg_nil ?_
  refine hK29 _ _ ?_
  refine seq_any fun K30 hK30 => ?_
  refine wp_cond_true (ev_hit hN27 rfl) ?_
  refine wp_skip ?_
  refine hK30 _ _ ?_
  refine seq_any fun K31 hK31 => ?_
  refine wp_block ?_
  refine seq_any fun K32 hK32 => ?_
  refine one_reg ?_
  refine op_index_rd slt35 (ev_base hN27 rfl s27_24) hO23.rdw (ev_base hN27 rfl s27_26) (by omega) (by omega) ?_
  intro b33 o34 h0b33 h1b33 hc35
  refine op_load1 (v := (Value.int .i64 ((othersL M n (upQ T)).getD i 0))) one3 (ev_hit hN27 rfl) (by have := hc35 0 (Value.int .i64 ((othersL M n (upQ T)).getD i 0)) (by decide) (el_i64 (i := i) (by omega) (by omega)); simpa using this) ?_
  refine op_assign (ev_hit hN27 rfl) ?_
  refine reg_nil ?_
  refine hK32 _ _ ?_
  refine seq_any fun K36 hK36 => ?_
  refine one_reg ?_
  have hxo := others_mem (getD_mem (d := 0) (show i < (othersL M n (upQ T)).length by omega))
  have hx9 : (othersL M n (upQ T)).getD i 0 ∈ (doomL M T ((othersL M n (upQ T)).take i)).map Prod.fst := by rw [doomL_keys]; exact hxo.1
  obtain ⟨T9, hT9⟩ := mget_key hx9
  obtain ⟨j9, p9, la9, rv9, wv9, D9, hj9, hl9, hMj9, hCj9, hes9, hp9, hx9, hL9, hR9, hD9, hW9, hDe9⟩ := LkAll.key hA hT9
  rw [doomL_esOf hC0] at hes9
  have hdp9 := doom_parts hT9
  have h89 : TOk T9 := ⟨by rw [hdp9.2.1]; exact (txAt_ok hMo hxo.1).1, by rw [hdp9.1]; exact (txAt_ok hMo hxo.1).2⟩
  have hne9 := LkAll.ne hA (by rw [doomL_len]; exact hj0) hj9 (doom_ne hMj0 hj0 hMj9 hxo.2.1) hCj0 hCj9
  have hF9 : F0 p9 := (hA.2.2.2 p9).2 ⟨j9, hj9, by rw [hCj9]; exact .inl rfl⟩
  refine op_move (ev_base hN27 rfl s27_0) ?_
  refine op_nil (ev_hit hN27 rfl) ?_
  refine op_field fld121_0 (ev_hit hN27 rfl) ?_
  refine op_load1 (v := (Value.map (some m))) one119 (ev_hit hN27 rfl) (hk.cell rfl) ?_
  refine op_move (ev_hit hN27 rfl) ?_
  refine op_look_hit (k := ((othersL M n (upQ T)).getD i 0)) (v := p9) Try.underlying119 (Go.Gx.key_int Try.underlying3) zero155 (ev_hit hN27 rfl) (ev_hit hN27 rfl) hM hes9 ?_
  refine op_alloc (cs := [(Value.pointer none)]) zero155 rfl ?_
  intro w37 b38 lo_b38 hi_b38 hB40 E39
  have dj41 : ¬ F0 b38 := fun hf => by have := (hA.lt _ hf).2; omega
  have z_w37 := E39.size
  have hk := hk.keep0 E39
  have hM := hM.keep0 E39
  have hx0 := hx0.keep0 E39
  have hL0 := hL0.keep0 E39
  have hR0 := hR0.keep0 E39
  have hD0 : ∀ x9 ∈ (D0.map rdL), Own w37 base 46 1 x9.1 x9.2.length (x9.2.map u16v) := fun x9 hx9 => (hD0 x9 hx9).keep0 E39
  have hW0 := hW0.keep0 E39
  have hB12 := hB12.keep0 E39
  have hO23 := hO23.keep0 E39
  have hA := hA.keepG (Gr.of0 E39 NoB) (fun _ _ h => h)
  have hO28 := hO28.keep0 E39
  have hx9 := hx9.keep0 E39
  have hL9 := hL9.keep0 E39
  have hR9 := hR9.keep0 E39
  have hD9 : ∀ x9 ∈ (D9.map rdL), Own w37 base 46 1 x9.1 x9.2.length (x9.2.map u16v) := fun x9 hx9 => (hD9 x9 hx9).keep0 E39
  have hW9 := hW9.keep0 E39
  have hb := hb.step0 E39
  have hB40_old := hB40
  refine op_store (vs := [(ptr p9 0)]) (cs' := [(ptr p9 0)]) size155 (ev_hit hN27 rfl) (ev_hit hN27 rfl) rfl rfl rfl hB40 (Nat.le_of_ble_eq_true rfl) rfl ?_
  intro w44 hB40 E45
  have z_w44 := E45.size
  have hk := hk.keep E45 (fun hh => hk.ne hB40_old (by decide) (Option.some.inj hh))
  have hM := hM.keepB hB40_old E45
  have hx0 := hx0.keep E45 (fun hh => hx0.ne hB40_old (by decide) (Option.some.inj hh))
  have hL0 := hL0.keepX hB40_old E45 (by decide)
  have hR0 := hR0.keepX hB40_old E45 (by decide)
  have hD0 : ∀ x9 ∈ (D0.map rdL), Own w44 base 46 1 x9.1 x9.2.length (x9.2.map u16v) := fun x9 hx9 => (hD0 x9 hx9).keepX hB40_old E45 (by decide)
  have hW0 := hW0.keepX hB40_old E45 (by decide)
  have hB12 := hB12.keep E45 (by simp; omega)
  have hO23 := hO23.keepX hB40_old E45 (by decide)
  have hA := hA.keepG (Gr.of E45) (Dj.one dj41)
  have hO28 := hO28.keepX hB40_old E45 (by decide)
  have hx9 := hx9.keep E45 (fun hh => hx9.ne hB40_old (by decide) (Option.some.inj hh))
  have hL9 := hL9.keepX hB40_old E45 (by decide)
  have hR9 := hR9.keepX hB40_old E45 (by decide)
  have hD9 : ∀ x9 ∈ (D9.map rdL), Own w44 base 46 1 x9.1 x9.2.length (x9.2.map u16v) := fun x9 hx9 => (hD9 x9 hx9).keepX hB40_old E45 (by decide)
  have hW9 := hW9.keepX hB40_old E45 (by decide)
  have hb := hb.step1 E45 (by omega)
  refine reg_nil ?_
  refine hK36 _ _ ?_
  refine seq_any fun K46 hK46 => ?_
  refine one_reg ?_
  refine op_load1 (v := (ptr p0 0)) one155 (ev_base hN27 rfl s27_6) (hB12.cell rfl) ?_
  refine op_nil (ev_hit hN27 rfl) ?_
  refine op_field fld164_3 (ev_hit hN27 rfl) ?_
  refine op_mkfn (cv := [(ptr b38 0), (ptr b10 0)]) ⟨(ev_hit hN27 rfl), ⟨(ev_base hN27 rfl s27_6), trivial⟩⟩ ?_
  refine op_fn (vs := [(ptr p0 3), (Value.func (.func 108) #[] #[(ptr b38 0), (ptr b10 0)])]) ok107 ⟨(ev_hit hN27 rfl), ⟨(ev_hit hN27 rfl), trivial⟩⟩ (hasS (by omega) hx0 hL0 hR0 hD0 hW0 ⟨hT8.1, TOk.rd hT8 hDe0⟩ (p9 := (fun y => covB (D9.map rOf) y T.label)) (g := 108) (fs := []) (cs := [(ptr b38 0), (ptr b10 0)]) ok108 (fun i hi w1 E => com2 (by have := E.size; omega) (hx9.keep0 (grown_of_below E)) (hL9.keep0 (grown_of_below E)) (hR9.keep0 (grown_of_below E)) (fun x9 hx9 => (hD9 x9 hx9).keep0 (grown_of_below E)) (hW9.keep0 (grown_of_below E)) ⟨h89.1, TOk.rd h89 hDe9⟩ (hB40.keep0 (grown_of_below E)) (hB12.keep0 (grown_of_below E)) (hx0.keep0 (grown_of_below E)) (hL0.keep0 (grown_of_below E)) hT8.1)) ?_
  rintro _ w47 ⟨E48, rfl⟩
  have E48 := grown_of_below E48
  have z_w47 := E48.size
  have hk := hk.keep0 E48
  have hM := hM.keep0 E48
  have hx0 := hx0.keep0 E48
  have hL0 := hL0.keep0 E48
  have hR0 := hR0.keep0 E48
  have hD0 : ∀ x9 ∈ (D0.map rdL), Own w47 base 46 1 x9.1 x9.2.length (x9.2.map u16v) := fun x9 hx9 => (hD0 x9 hx9).keep0 E48
  have hW0 := hW0.keep0 E48
  have hB12 := hB12.keep0 E48
  have hO23 := hO23.keep0 E48
  have hA := hA.keepG (Gr.of0 E48 NoB) (fun _ _ h => h)
  have hO28 := hO28.keep0 E48
  have hx9 := hx9.keep0 E48
  have hL9 := hL9.keep0 E48
  have hR9 := hR9.keep0 E48
  have hD9 : ∀ x9 ∈ (D9.map rdL), Own w47 base 46 1 x9.1 x9.2.length (x9.2.map u16v) := fun x9 hx9 => (hD9 x9 hx9).keep0 E48
  have hW9 := hW9.keep0 E48
  have hB40 := hB40.keep0 E48
  have hb := hb.step0 E48
  rcases Bool.eq_false_or_eq_true ((T.writes.any (fun y => covB (D9.map rOf) y T.label))) with c40 | c40
  · -- 40T
   rw [c40]
   refine reg_nil ?_
   refine hK46 _ _ ?_
   refine wp_cond_true (ev_hit hN27 rfl) ?_
   refine seq_any fun K49 hK49 => ?_
   refine one_reg ?_
   have hhit : hitB M T ((othersL M n (upQ T)).getD i 0) = true := by rw [← hit_parts hdp9.1 hDe9]; exact c40
   have hA_b := hA
   refine op_load1 (v := (ptr p9 0)) one155 (ev_hit hN27 rfl) (hB40.cell rfl) ?_
   refine op_nil (ev_hit hN27 rfl) ?_
   refine op_field fld164_4 (ev_hit hN27 rfl) ?_
   have hx9_old := hx9
   refine op_store (vs := [(Value.bool true)]) (cs' := [la9, (Value.int .u64 T9.stamp), rv9, wv9, (Value.bool true)]) size4 (ev_hit hN27 rfl) rfl rfl rfl rfl hx9 (Nat.le_of_ble_eq_true rfl) rfl ?_
   intro w52 hx9 E53
   have z_w52 := E53.size
   have hk := hk.keep E53 (fun hh => hk.ne hx9_old (by decide) (Option.some.inj hh))
   have hM := hM.keepB hx9_old E53
   have hx0 := hx0.keep E53 (by simp; omega)
   have hL0 := hL0.keepX hx9_old E53 (by decide)
   have hR0 := hR0.keepX hx9_old E53 (by decide)
   have hD0 : ∀ x9 ∈ (D0.map rdL), Own w52 base 46 1 x9.1 x9.2.length (x9.2.map u16v) := fun x9 hx9 => (hD0 x9 hx9).keepX hx9_old E53 (by decide)
   have hW0 := hW0.keepX hx9_old E53 (by decide)
   have hB12 := hB12.keep E53 (fun hh => hB12.ne hx9_old (by decide) (Option.some.inj hh))
   have hO23 := hO23.keepX hx9_old E53 (by decide)
   have hO28 := hO28.keepX hx9_old E53 (by decide)
   have hL9 := hL9.keepX hx9_old E53 (by decide)
   have hR9 := hR9.keepX hx9_old E53 (by decide)
   have hD9 : ∀ x9 ∈ (D9.map rdL), Own w52 base 46 1 x9.1 x9.2.length (x9.2.map u16v) := fun x9 hx9 => (hD9 x9 hx9).keepX hx9_old E53 (by decide)
   have hW9 := hW9.keepX hx9_old E53 (by decide)
   have hB40 := hB40.keep E53 (fun hh => hB40.ne hx9_old (by decide) (Option.some.inj hh))
   have hb := hb.stepB E53 (.inl hF9)
   refine reg_nil ?_
   refine hK49 _ _ ?_
   refine one_reg ?_
   have hA := LkAll.doom hA_b hj9 hMj9 hCj9 E53 hx9
   refine op_move (ev_base hN27 rfl s27_8) ?_
   refine op_move (ev_hit hN27 rfl) ?_
   refine op_bslice (e := 3) (pv := [(0, (Value.int .i64 ((othersL M n (upQ T)).getD i 0)))]) (cs := [(Value.int .i64 ((othersL M n (upQ T)).getD i 0))]) ⟨rfl, (ev_hit hN27 rfl), trivial⟩ (by kernel_rfl) ?_
   intro w54 b55 lo_b55 hi_b55 hB57 E56
   have dj58 : ¬ F0 b55 := fun hf => by have := (hA.lt _ hf).2; omega
   have ne_b55_v23 : v23.ownBlock ≠ some b55 := fun hh => by have := (hO23.lt _ hh).2; omega
   have ne_b55_r : r.ownBlock ≠ some b55 := fun hh => by have := (hO28.lt _ hh).2; omega
   have z_w54 := E56.size
   have hk := hk.keep0 E56
   have hM := hM.keep0 E56
   have hx0 := hx0.keep0 E56
   have hL0 := hL0.keep0 E56
   have hR0 := hR0.keep0 E56
   have hD0 : ∀ x9 ∈ (D0.map rdL), Own w54 base 46 1 x9.1 x9.2.length (x9.2.map u16v) := fun x9 hx9 => (hD0 x9 hx9).keep0 E56
   have hW0 := hW0.keep0 E56
   have hB12 := hB12.keep0 E56
   have hO23 := hO23.keep0 E56
   have hO28 := hO28.keep0 E56
   have hL9 := hL9.keep0 E56
   have hR9 := hR9.keep0 E56
   have hD9 : ∀ x9 ∈ (D9.map rdL), Own w54 base 46 1 x9.1 x9.2.length (x9.2.map u16v) := fun x9 hx9 => (hD9 x9 hx9).keep0 E56
   have hW9 := hW9.keep0 E56
   have hB40 := hB40.keep0 E56
   have hx9 := hx9.keep0 E56
   have hA := hA.keepG (Gr.of0 E56 NoB) (fun _ _ h => h)
   have hb := hb.step0 E56
   have hP64 := hO28
   refine op_append slt35 (ev_hit hN27 rfl) hP64 (ev_hit hN27 rfl) (Src.ofRd Try.underlying35 (by decide) (RdC.ofBx (sz := 1) (n := 1) hB57 rfl (by decide)) (by simp [Value.oneCell', u8v])) (by unfold maxLen; omega) (by omega) hb.size ?_
   intro v59 w60 hO62 E61 hm63
   have dj65 : DJ v23 v59 := DJ.step hm63 (fun k hk => (hO23.lt k hk).2) djr
   have dj66 : Dj F0 (Bl v59) := Dj.step hm63 (fun k hk => (hA.lt k hk).2) (hA.notOwn hP64 (by decide) (by decide) (by decide) (by decide)).symm
   have z_w60 := E61.size
   have hk := hk.keepO hP64 E61 (by decide)
   have hM := hM.keepO hP64 E61
   have hx0 := hx0.keepO hP64 E61 (by decide)
   have hL0 := hL0.keepT hP64 E61 (by decide)
   have hR0 := hR0.keepT hP64 E61 (by decide)
   have hD0 : ∀ x9 ∈ (D0.map rdL), Own w60 base 46 1 x9.1 x9.2.length (x9.2.map u16v) := fun x9 hx9 => (hD0 x9 hx9).keepT hP64 E61 (by decide)
   have hW0 := hW0.keepT hP64 E61 (by decide)
   have hB12 := hB12.keepO hP64 E61 (by decide)
   have hO23 := hO23.keepD E61 djr
   have hL9 := hL9.keepT hP64 E61 (by decide)
   have hR9 := hR9.keepT hP64 E61 (by decide)
   have hD9 : ∀ x9 ∈ (D9.map rdL), Own w60 base 46 1 x9.1 x9.2.length (x9.2.map u16v) := fun x9 hx9 => (hD9 x9 hx9).keepT hP64 E61 (by decide)
   have hW9 := hW9.keepT hP64 E61 (by decide)
   have hB40 := hB40.keepO hP64 E61 (by decide)
   have hx9 := hx9.keepO hP64 E61 (by decide)
   have hA := hA.keepG (Gr.of E61) (hA.notOwn hP64 (by decide) (by decide) (by decide) (by decide)).symm
   have hB57 := hB57.keep E61 (fun hh => ne_b55_r hh.symm)
   have hb := hb.stepO hP64 E61 (by omega)
   have hO62 : Own w60 w.heap.size 3 1 v59 ((((othersL M n (upQ T)).take i).filter (hitB M T)).length + 1) ((((((othersL M n (upQ T)).take i).filter (hitB M T)) ++ [((othersL M n (upQ T)).getD i 0)])).map (Value.int .i64)) := by simpa [u8v, u16v, sv] using hO62
   have ne_b55_v59 : v59.ownBlock ≠ some b55 := ne_step (w1 := w54) ⟨E61, hm63⟩ (by omega) ne_b55_r
   refine op_assign (ev_hit hN27 rfl) ?_
   refine reg_nil ?_
   refine hK31 _ _ ?_
   refine one_reg ?_
   refine op_add (ev_base hN27 rfl s27_26) rfl (add64 (by omega)) ?_
   refine op_move (ev_hit hN27 rfl) ?_
   refine reg_nil ?_
   -- round 27T 40T
   skip
   exact loop_next _ hN27 hd27 ⟨(i + 1), v59, rfl, (sl_base hN27 rfl s27_0), (sl_base hN27 rfl s27_1), (sl_base hN27 rfl s27_4), (sl_base hN27 rfl s27_5), (sl_base hN27 rfl s27_6), (sl_base hN27 rfl s27_24), (sl_base hN27 rfl s27_25), (sl_hit hN27 rfl).trans (congrArg (Value.int .i64) (by omega)), (sl_hit hN27 rfl), (by omega), (filt_le (by omega)), dj65, hb, (by omega), hk, hM, hx0, hL0, hR0, hD0, hW0, hB12, hO23, (by rw [doom_t (by omega) hhit hnd (by rw [doomL_len] at hj9; exact hj9) hMj9]; exact hA), (hO62.cast (by rw [filtT (d := 0) (by omega) hhit]; simp) (by rw [filtT (d := 0) (by omega) hhit]))⟩ (by omega)
  · -- 40F
   rw [c40]
   refine reg_nil ?_
   refine hK46 _ _ ?_
   refine wp_cond_false (ev_hit hN27 rfl) ?_
   refine wp_skip ?_
   refine hK31 _ _ ?_
   refine one_reg ?_
   refine op_add (ev_base hN27 rfl s27_26) rfl (add64 (by omega)) ?_
   refine op_move (ev_hit hN27 rfl) ?_
   refine reg_nil ?_
   -- round 27T 40F
   have hhit : hitB M T ((othersL M n (upQ T)).getD i 0) = false := by rw [← hit_parts hdp9.1 hDe9]; exact c40
   exact loop_next _ hN27 hd27 ⟨(i + 1), r, rfl, (sl_base hN27 rfl s27_0), (sl_base hN27 rfl s27_1), (sl_base hN27 rfl s27_4), (sl_base hN27 rfl s27_5), (sl_base hN27 rfl s27_6), (sl_base hN27 rfl s27_24), (sl_base hN27 rfl s27_25), (sl_hit hN27 rfl).trans (congrArg (Value.int .i64) (by omega)), (sl_base hN27 rfl s27_8), (by omega), (filt_le (by omega)), djr, hb, (by omega), hk, hM, hx0, hL0, hR0, hD0, hW0, hB12, hO23, (by rw [doom_f (by omega) hhit]; exact hA), (hO28.cast (by rw [filtF (d := 0) (by omega) hhit]) (by rw [filtF (d := 0) (by omega) hhit]))⟩ (by omega)
 · -- 27F
  refine reg_nil ?_
  refine hK29 _ _ ?_
  refine seq_any fun K67 hK67 => ?_
  refine wp_cond_false (ev_hit hN27 rfl) ?_
  refine wp_exit (then_exit (then_exit (blk_hit ?_)))
  refine hK21 _ _ ?_
  refine seq_any fun K68 hK68 => ?_
  refine one_reg ?_
  refine op_move (ev_base hN27 rfl s27_0) ?_
  refine op_nil (ev_hit hN27 rfl) ?_
  refine op_field fld121_0 (ev_hit hN27 rfl) ?_
  refine op_load1 (v := (Value.map (some m))) one119 (ev_hit hN27 rfl) (hk.cell rfl) ?_
  refine op_move (ev_base hN27 rfl s27_1) ?_
  have hM_old := hM
  refine op_mapdel0 (k := n) Try.underlying119 (Go.Gx.key_int Try.underlying3) (ev_hit hN27 rfl) (ev_hit hN27 rfl) hM ?_
  intro w69 hM71 E70
  have z_w69 := E70.size
  have hk := hk.keepM hM_old E70
  have hx0 := hx0.keepM hM_old E70
  have hL0 := hL0.keepM hM_old E70
  have hR0 := hR0.keepM hM_old E70
  have hD0 : ∀ x9 ∈ (D0.map rdL), Own w69 base 46 1 x9.1 x9.2.length (x9.2.map u16v) := fun x9 hx9 => (hD0 x9 hx9).keepM hM_old E70
  have hW0 := hW0.keepM hM_old E70
  have hB12 := hB12.keepM hM_old E70
  have hO23 := hO23.keepM hM_old E70
  have hA := hA.keepG (Gr.of E70) (Dj.one (hA.notMap hM))
  have hO28 := hO28.keepM hM_old E70
  have hb := hb.stepB E70 (.inr rfl)
  refine reg_nil ?_
  refine hK68 _ _ ?_
  refine seq_any fun K72 hK72 => ?_
  refine one_reg ?_
  refine op_move (ev_base hN27 rfl s27_8) ?_
  refine op_assign (ev_hit hN27 rfl) ?_
  refine op_assign rfl ?_
  refine reg_nil ?_
  refine hK72 _ _ ?_
  refine wp_ret ?_
  refine ret2 rfl hd27 (ev_hit hN27 rfl) (ev_hit hN27 rfl) ⟨_, rfl, ?_⟩
  -- path 27F
  rw [List.take_of_length_le (by omega)] at hO28 hA
  exact ⟨hb, _, rfl, hO28, hM71, hA⟩

theorem Com_miss {n : Int} {k m : Nat} {es : List (Int × Nat)} {w : World} (hk : Bx w k 121 [.map (some m)]) (hM : MapC (Value.int .i64) pv w m es) (hg : mget es n = none)  : Ret Try.prog 60 #[(ptr k 0), (Value.int .i64 n)] w (fun v' w' => Below w.heap.size w w' ∧ v' = .tuple #[.slice none 0 0, .int .i64 18]) := by
 have hb := Below.refl w.heap.size w
 refine enter (N := 55) Try.func60 rfl rfl (by simp) fun a0 hN hd hA => ?_
 have s0 : a0.tmps.getD 0 undef = (ptr k 0) := hA 0 (by simp)
 have s1 : a0.tmps.getD 1 undef = (Value.int .i64 n) := hA 1 (by simp)
 clear hA
 refine seq_any fun K73 hK73 => ?_
 refine one_reg ?_
 refine op_assign rfl ?_
 refine op_assign rfl ?_
 refine reg_nil ?_
 refine hK73 _ _ ?_
 refine seq_any fun K74 hK74 => ?_
 refine one_reg ?_
 refine op_move (ev_base hN rfl s0) ?_
 refine op_move (ev_base hN rfl s1) ?_
 refine op_fn (vs := [(ptr k 0), (Value.int .i64 n)]) ok95 ⟨(ev_hit hN rfl), ⟨(ev_hit hN rfl), trivial⟩⟩ (Ret.flip (at_miss n hk hM hg)) ?_
 rintro _ _ ⟨rfl, rfl⟩
 refine op_move (ev_hit hN rfl) ?_
 refine op_extract (ev_hit hN rfl) rfl ?_
 refine op_extract (ev_hit hN rfl) rfl ?_
 refine op_alloc (cs := [(Value.pointer none)]) zero155 rfl ?_
 intro w75 b76 lo_b76 hi_b76 hB78 E77
 have z_w75 := E77.size
 have hk := hk.keep0 E77
 have hM := hM.keep0 E77
 have hb := below_step0 hb E77 hb.size
 have hB78_old := hB78
 refine op_store (vs := [(Value.pointer none)]) (cs' := [(Value.pointer none)]) size155 (ev_hit hN rfl) (ev_hit hN rfl) rfl rfl rfl hB78 (Nat.le_of_ble_eq_true rfl) rfl ?_
 intro w81 hB78 E82
 have z_w81 := E82.size
 have hk := hk.keep E82 (fun hh => hk.ne hB78_old (by decide) (Option.some.inj hh))
 have hM := hM.keepB hB78_old E82
 have hb := below_step1 hb E82 hb.size (by omega)
 refine op_assign (ev_hit hN rfl) ?_
 refine reg_nil ?_
 refine hK74 _ _ ?_
 refine seq_any fun K83 hK83 => ?_
 refine seq_any fun K84 hK84 => ?_
 refine one_reg ?_
 refine op_move (ev_hit hN rfl) ?_
 refine op_bin (v := .bool true) (ev_hit hN rfl) rfl (by rw [binOp_neq]; rfl) ?_
 refine reg_nil ?_
 refine hK84 _ _ ?_
 refine wp_cond_true (ev_hit hN rfl) ?_
 refine seq_any fun K85 hK85 => ?_
 refine one_reg ?_
 refine op_move (ev_hit hN rfl) ?_
 refine op_assign rfl ?_
 refine op_assign (ev_hit hN rfl) ?_
 refine reg_nil ?_
 refine hK85 _ _ ?_
 refine wp_ret (then_ret ( ?_))
 refine ret2 rfl hd (ev_hit hN rfl) (ev_hit hN rfl) ⟨_, rfl, ?_⟩
 -- path
 exact ⟨hb, rfl⟩

theorem Com_nomap {n : Int} {k : Nat} {w : World} (hk : Bx w k 121 [.map none])  : Ret Try.prog 60 #[(ptr k 0), (Value.int .i64 n)] w (fun v' w' => Below w.heap.size w w' ∧ v' = .tuple #[.slice none 0 0, .int .i64 18]) := by
 have hb := Below.refl w.heap.size w
 refine enter (N := 55) Try.func60 rfl rfl (by simp) fun a0 hN hd hA => ?_
 have s0 : a0.tmps.getD 0 undef = (ptr k 0) := hA 0 (by simp)
 have s1 : a0.tmps.getD 1 undef = (Value.int .i64 n) := hA 1 (by simp)
 clear hA
 refine seq_any fun K86 hK86 => ?_
 refine one_reg ?_
 refine op_assign rfl ?_
 refine op_assign rfl ?_
 refine reg_nil ?_
 refine hK86 _ _ ?_
 refine seq_any fun K87 hK87 => ?_
 refine one_reg ?_
 refine op_move (ev_base hN rfl s0) ?_
 refine op_move (ev_base hN rfl s1) ?_
 refine op_fn (vs := [(ptr k 0), (Value.int .i64 n)]) ok95 ⟨(ev_hit hN rfl), ⟨(ev_hit hN rfl), trivial⟩⟩ (Ret.flip (at_nomap n hk)) ?_
 rintro _ _ ⟨rfl, rfl⟩
 refine op_move (ev_hit hN rfl) ?_
 refine op_extract (ev_hit hN rfl) rfl ?_
 refine op_extract (ev_hit hN rfl) rfl ?_
 refine op_alloc (cs := [(Value.pointer none)]) zero155 rfl ?_
 intro w88 b89 lo_b89 hi_b89 hB91 E90
 have z_w88 := E90.size
 have hk := hk.keep0 E90
 have hb := below_step0 hb E90 hb.size
 have hB91_old := hB91
 refine op_store (vs := [(Value.pointer none)]) (cs' := [(Value.pointer none)]) size155 (ev_hit hN rfl) (ev_hit hN rfl) rfl rfl rfl hB91 (Nat.le_of_ble_eq_true rfl) rfl ?_
 intro w94 hB91 E95
 have z_w94 := E95.size
 have hk := hk.keep E95 (fun hh => hk.ne hB91_old (by decide) (Option.some.inj hh))
 have hb := below_step1 hb E95 hb.size (by omega)
 refine op_assign (ev_hit hN rfl) ?_
 refine reg_nil ?_
 refine hK87 _ _ ?_
 refine seq_any fun K96 hK96 => ?_
 refine seq_any fun K97 hK97 => ?_
 refine one_reg ?_
 refine op_move (ev_hit hN rfl) ?_
 refine op_bin (v := .bool true) (ev_hit hN rfl) rfl (by rw [binOp_neq]; rfl) ?_
 refine reg_nil ?_
 refine hK97 _ _ ?_
 refine wp_cond_true (ev_hit hN rfl) ?_
 refine seq_any fun K98 hK98 => ?_
 refine one_reg ?_
 refine op_move (ev_hit hN rfl) ?_
 refine op_assign rfl ?_
 refine op_assign (ev_hit hN rfl) ?_
 refine reg_nil ?_
 refine hK98 _ _ ?_
 refine wp_ret (then_ret ( ?_))
 refine ret2 rfl hd (ev_hit hN rfl) (ev_hit hN rfl) ⟨_, rfl, ?_⟩
 -- path
 exact ⟨hb, rfl⟩

end Go.Proofs.Ytmhdbphpmgjpcaa

/- Locks as objects: what is done with them, told plainly. -/
namespace Go.Proofs.Ytmhdbphpmgjpcaa
open Go.Gx Go.RowKit
/-! plainly -/
def MSm (M : TM) : Prop := ∀ a ∈ M, a.2.reads.length ≤ 50000 ∧ a.2.writes.length ≤ 50000
def newT (l : List UInt16) (s : Int) : TX := ⟨l, s, [], [], false⟩
def enterE (M : TM) (n : Int) : Int := if (mget M n).isSome = true then 18 else 0
def enterM (M : TM) (n : Int) (l : List UInt16) (s : Int) : TM := if (mget M n).isSome = true then M else mput M n (newT l s)
def moveT (t : TX) (l : List UInt16) (s : Int) : TX := { t with label := l, stamp := s }
def moveE (M : TM) (n : Int) : Int := match mget M n with | none => 18 | some t => if 0 < t.writes.length then 16 else 0
def moveM (M : TM) (n : Int) (l : List UInt16) (s : Int) : TM := match mget M n with | none => M | some t => if 0 < t.writes.length then M else mput M n (moveT t l s)
def leaveE (M : TM) (n : Int) : Int := if (mget M n).isSome = true then 0 else 18
def askE (M : TM) (n : Int) : Int := if (mget M n).isSome = true then 0 else 18
def othB (M : TM) (n : Int) (q : List UInt16 → Bool) (i : Int) : Bool := decide (i ≠ n) && q (txAt M i).label
theorem any_others {M : TM} {n : Int} {q : List UInt16 → Bool} {p : Int → Bool} : (othersL M n q).any p = M.any fun a => othB M n q a.1 && p a.1 := by
  rw [Bool.eq_iff_iff, List.any_eq_true, List.any_eq_true]
  constructor
  · rintro ⟨i, hi, hp⟩
    have h1 := List.mem_filter.1 hi
    obtain ⟨a, ha, rfl⟩ := List.mem_map.1 (sortK_mem.1 h1.1)
    exact ⟨a, ha, by rw [hp, Bool.and_true]; exact h1.2⟩
  · rintro ⟨a, ha, hp⟩
    rw [Bool.and_eq_true] at hp
    exact ⟨a.1, List.mem_filter.2 ⟨sortK_mem.2 (List.mem_map.2 ⟨a, ha, rfl⟩), hp.1⟩, hp.2⟩
/-- The answer to an asking, whatever the order. -/
def ansO (M : TM) (n : Int) (T : TX) (Rs : List (List UInt8)) (x : List UInt8) : Int :=
  if (M.any fun a => othB M n (sameQ T) a.1 && dieB M T Rs x a.1) = true then 3 else if (M.any fun a => othB M n (sameQ T) a.1 && stB M T Rs x a.1) = true then 2 else 1
theorem askO_eq {M : TM} {n : Int} {T : TX} {Rs : List (List UInt8)} {x : List UInt8} : askO M n T Rs x = ansO M n T Rs x := by
  unfold askO ansO outW; rw [any_others, any_others]
def askV (M : TM) (n : Int) (Rs : List (List UInt8)) (x : List UInt8) : Int := match mget M n with | none => 0 | some t => ansO M n t Rs x
def askM (M : TM) (n : Int) (Rs : List (List UInt8)) (x : List UInt8) : TM := match mget M n with | none => M | some t => mput M n (askT t Rs x (ansO M n t Rs x))
def comL (M : TM) (n : Int) : List Int := match mget M n with | none => [] | some t => (othersL M n (upQ t)).filter (hitB M t)
def comM (M : TM) (n : Int) : TM := match mget M n with | none => M | some t => mdel (doomL M t (othersL M n (upQ t))) n
section
variable {w w' : World} {base k p lo : Nat} {M : TM} {F : Nat → Prop} {n s : Int} {l : List UInt16} {lv : Value} {C : List TC}
theorem es_none (h : C.length = M.length) (hg : mget M n = none) : mget (esOf M C) n = none := by
  rw [mget_none] at *; rw [esOf_keys h]; exact hg
theorem es_some {t : TX} (h : C.length = M.length) (hg : mget M n = some t) : ∃ q, mget (esOf M C) n = some q := by
  cases hq : mget (esOf M C) n with
  | some q => exact ⟨q, rfl⟩
  | none => rw [mget_none, esOf_keys h, ← mget_none, hg] at hq; cases hq
theorem es_nil (h : C.length = M.length) (he : esOf M C = []) : M = [] := by
  have := congrArg List.length he
  rw [esOf_len h] at this
  exact List.length_eq_zero_iff.1 this
/-- A transaction more. -/
theorem LkAll.more {q : Nat} {nv : Value} {F0 : Nat → Prop} {t0 : Nat} (hA : LkAll w base M C F0) (E : Gr w w' (fun y => y = t0)) (h0 : ¬ F0 t0) (hb : base ≤ w.heap.size) (hq : w.heap.size ≤ q) (hx : Bx w' q 164 [nv, .int .u64 s, .slice none 0 0, .slice none 0 0, .bool false]) (hL : Own w' w.heap.size 46 1 nv l.length (l.map u16v)) (hg : mget M n = none) :
    ∃ C' F', LkAll w' base (mput M n (newT l s)) C' F' ∧ esOf (mput M n (newT l s)) C' = mput (esOf M C) n q ∧ (∀ x, F' x → F0 x ∨ w.heap.size ≤ x) := by
  have hA' := hA.keepG E (fun x hx hy => h0 (hy ▸ hx))
  have hlk : mlook M n = none := by
    cases hq : mlook M n with
    | none => rfl
    | some r => unfold mget at hg; rw [hq] at hg; cases hg
  have hput : mput M n (newT l s) = M ++ [(n, newT l s)] := by unfold mput; rw [hlk]
  have hput2 : mput (esOf M C) n q = esOf M C ++ [(n, q)] := by unfold mput; rw [esOf_look hA.1, hlk]; rfl
  have hT : TxAt w' base (newT l s) ⟨q, nv, .slice none 0 0, .slice none 0 0, []⟩ := ⟨Nat.le_trans hb hq, hx, hL.mono hb, Own.nil _ _ _ _, fun _ h => (by cases h), Own.nil _ _ _ _, rfl⟩
  have hnew : ∀ x, PartT ⟨q, nv, .slice none 0 0, .slice none 0 0, []⟩ x → w.heap.size ≤ x := fun x hx => by
    rcases hx with rfl | hx | hx | hx | ⟨r, hr, _⟩
    · exact hq
    · exact (hL.lt x hx).1
    · cases hx
    · cases hx
    · cases hr
  refine ⟨C ++ [⟨q, nv, .slice none 0 0, .slice none 0 0, []⟩], (fun x => F0 x ∨ PartT ⟨q, nv, .slice none 0 0, .slice none 0 0, []⟩ x), by rw [hput]; exact hA'.snoc hT (fun x hx hy => by have := (hA.lt x hx).2; have := hnew x hy; omega), by rw [hput, hput2, esOf_snoc hA.1], fun x hx => hx.imp id (hnew x)⟩
theorem EnterR (hb : base ≤ w.heap.size) (hl : RdC w 0 lo 1 lv l.length (l.map u16v)) (hlo : lo ≤ base) (hl8 : l.length ≤ 8) (h : LocksR w base k M F) :
    Ret Try.prog 54 #[ptr k 0, .int .i64 n, lv, .int .u64 s] w (fun v' w' => Gr w w' F ∧ v' = .int .i64 (enterE M n) ∧ ∃ F', LocksR w' base k (enterM M n l s) F' ∧ NewF w.heap.size F F') := by
  have h' := h
  obtain ⟨mv, C, F0, hk, hx, hM, hA, hF⟩ := h'
  have hl2 : RdC w 0 w.heap.size 1 lv l.length (l.map u16v) := hl.mono (Nat.zero_le _) (by omega)
  rcases hM with ⟨rfl, he⟩ | ⟨m, rfl, hm, hM⟩
  · have hM0 := es_nil hA.1 he
    subst hM0
    refine (Enter_nomap hx hl (by omega) (by omega)).mono fun v' w' q => ?_
    obtain ⟨E, rfl, m, q, nv, hm, hq, hx', hb', hL', hM'⟩ := q
    have E1 : Gr w w' (fun y => y = k) := (Gr.of E).mono fun y _ hy => (Option.some.inj hy).symm
    obtain ⟨C', F', hA', hes, hsub⟩ := LkAll.more (n := n) hA E1 (hA.notBx hx (by decide) (by decide) (by decide) (by decide)) hb hq hb' hL' rfl
    refine ⟨E1.mono fun y _ hy => (hF y).2 (.inl hy), rfl, _, ⟨.map (some m), C', F', hk, hx', .inr ⟨m, rfl, by omega, by rw [show enterM [] n l s = mput [] n (newT l s) from rfl, hes, he]; exact hM'⟩, hA', fun x => Iff.rfl⟩, fun y hy => ?_⟩
    rcases hy with rfl | hy | hy
    · exact .inl ((hF y).2 (.inl rfl))
    · injection hy with hy; injection hy with hy; subst hy; exact .inr hm
    · exact (hsub y hy).imp (fun q => (hF y).2 (.inr (.inr q))) id
  · cases hg : mget M n with
    | some t =>
      obtain ⟨q, hq⟩ := es_some hA.1 hg
      refine (Enter_hit (l := l) hx hM hq).mono fun v' w' q => ?_
      obtain ⟨E, rfl⟩ := q
      refine ⟨Gr.ofBelow E F, by unfold enterE; rw [hg]; rfl, F, ?_, NewF.refl _ _⟩
      have : enterM M n l s = M := by unfold enterM; rw [hg]; rfl
      rw [this]; exact h.keepG (Gr.ofBelow E NoB) fun _ _ hh => hh
    | none =>
      refine (Enter_miss hx hM (es_none hA.1 hg) hl2 (by omega)).mono fun v' w' q => ?_
      obtain ⟨E, rfl, q, nv, hq, hb', hL', hM'⟩ := q
      have E1 : Gr w w' (fun y => y = m) := (Gr.of E).mono fun y _ hy => (Option.some.inj hy).symm
      obtain ⟨C', F', hA', hes, hsub⟩ := LkAll.more (n := n) hA E1 (hA.notMap hM) hb hq hb' hL' hg
      have hem : enterM M n l s = mput M n (newT l s) := by unfold enterM; rw [hg]; rfl
      refine ⟨E1.mono fun y _ hy => (hF y).2 (.inr (.inl (by rw [hy]))), by unfold enterE; rw [hg]; rfl, _, ⟨.map (some m), C', F', hk, hx.keepG E1 (hx.notMap hM), .inr ⟨m, rfl, hm, by rw [hem, hes]; exact hM'⟩, by rw [hem]; exact hA', fun x => Iff.rfl⟩, fun y hy => ?_⟩
      rcases hy with rfl | hy | hy
      · exact .inl ((hF y).2 (.inl rfl))
      · exact .inl ((hF y).2 (.inr (.inl hy)))
      · exact (hsub y hy).imp (fun q => (hF y).2 (.inr (.inr q))) id
/-- What changes nothing. -/
theorem lk_same (h : LocksR w base k M F) (E : Below w.heap.size w w') : Gr w w' F ∧ ∃ F', LocksR w' base k M F' ∧ NewF w.heap.size F F' := ⟨Gr.ofBelow E F, F, h.keepG (Gr.ofBelow E NoB) fun _ _ hh => hh, NewF.refl _ _⟩
theorem MoveR (hb : base ≤ w.heap.size) (hl2 : RdC w 0 w.heap.size 1 lv l.length (l.map u16v)) (hl8 : l.length ≤ 8) (h : LocksR w base k M F) :
    Ret Try.prog 59 #[ptr k 0, .int .i64 n, lv, .int .u64 s] w (fun v' w' => Gr w w' F ∧ v' = .int .i64 (moveE M n) ∧ ∃ F', LocksR w' base k (moveM M n l s) F' ∧ NewF w.heap.size F F') := by
  have h' := h
  cases hg : mget M n with
  | none =>
    have e1 : moveE M n = 18 := by unfold moveE; rw [hg]
    have e2 : moveM M n l s = M := by unfold moveM; rw [hg]
    rw [e1, e2]
    obtain ⟨mv, C, F0, hk, hx, hM, hA, hF⟩ := h'
    rcases hM with ⟨rfl, he⟩ | ⟨m, rfl, hm, hM⟩
    · exact (Move_nomap hx).mono fun v' w' q => ⟨(lk_same h q.1).1, q.2, (lk_same h q.1).2⟩
    · exact (Move_miss hx hM (es_none hA.1 hg)).mono fun v' w' q => ⟨(lk_same h q.1).1, q.2, (lk_same h q.1).2⟩
  | some t =>
    obtain ⟨m, C, F0, p, FT, hx, hM, hA, hes, hT, hsub, close⟩ := LocksR.hit h hg
    obtain ⟨la, rv, wv, D, hp, hb0, hL, hR, hD, hW, hDe, hFT⟩ := hT.parts
    refine (Move_hit (D := D) (lab := t.label) hx hM hes hb hb0 hW hl2 (by omega)).mono fun v' w' q => ?_
    obtain ⟨E, ⟨hw, rfl, rfl⟩ | ⟨hw, rfl, nv, hb', hL'⟩⟩ := q
    · have e1 : moveE M n = 16 := by unfold moveE; rw [hg]; exact if_pos hw
      have e2 : moveM M n l s = M := by unfold moveM; rw [hg]; exact if_pos hw
      rw [e1, e2]
      exact ⟨Gr.refl _ _, rfl, F, h, NewF.refl _ _⟩
    · have e1 : moveE M n = 0 := by unfold moveE; rw [hg]; exact if_neg (by omega)
      have e2 : moveM M n l s = mput M n (moveT t l s) := by unfold moveM; rw [hg]; exact if_neg (by omega)
      have E' : Gr w w' (fun y => some p = some y) := Gr.of E
      have ap : ∀ {e sz n2 : Nat} {v : Value} {cs : List Value}, Own w base e sz v n2 cs → e ≠ 164 → Own w' base e sz v n2 cs := fun O he => O.keepG E' fun y hy hq => by
        injection hq with hq; subst hq; exact O.neB hb0 (fun q => he q.symm) hy
      have hT' : TxR w' base p (moveT t l s) (fun x => x = p ∨ Bl nv x ∨ Bl rv x ∨ Bl wv x ∨ ∃ r ∈ D, Bl r.la x) := TxR.mk' (T := moveT t l s) hp hb' (hL'.mono hb) (ap hR (by decide)) (fun x9 hx9 => ap (hD x9 hx9) (by decide)) (ap hW (by decide)) hDe
      obtain ⟨E2, F2, hK, hN⟩ := close w' _ _ (E'.mono fun y _ hy => (hFT y).2 (.inl (Option.some.inj hy).symm)) hT' (fun y hy => by
        rcases hy with hy | hy | hy | hy | hy
        · exact .inl ((hFT y).2 (.inl hy))
        · exact .inr (hL'.lt y hy).1
        · exact .inl ((hFT y).2 (.inr (.inr (.inl hy))))
        · exact .inl ((hFT y).2 (.inr (.inr (.inr (.inl hy)))))
        · exact .inl ((hFT y).2 (.inr (.inr (.inr (.inr hy))))))
      rw [e1, e2]
      exact ⟨E2, rfl, F2, hK, hN⟩
theorem DoomedR (h : LocksR w base k M F) : Ret Try.prog 62 #[ptr k 0, .int .i64 n] w (fun v' w' => Below w.heap.size w w' ∧ v' = .bool (txAt M n).doomed) := by
  cases hg : mget M n with
  | none =>
    have e : (txAt M n).doomed = false := by unfold txAt; rw [hg]; rfl
    rw [e]
    obtain ⟨mv, C, F0, hk, hx, hM, hA, hF⟩ := h
    rcases hM with ⟨rfl, he⟩ | ⟨m, rfl, hm, hM⟩
    · exact Doomed_nomap hx
    · exact Doomed_miss hx hM (es_none hA.1 hg)
  | some t =>
    have e : (txAt M n).doomed = t.doomed := by unfold txAt; rw [hg]; rfl
    rw [e]
    obtain ⟨m, C, F0, p, FT, hx, hM, hA, hes, hT, hsub, close⟩ := LocksR.hit h hg
    obtain ⟨la, rv, wv, D, hp, hb0, hL, hR, hD, hW, hDe, hFT⟩ := hT.parts
    exact Doomed_hit (base := base) (D := D) (lab := t.label) (Wr := t.writes) hx hM hes hb0
theorem WroteR (hb : base ≤ w.heap.size) (hn : MSm M) (h : LocksR w base k M F) : Ret Try.prog 70 #[ptr k 0, .int .i64 n] w (fun v' w' => Below w.heap.size w w' ∧ Own w' w.heap.size 9 1 v' (txAt M n).writes.length ((txAt M n).writes.map sv)) := by
  cases hg : mget M n with
  | none =>
    have e : (txAt M n).writes = [] := by unfold txAt; rw [hg]; rfl
    rw [e]
    obtain ⟨mv, C, F0, hk, hx, hM, hA, hF⟩ := h
    rcases hM with ⟨rfl, he⟩ | ⟨m, rfl, hm, hM⟩
    · refine (Wrote_nomap hx).mono fun v' w' q => ?_
      obtain ⟨E, rfl⟩ := q; exact ⟨E, Own.nil _ _ _ _⟩
    · refine (Wrote_miss hx hM (es_none hA.1 hg)).mono fun v' w' q => ?_
      obtain ⟨E, rfl⟩ := q; exact ⟨E, Own.nil _ _ _ _⟩
  | some t =>
    have e : txAt M n = t := by unfold txAt; rw [hg]; rfl
    rw [e]
    obtain ⟨m, C, F0, p, FT, hx, hM, hA, hes, hT, hsub, close⟩ := LocksR.hit h hg
    obtain ⟨la, rv, wv, D, hp, hb0, hL, hR, hD, hW, hDe, hFT⟩ := hT.parts
    exact Wrote_hit (D := D) (lab := t.label) hx hM hes hb hb0 hW (by have h9 := (hn _ (mget_mem hg)).2; simp only at h9; omega)
/-- Without a transaction. -/
theorem lk_drop {m : Nat} {F0 : Nat → Prop} (hb : base ≤ w.heap.size) (hk : base ≤ k) (hm : base ≤ m) (hx : Bx w k 121 [.map (some m)]) (hM : MapC (Value.int .i64) pv w m (mdel (esOf M C) n)) (hA : LkAll w base M C F0) : ∃ F', LocksR w base k (mdel M n) F' ∧ ∀ x, F' x → x = k ∨ x = m ∨ F0 x := by
  have hes : mdel (esOf M C) n = match mlook M n with | none => esOf M C | some (j, _) => (esOf M C).eraseIdx j := by
    unfold mdel; rw [esOf_look hA.1]; cases mlook M n <;> rfl
  cases hl : mlook M n with
  | none =>
    rw [hl] at hes
    have hd : mdel M n = M := by unfold mdel; rw [hl]
    rw [hd]
    exact ⟨_, ⟨_, C, F0, hk, hx, .inr ⟨m, rfl, hm, by rw [hes] at hM; exact hM⟩, hA, fun x => Iff.rfl⟩, fun x hx => by
      rcases hx with hx | hx | hx
      · exact .inl hx
      · injection hx with hx; injection hx with hx; exact .inr (.inl hx.symm)
      · exact .inr (.inr hx)⟩
  | some q =>
    obtain ⟨j, t⟩ := q
    rw [hl] at hes
    have hd : mdel M n = M.eraseIdx j := by unfold mdel; rw [hl]
    have hj := (List.getElem?_eq_some_iff.1 (mlook_some hl)).1
    obtain ⟨F2, hA2, hs⟩ := hA.erase hj
    rw [hd]
    exact ⟨_, ⟨_, _, F2, hk, hx, .inr ⟨m, rfl, hm, by rw [esOf_erase hA.1]; rw [hes] at hM; exact hM⟩, hA2, fun x => Iff.rfl⟩, fun x hx => by
      rcases hx with hx | hx | hx
      · exact .inl hx
      · injection hx with hx; injection hx with hx; exact .inr (.inl hx.symm)
      · exact .inr (.inr (hs x hx))⟩
theorem LeaveR (hb : base ≤ w.heap.size) (h : LocksR w base k M F) : Ret Try.prog 57 #[ptr k 0, .int .i64 n] w (fun v' w' => Gr w w' F ∧ v' = .int .i64 (leaveE M n) ∧ ∃ F', LocksR w' base k (mdel M n) F' ∧ NewF w.heap.size F F') := by
  have h' := h
  obtain ⟨mv, C, F0, hk, hx, hM, hA, hF⟩ := h'
  cases hg : mget M n with
  | none =>
    have e1 : leaveE M n = 18 := by unfold leaveE; rw [hg]; rfl
    have e2 : mdel M n = M := by
      unfold mdel
      cases hq : mlook M n with
      | none => rfl
      | some r => unfold mget at hg; rw [hq] at hg; cases hg
    rw [e1, e2]
    rcases hM with ⟨rfl, he⟩ | ⟨m, rfl, hm, hM⟩
    · exact (Leave_nomap hx).mono fun v' w' q => ⟨(lk_same h q.1).1, q.2, (lk_same h q.1).2⟩
    · exact (Leave_miss hx hM (es_none hA.1 hg)).mono fun v' w' q => ⟨(lk_same h q.1).1, q.2, (lk_same h q.1).2⟩
  | some t =>
    have e1 : leaveE M n = 0 := by unfold leaveE; rw [hg]; rfl
    rw [e1]
    obtain ⟨q, hq⟩ := es_some hA.1 hg
    rcases hM with ⟨rfl, he⟩ | ⟨m, rfl, hm, hM⟩
    · rw [he] at hq; cases hq
    · refine (Leave_hit hx hM hq).mono fun v' w' q => ?_
      obtain ⟨E, rfl, hM'⟩ := q
      have E1 : Gr w w' (fun y => y = m) := (Gr.of E).mono fun y _ hy => (Option.some.inj hy).symm
      obtain ⟨F', hK, hs⟩ := lk_drop (k := k) (Nat.le_trans hb E.size) hk hm (hx.keepG E1 (hx.notMap hM)) hM' (hA.keepG E1 fun x hx hy => hA.notMap hM (hy ▸ hx))
      exact ⟨E1.mono fun y _ hy => (hF y).2 (.inr (.inl (by rw [hy]))), rfl, F', hK, fun y hy => .inl ((hF y).2 ((hs y hy).imp id fun q => q.imp (fun q => by rw [q]) id))⟩
theorem AskR {Rs : List (List UInt8)} {rsv : Value} {x : List UInt8} {Lr Br : Nat} (hb : base ≤ w.heap.size) (hMo : MOk M) (hsm : MSm M) (hRl : Rs.length ≤ 1000) (hRs : RdC w Lr Br 1 rsv Rs.length (Rs.map sv)) (hBr : Br ≤ w.heap.size) (hap : ∀ y, F y → y < Lr ∨ Br ≤ y) (h : LocksR w base k M F) :
    Ret Try.prog 55 #[ptr k 0, .int .i64 n, rsv, .string (bs x)] w (fun v' w' => Gr w w' F ∧ v' = .tuple #[.int .i64 (askV M n Rs x), .int .i64 (askE M n)] ∧ ∃ F', LocksR w' base k (askM M n Rs x) F' ∧ NewF w.heap.size F F') := by
  cases hg : mget M n with
  | none =>
    have e1 : askE M n = 18 := by unfold askE; rw [hg]; rfl
    have e2 : askM M n Rs x = M := by unfold askM; rw [hg]
    have e3 : askV M n Rs x = 0 := by unfold askV; rw [hg]
    rw [e1, e2, e3]
    have h' := h
    obtain ⟨mv, C, F0, hk, hx, hM, hA, hF⟩ := h'
    rcases hM with ⟨rfl, he⟩ | ⟨m, rfl, hm, hM⟩
    · exact (Ask_nomap hx).mono fun v' w' q => ⟨(lk_same h q.1).1, q.2, (lk_same h q.1).2⟩
    · exact (Ask_miss hx hM (es_none hA.1 hg)).mono fun v' w' q => ⟨(lk_same h q.1).1, q.2, (lk_same h q.1).2⟩
  | some t =>
    have e1 : askE M n = 0 := by unfold askE; rw [hg]; rfl
    have e2 : askM M n Rs x = mput M n (askT t Rs x (askO M n t Rs x)) := by unfold askM; rw [hg, askO_eq]
    have e3 : askV M n Rs x = askO M n t Rs x := by unfold askV; rw [hg, askO_eq]
    rw [e1, e2, e3]
    obtain ⟨m, C, F0, p, FT, hx, hM, hA, hes, hT, hsub, close⟩ := LocksR.hit h hg
    refine (Ask_hit hb hx hM hA hMo hg hes hT (hsm _ (mget_mem hg)) hRl hRs hBr (fun y hy => hap y (hsub y hy))).mono fun v' w' q => ?_
    obtain ⟨E, rfl, FT', hT', hN⟩ := q
    obtain ⟨E2, F2, hK, hN2⟩ := close w' _ _ E hT' hN
    exact ⟨E2, rfl, F2, hK, hN2⟩
theorem CommitR (hb : base ≤ w.heap.size) (hMo : MOk M) (h : LocksR w base k M F) :
    Ret Try.prog 60 #[ptr k 0, .int .i64 n] w (fun v' w' => Gr w w' F ∧ ∃ v, v' = .tuple #[v, .int .i64 (leaveE M n)] ∧ Own w' w.heap.size 3 1 v (comL M n).length ((comL M n).map (Value.int .i64)) ∧ ∃ F', LocksR w' base k (comM M n) F' ∧ NewF w.heap.size F F' ∧ (∀ y, Bl v y → ¬ F' y)) := by
  have h' := h
  obtain ⟨mv, C, F0, hk, hx, hM, hA, hF⟩ := h'
  cases hg : mget M n with
  | none =>
    have e1 : leaveE M n = 18 := by unfold leaveE; rw [hg]; rfl
    have e2 : comM M n = M := by unfold comM; rw [hg]
    have e3 : comL M n = [] := by unfold comL; rw [hg]
    rw [e1, e2, e3]
    have fin : ∀ (v' : Value) (w' : World), (Below w.heap.size w w' ∧ v' = .tuple #[.slice none 0 0, .int .i64 18]) → Gr w w' F ∧ ∃ v, v' = .tuple #[v, .int .i64 18] ∧ Own w' w.heap.size 3 1 v ([] : List Int).length (([] : List Int).map (Value.int .i64)) ∧ ∃ F', LocksR w' base k M F' ∧ NewF w.heap.size F F' ∧ (∀ y, Bl v y → ¬ F' y) := fun v' w' q =>
      ⟨(lk_same h q.1).1, _, q.2, Own.nil _ _ _ _, F, h.keepG (Gr.ofBelow q.1 NoB) (fun _ _ hh => hh), NewF.refl _ _, fun y hy => by cases hy⟩
    rcases hM with ⟨rfl, he⟩ | ⟨m, rfl, hm, hM⟩
    · exact (Com_nomap hx).mono fin
    · exact (Com_miss hx hM (es_none hA.1 hg)).mono fin
  | some t =>
    have e1 : leaveE M n = 0 := by unfold leaveE; rw [hg]; rfl
    have e2 : comM M n = mdel (doomL M t (othersL M n (upQ t))) n := by unfold comM; rw [hg]
    have e3 : comL M n = (othersL M n (upQ t)).filter (hitB M t) := by unfold comL; rw [hg]
    rw [e1, e2, e3]
    rcases hM with ⟨rfl, he⟩ | ⟨m, rfl, hm, hM⟩
    · obtain ⟨q, hq⟩ := es_some hA.1 hg; rw [he] at hq; cases hq
    · refine (Com_hit hb hx hM hA hMo hg).mono fun v' w' q => ?_
      obtain ⟨E, v, rfl, hO, hM', hA'⟩ := q
      have hnk : ¬ (F0 k ∨ k = m) := fun hq => hq.elim (hA.notBx hx (by decide) (by decide) (by decide) (by decide)) (hx.notMap hM)
      rw [← doomL_esOf (T := t) (xs := othersL M n (upQ t)) hA.1] at hM'
      have hx' := hx.keepG E hnk
      obtain ⟨F', hK, hs⟩ := lk_drop (k := k) (Nat.le_trans hb E.size) hk hm hx' hM' hA'
      refine ⟨E.mono fun y _ hy => (hF y).2 (.inr (hy.elim (fun q => .inr q) (fun q => .inl (by rw [q])))), v, rfl, hO, F', hK, fun y hy => .inl ((hF y).2 ((hs y hy).imp id fun q => q.imp (fun q => by rw [q]) id)), fun y hy hf => ?_⟩
      rcases hs y hf with rfl | rfl | q
      · exact hO.neB hx' (by decide) hy
      · exact hO.notMap hM' hy
      · exact hA'.notOwn hO (by decide) (by decide) (by decide) (by decide) y hy q
/-- The same, with what comes of it told otherwise. -/
theorem lk_conv {f : Nat} {as9 : Array Value} {A A' : Value} {M1 M2 : TM} (h : Ret Try.prog f as9 w (fun v' w' => Gr w w' F ∧ v' = A ∧ ∃ F', LocksR w' base k M1 F' ∧ NewF w.heap.size F F')) (hA : A = A') (hM : M1 = M2) :
    Ret Try.prog f as9 w (fun v' w' => Gr w w' F ∧ v' = A' ∧ ∃ F', LocksR w' base k M2 F' ∧ NewF w.heap.size F F') := by subst hA; subst hM; exact h
theorem lockNewR : Ret Try.prog 53 #[] w (fun v' w' => Below w.heap.size w w' ∧ ∃ k F, v' = ptr k 0 ∧ LocksR w' w.heap.size k [] F) := by
  refine (lockNew_ret w).mono fun v' w' q => ?_
  obtain ⟨E, k, hk, rfl, hx⟩ := q
  exact ⟨E, k, _, rfl, .map none, [], NoB, hk, hx, .inl ⟨rfl, rfl⟩, LkAll.nil _ _, fun _ => Iff.rfl⟩
end
end Go.Proofs.Ytmhdbphpmgjpcaa
namespace Go.Proofs.Ytmhdbphpmgjpcaa
open Go.Gx Go.RowKit
end Go.Proofs.Ytmhdbphpmgjpcaa

/- Walks, written by a program: what each function of the translation hands back. -/
namespace Go.Proofs.Ytmhdbphpmgjpcaa
open Go.Gx Go.RowKit
attribute [local irreducible] wpList wpStill Code.wp Calls

theorem begun19_ret (w : World) : Ret Try.prog 52 #[] w (fun v' w' => Below w.heap.size w w' ∧ v' = .bool true) := by
 have hb := Below.refl w.heap.size w
 refine enter (N := 57) Try.func52 rfl rfl (by simp) fun a0 hN hd hA => ?_
 clear hA
 refine seq_any fun K5 hK5 => ?_
 refine one_reg ?_
 refine op_assign rfl ?_
 refine reg_nil ?_
 refine hK5 _ _ ?_
 refine seq_any fun K6 hK6 => ?_
 refine one_reg ?_
 refine op_fn (vs := []) ok53 trivial (lockNewR) ?_
 rintro _ w8 ⟨E9, k7, F7, rfl, hl7⟩
 have lo_F7 : ∀ x, F7 x → w.heap.size ≤ x := fun x hx => (hl7.lt x hx).1
 have E9 := grown_of_below E9
 have z_w8 := E9.size
 have hb := below_step0 hb E9 hb.size
 have hl7 : LocksR w8 w.heap.size k7 ([] : TM) F7 := hl7.mono (by omega)
 refine op_assign (ev_hit hN rfl) ?_
 refine reg_nil ?_
 refine hK6 _ _ ?_
 refine seq_any fun K10 hK10 => ?_
 refine one_reg ?_
 refine op_move (ev_hit hN rfl) ?_
 refine op_fn (vs := [(ptr k7 0), (Value.int .i64 1), (Value.slice none 0 0), (Value.int .u64 1)]) ok54 ⟨(ev_hit hN rfl), ⟨rfl, ⟨rfl, ⟨rfl, trivial⟩⟩⟩⟩ (lk_conv (EnterR (n := 1) (s := 1) (l := ([] : List UInt16)) (by omega) (lo := 0) (RdC.nil _ _ _ _) (Nat.zero_le _) (by first | decide | omega) hl7) (A' := (Value.int .i64 0)) (M2 := ([(1, ⟨[], 1, [], [], false⟩)] : TM)) (by rfl) (by rfl)) ?_
 rintro _ w12 ⟨E13, rfl, F11, hl11, hN11⟩
 have hl7_old := hl7
 have z_w12 := E13.size
 have hb := below_stepG hb E13 hb.size (fun k hk => (hl7_old.lt k hk).1)
 refine op_assign (ev_hit hN rfl) ?_
 refine reg_nil ?_
 refine hK10 _ _ ?_
 refine seq_any fun K14 hK14 => ?_
 refine one_reg ?_
 refine op_move (ev_hit hN rfl) ?_
 refine op_fn (vs := [(ptr k7 0), (Value.int .i64 2), (Value.slice none 0 0), (Value.int .u64 2)]) ok54 ⟨(ev_hit hN rfl), ⟨rfl, ⟨rfl, ⟨rfl, trivial⟩⟩⟩⟩ (lk_conv (EnterR (n := 2) (s := 2) (l := ([] : List UInt16)) (by omega) (lo := 0) (RdC.nil _ _ _ _) (Nat.zero_le _) (by first | decide | omega) hl11) (A' := (Value.int .i64 0)) (M2 := ([(1, ⟨[], 1, [], [], false⟩), (2, ⟨[], 2, [], [], false⟩)] : TM)) (by rfl) (by rfl)) ?_
 rintro _ w16 ⟨E17, rfl, F15, hl15, hN15⟩
 have hl11_old := hl11
 have z_w16 := E17.size
 have hb := below_stepG hb E17 hb.size (fun k hk => (hl11_old.lt k hk).1)
 refine op_assign (ev_hit hN rfl) ?_
 refine reg_nil ?_
 refine hK14 _ _ ?_
 refine seq_any fun K18 hK18 => ?_
 refine one_reg ?_
 refine op_move (ev_hit hN rfl) ?_
 refine op_fn (vs := [(ptr k7 0), (Value.int .i64 1), (Value.slice none 0 0), (Value.string (bs [116]))]) ok55 ⟨(ev_hit hN rfl), ⟨rfl, ⟨rfl, ⟨rfl, trivial⟩⟩⟩⟩ (lk_conv (AskR (n := 1) (Rs := ([] : List (List UInt8))) (x := ([116])) (by omega) (by unfold MOk TOk; decide) (by unfold MSm; decide) (by decide) (RdC.nil _ 0 0 _) (Nat.zero_le _) (fun _ _ => .inr (Nat.zero_le _)) hl15) (A' := (Value.tuple #[(Value.int .i64 1), (Value.int .i64 0)])) (M2 := ([(1, ⟨[], 1, [], [[116]], false⟩), (2, ⟨[], 2, [], [], false⟩)] : TM)) (by rfl) (by rfl)) ?_
 rintro _ w20 ⟨E21, rfl, F19, hl19, hN19⟩
 have hl15_old := hl15
 have z_w20 := E21.size
 have hb := below_stepG hb E21 hb.size (fun k hk => (hl15_old.lt k hk).1)
 refine op_move (ev_hit hN rfl) ?_
 refine op_extract (ev_hit hN rfl) rfl ?_
 refine op_extract (ev_hit hN rfl) rfl ?_
 refine op_assign (ev_hit hN rfl) ?_
 refine op_assign (ev_hit hN rfl) ?_
 refine reg_nil ?_
 refine hK18 _ _ ?_
 refine seq_any fun K22 hK22 => ?_
 refine one_reg ?_
 refine op_move (ev_hit hN rfl) ?_
 refine op_bslice (e := 9) (pv := [(0, (Value.string (bs [116])))]) (cs := [(Value.string (bs [116]))]) ⟨rfl, rfl, trivial⟩ (by kernel_rfl) ?_
 intro w23 b24 lo_b24 hi_b24 hB26 E25
 have dj27 : ¬ F19 b24 := fun hf => by have := (hl19.lt _ hf).2; omega
 have z_w23 := E25.size
 have hl19 := hl19.keepG (Gr.of0 E25 NoB) (fun _ _ h => h)
 have hb := below_step0 hb E25 hb.size
 refine op_fn (vs := [(ptr k7 0), (Value.int .i64 2), (Value.slice (some ⟨b24, 0, none⟩) 1 1), (Value.string (bs []))]) ok55 ⟨(ev_hit hN rfl), ⟨rfl, ⟨(ev_hit hN rfl), ⟨rfl, trivial⟩⟩⟩⟩ (lk_conv (AskR (n := 2) (Rs := [[116]]) (x := []) (by omega) (by unfold MOk TOk; decide) (by unfold MSm; decide) (by decide) (Lr := b24) (Br := b24 + 1) (RdC.ofBx (sz := 1) (n := 1) hB26 rfl (by decide)) (by have := hB26.lt; omega) (fun y hy => Nat.lt_or_gt_of_ne (fun e => dj27 (e ▸ hy))) hl19) (A' := (Value.tuple #[(Value.int .i64 3), (Value.int .i64 0)])) (M2 := ([(1, ⟨[], 1, [], [[116]], false⟩), (2, ⟨[], 2, [], [], false⟩)] : TM)) (by rfl) (by rfl)) ?_
 rintro _ w29 ⟨E30, rfl, F28, hl28, hN28⟩
 have bd31 := hB26.lt
 have hl19_old := hl19
 have z_w29 := E30.size
 have hB26 := hB26.keepG E30 dj27
 have hb := below_stepG hb E30 hb.size (fun k hk => (hl19_old.lt k hk).1)
 have dj32 : ¬ F28 b24 := ne_stepF hN28 bd31 dj27
 refine op_move (ev_hit hN rfl) ?_
 refine op_extract (ev_hit hN rfl) rfl ?_
 refine op_extract (ev_hit hN rfl) rfl ?_
 refine op_assign (ev_hit hN rfl) ?_
 refine op_assign (ev_hit hN rfl) ?_
 refine reg_nil ?_
 refine hK22 _ _ ?_
 refine seq_any fun K33 hK33 => ?_
 refine one_reg ?_
 refine op_move (ev_hit hN rfl) ?_
 refine op_bin (v := .bool true) (ev_hit hN rfl) rfl (by rw [binOp_eql]; rfl) ?_
 refine op_move (ev_hit hN rfl) ?_
 refine g_true (j := 2) (dj := 26) (b := true) rfl rfl rfl (ev_hit hN rfl) ?_
 refine op_move (ev_hit hN rfl) ?_
 refine g_true (j := 2) (dj := 26) (b := true) rfl rfl rfl (ev_hit hN rfl) ?_
 refine op_bin (v := .bool true) (ev_hit hN rfl) rfl (by rw [binOp_eql]; rfl) ?_
 refine op_pick_t (ev_hit hN rfl) (ev_hit hN rfl) ?_
 refine op_move (ev_hit hN rfl) ?_
 refine g_true (j := 6) (dj := 30) (b := true) rfl rfl rfl (ev_hit hN rfl) ?_
 refine op_move (ev_hit hN rfl) ?_
 refine g_true (j := 6) (dj := 30) (b := true) rfl rfl rfl (ev_hit hN rfl) ?_
 refine op_bin (v := .bool true) (ev_hit hN rfl) rfl (by rw [binOp_eql]; rfl) ?_
 refine op_pick_t (ev_hit hN rfl) (ev_hit hN rfl) ?_
 refine op_move (ev_hit hN rfl) ?_
 refine g_true (j := 10) (dj := 34) (b := true) rfl rfl rfl (ev_hit hN rfl) ?_
 refine op_move (ev_hit hN rfl) ?_
 refine g_true (j := 10) (dj := 34) (b := true) rfl rfl rfl (ev_hit hN rfl) ?_
 refine op_bin (v := .bool true) (ev_hit hN rfl) rfl (by rw [binOp_eql]; rfl) ?_
 refine op_pick_t (ev_hit hN rfl) (ev_hit hN rfl) ?_
 refine op_move (ev_hit hN rfl) ?_
 refine g_true (j := 14) (dj := 38) (b := true) rfl rfl rfl (ev_hit hN rfl) ?_
 refine op_move (ev_hit hN rfl) ?_
 refine g_true (j := 14) (dj := 38) (b := true) rfl rfl rfl (ev_hit hN rfl) ?_
 refine op_bin (v := .bool true) (ev_hit hN rfl) rfl (by rw [binOp_eql]; rfl) ?_
 refine op_pick_t (ev_hit hN rfl) (ev_hit hN rfl) ?_
 refine op_move (ev_hit hN rfl) ?_
 refine g_true (j := 18) (dj := 42) (b := true) rfl rfl rfl (ev_hit hN rfl) ?_
 refine op_move (ev_hit hN rfl) ?_
 refine g_true (j := 18) (dj := 42) (b := true) rfl rfl rfl (ev_hit hN rfl) ?_
 refine op_bin (v := .bool true) (ev_hit hN rfl) rfl (by rw [binOp_eql]; rfl) ?_
 refine op_pick_t (ev_hit hN rfl) (ev_hit hN rfl) ?_
 refine op_move (ev_hit hN rfl) ?_
 refine g_true (j := 22) (dj := 46) (b := true) rfl rfl rfl (ev_hit hN rfl) ?_
 refine op_move (ev_hit hN rfl) ?_
 refine g_true (j := 22) (dj := 46) (b := true) rfl rfl rfl (ev_hit hN rfl) ?_
 refine op_fn (vs := [(ptr k7 0), (Value.int .i64 1)]) ok70 ⟨(ev_hit hN rfl), ⟨rfl, trivial⟩⟩ (WroteR (n := 1) (by omega) (by unfold MSm; decide) hl28) ?_
 rintro v34 w35 ⟨E36, hO34⟩
 have dj37 : Dj F28 (Bl v34) := Dj.fresh (fun k hk => (hl28.lt k hk).2) (fun k hk => (hO34.lt k hk).1)
 have E36 := grown_of_below E36
 have z_w35 := E36.size
 have hB26 := hB26.keep0 E36
 have hl28 := hl28.keepG (Gr.of0 E36 NoB) (fun _ _ h => h)
 have hb := below_step0 hb E36 hb.size
 have hO34 := hO34.mono (base' := w.heap.size) (by omega)
 refine g_true (j := 22) (dj := 46) (b := true) rfl rfl rfl (ev_hit hN rfl) ?_
 refine op_len_rd Try.underlying26 (ev_hit hN rfl) hO34.rdw ?_
 refine g_true (j := 22) (dj := 46) (b := true) rfl rfl rfl (ev_hit hN rfl) ?_
 refine op_eql (ev_hit hN rfl) rfl (fun c50 => ?_) (fun c50 => ?_)
 · -- 50T
  refine op_pick_t (ev_hit hN rfl) (ev_hit hN rfl) ?_
  refine op_move (ev_hit hN rfl) ?_
  refine g_true (j := 28) (dj := 52) (b := true) rfl rfl rfl (ev_hit hN rfl) ?_
  refine op_move (ev_hit hN rfl) ?_
  refine g_true (j := 28) (dj := 52) (b := true) rfl rfl rfl (ev_hit hN rfl) ?_
  refine op_fn (vs := [(ptr k7 0), (Value.int .i64 2)]) ok62 ⟨(ev_hit hN rfl), ⟨rfl, trivial⟩⟩ (DoomedR (n := 2) hl28) ?_
  rintro _ w38 ⟨E39, rfl⟩
  have E39 := grown_of_below E39
  have z_w38 := E39.size
  have hB26 := hB26.keep0 E39
  have hl28 := hl28.keepG (Gr.of0 E39 NoB) (fun _ _ h => h)
  have hO34 := hO34.keep0 E39
  have hb := below_step0 hb E39 hb.size
  refine g_true (j := 28) (dj := 52) (b := true) rfl rfl rfl (ev_hit hN rfl) ?_
  refine op_not (ev_hit hN rfl) ?_
  refine op_pick_t (ev_hit hN rfl) (ev_hit hN rfl) ?_
  refine op_assign (ev_hit hN rfl) ?_
  refine reg_nil ?_
  refine hK33 _ _ ?_
  refine wp_ret ?_
  refine ret1 rfl hd (ev_hit hN rfl) ⟨_, rfl, ?_⟩
  -- path 50T
  exact ⟨hb, rfl⟩
 · -- 50F
  exact absurd rfl c50

end Go.Proofs.Ytmhdbphpmgjpcaa

/- Locks in a run: what stays as it must be, whatever is done. -/
namespace Go.Proofs.Ytmhdbphpmgjpcaa
open Go.Gx Go.RowKit
def TIn (i : Nat) (t : TX) : Prop := TOk t ∧ t.reads.length ≤ 8 * i ∧ t.writes.length ≤ i
def MIn (M : TM) (i : Nat) : Prop := M.length ≤ i ∧ (M.map Prod.fst).Nodup ∧ ∀ a ∈ M, (Lit.int .i64 a.1).wf = true ∧ TIn i a.2
section
variable {M : TM} {i j n9 : Nat} {n s : Int} {l : List UInt16} {t : TX} {Rs : List (List UInt8)} {x : List UInt8} {a : Int × TX}
theorem wf_i64 (h0 : -1000000 ≤ n) (h : n ≤ 1000000) : (Lit.int .i64 n).wf = true := by
  simp only [Lit.wf, IntKind.min, IntKind.max, IntKind.signed, IntKind.bits, Bool.and_eq_true, decide_eq_true_eq]; simp; omega
theorem TIn.mono (h : TIn i t) (hj : i ≤ j) : TIn j t := ⟨h.1, by have := h.2.1; omega, by have := h.2.2; omega⟩
theorem MIn.start : MIn [] 0 := ⟨Nat.le_refl _, List.nodup_nil, fun _ h => by cases h⟩
theorem MIn.mono (h : MIn M i) (hj : i ≤ j) : MIn M j := ⟨Nat.le_trans h.1 hj, h.2.1, fun a ha => ⟨(h.2.2 a ha).1, (h.2.2 a ha).2.mono hj⟩⟩
theorem MIn.ok (h : MIn M i) (hi : i ≤ 1000) : MOk M := ⟨Nat.le_trans h.1 hi, fun a ha => ⟨(h.2.2 a ha).1, (h.2.2 a ha).2.1⟩⟩
theorem MIn.sm (h : MIn M i) (hi : i ≤ 1000) : MSm M := fun a ha => ⟨by have := (h.2.2 a ha).2.2.1; omega, by have := (h.2.2 a ha).2.2.2; omega⟩
theorem mput_len {K V : Type} [DecidableEq K] {es : List (K × V)} {k : K} {v : V} : (mput es k v).length ≤ es.length + 1 := by
  have h := congrArg List.length (mput_keys (es := es) (k := k) (v := v))
  rw [List.length_map] at h
  split at h
  · rw [List.length_map] at h; omega
  · rw [List.length_append, List.length_map] at h; simp at h; omega
theorem MIn.put (h : MIn M i) (hn : (Lit.int .i64 n).wf = true) (ht : TIn (i + 1) t) : MIn (mput M n t) (i + 1) := by
  refine ⟨Nat.le_trans mput_len (by have := h.1; omega), nodup_mput h.2.1, fun a ha => ?_⟩
  rcases (mem_mput h.2.1).1 ha with ⟨rfl, rfl⟩ | ⟨_, ha⟩
  · exact ⟨hn, ht⟩
  · exact ⟨(h.2.2 _ ha).1, (h.2.2 _ ha).2.mono (Nat.le_succ _)⟩
theorem MIn.del (h : MIn M i) : MIn (mdel M n) (i + 1) :=
  ⟨Nat.le_trans (mdel_keys_sub (es := M)).length_le (Nat.le_succ_of_le h.1), nodup_mdel h.2.1, fun a ha => ⟨(h.2.2 a (mdel_keys_sub.subset ha)).1, (h.2.2 a (mdel_keys_sub.subset ha)).2.mono (Nat.le_succ _)⟩⟩
theorem newT_in (hl : l.length ≤ 8) : TIn i (newT l s) := ⟨⟨hl, fun _ h => by cases h⟩, Nat.zero_le _, Nat.zero_le _⟩
theorem MIn.enter (h : MIn M i) (hn : (Lit.int .i64 n).wf = true) (hl : l.length ≤ 8) : MIn (enterM M n l s) (i + 1) := by
  unfold enterM; split
  · exact h.mono (Nat.le_succ _)
  · exact h.put hn (newT_in hl)
theorem MIn.get (h : MIn M i) (hg : mget M n = some t) : (Lit.int .i64 n).wf = true ∧ TIn i t := h.2.2 _ (mget_mem hg)
theorem MIn.move (h : MIn M i) (hl : l.length ≤ 8) : MIn (moveM M n l s) (i + 1) := by
  unfold moveM
  cases hg : mget M n with
  | none => exact h.mono (Nat.le_succ _)
  | some t =>
    simp only []
    split
    · exact h.mono (Nat.le_succ _)
    · have q := h.get hg
      exact h.put q.1 ⟨⟨hl, q.2.1.2⟩, by have := q.2.2.1; show t.reads.length ≤ _; omega, by have := q.2.2.2; show t.writes.length ≤ _; omega⟩
theorem addW_len {W : List (List UInt8)} : (addW W x).length ≤ W.length + 1 := by unfold addW; split <;> simp
theorem askT_in {o : Int} (h : TIn i t) (hR : Rs.length ≤ 8) : TIn (i + 1) (askT t Rs x o) := by
  unfold askT; split
  · have q := gotR_ok h.1.1 Rs t rfl h.1.2
    refine ⟨⟨h.1.1, q.1⟩, ?_, ?_⟩
    · have := h.2.1; have := q.2; show (gotR t Rs).length ≤ _; omega
    · show (gotW t x).length ≤ _
      unfold gotW; have := h.2.2
      split
      · omega
      · have := addW_len (W := t.writes) (x := x); omega
  · exact h.mono (Nat.le_succ _)
theorem MIn.ask (h : MIn M i) (hR : Rs.length ≤ 8) : MIn (askM M n Rs x) (i + 1) := by
  unfold askM
  cases hg : mget M n with
  | none => exact h.mono (Nat.le_succ _)
  | some t => exact h.put (h.get hg).1 (askT_in (h.get hg).2 hR)
theorem doomA_in {T : TX} {xs : List Int} (h : (Lit.int .i64 a.1).wf = true ∧ TIn i a.2) : (Lit.int .i64 (doomA M T xs a).1).wf = true ∧ TIn i (doomA M T xs a).2 := by
  unfold doomA; split
  · exact ⟨h.1, h.2⟩
  · exact h
theorem MIn.doom {T : TX} {xs : List Int} (h : MIn M i) : MIn (doomL M T xs) i :=
  ⟨by rw [doomL_len]; exact h.1, by rw [doomL_keys]; exact h.2.1, fun a ha => by obtain ⟨b, hb, rfl⟩ := List.mem_map.1 ha; exact doomA_in (h.2.2 b hb)⟩
theorem MIn.com (h : MIn M i) : MIn (comM M n) (i + 1) := by
  unfold comM
  cases hg : mget M n with
  | none => exact h.mono (Nat.le_succ _)
  | some t => exact h.doom.del
theorem MIn.at (h : MIn M i) (ha : a ∈ M) : txAt M a.1 = a.2 := by unfold txAt; rw [mget_of_mem h.2.1 (show (a.1, a.2) ∈ M from ha)]; rfl
/-! those that are there: 0, 1, and so on -/
def Keys0 (M : TM) (n9 : Nat) : Prop := M.map Prod.fst = (List.range n9).map fun j : Nat => (j : Int)
theorem Keys0.mem (h : Keys0 M n9) : n ∈ M.map Prod.fst ↔ ∃ j : Nat, j < n9 ∧ n = (j : Int) := by
  rw [h, List.mem_map]
  exact ⟨fun ⟨j, hj, e⟩ => ⟨j, List.mem_range.1 hj, e.symm⟩, fun ⟨j, hj, e⟩ => ⟨j, List.mem_range.2 hj, e.symm⟩⟩
theorem Keys0.miss (h : Keys0 M n9) : mget M (n9 : Int) = none := mget_none.2 fun hm => by obtain ⟨j, hj, e⟩ := h.mem.1 hm; omega
theorem Keys0.hit (h : Keys0 M n9) (hj : j < n9) : ∃ t, mget M (j : Int) = some t := mget_key (h.mem.2 ⟨j, hj, rfl⟩)
theorem Keys0.enter (h : Keys0 M n9) : enterE M (n9 : Int) = 0 ∧ Keys0 (enterM M (n9 : Int) l s) (n9 + 1) ∧ ∀ a ∈ enterM M (n9 : Int) l s, a ∈ M ∨ a = ((n9 : Int), newT l s) := by
  have hl : mlook M (n9 : Int) = none := by
    have := h.miss
    cases hq : mlook M (n9 : Int) with
    | none => rfl
    | some r => unfold mget at this; rw [hq] at this; cases this
  have e : enterM M (n9 : Int) l s = M ++ [((n9 : Int), newT l s)] := by unfold enterM; rw [h.miss]; show mput M _ _ = _; unfold mput; rw [hl]
  refine ⟨by unfold enterE; rw [h.miss]; rfl, ?_, fun a ha => ?_⟩
  · unfold Keys0 at h ⊢; rw [e, List.map_append, h, List.range_succ, List.map_append]; rfl
  · rw [e] at ha; rcases List.mem_append.1 ha with ha | ha
    · exact .inl ha
    · exact .inr (List.mem_singleton.1 ha)
theorem Keys0.ask (h : Keys0 M n9) (hn : (M.map Prod.fst).Nodup) (hj : j < n9) : askE M (j : Int) = 0 ∧ Keys0 (askM M (j : Int) Rs x) n9 ∧ ∀ a ∈ askM M (j : Int) Rs x, (a ∈ M ∨ ∃ t o, ((j : Int), t) ∈ M ∧ a = ((j : Int), askT t Rs x o)) := by
  obtain ⟨t, ht⟩ := h.hit hj
  have hm := mget_mem ht
  have e : askM M (j : Int) Rs x = mput M (j : Int) (askT t Rs x (ansO M (j : Int) t Rs x)) := by unfold askM; rw [ht]
  refine ⟨by unfold askE; rw [ht]; rfl, ?_, fun a ha => ?_⟩
  · unfold Keys0; rw [e, mput_keys, if_pos (List.mem_map.2 ⟨_, hm, rfl⟩)]; exact h
  · rw [e] at ha
    rcases (mem_mput (a := a.1) (u := a.2) hn).1 ha with ⟨e1, e2⟩ | ⟨_, ha⟩
    · exact .inr ⟨t, _, hm, Prod.ext e1 e2⟩
    · exact .inl ha
theorem ans_one (h : ∀ a ∈ M, othB M n (sameQ t) a.1 = false ∨ stB M t Rs x a.1 = false) : ansO M n t Rs x = 1 := by
  have h2 : (M.any fun a => othB M n (sameQ t) a.1 && stB M t Rs x a.1) = false := List.any_eq_false.2 fun a ha => by
    rcases h a ha with e | e <;> rw [e] <;> simp
  have h3 : (M.any fun a => othB M n (sameQ t) a.1 && dieB M t Rs x a.1) = false := List.any_eq_false.2 fun a ha => by
    unfold dieB
    rcases h a ha with e | e <;> rw [e] <;> simp
  unfold ansO; rw [h2, h3]; rfl
theorem askV_of (ht : mget M n = some t) : askV M n Rs x = ansO M n t Rs x := by unfold askV; rw [ht]
/-- Nobody has a write. -/
def ShK (M : TM) (n9 i : Nat) : Prop := MIn M (n9 + i) ∧ Keys0 M n9 ∧ ∀ a ∈ M, a.2.writes = []
theorem ShK.start : ShK [] 0 0 := ⟨MIn.start, rfl, fun _ h => by cases h⟩
theorem ShK.enter (h : ShK M n9 0) (hn : n9 ≤ 100) (hl : l.length ≤ 8) : enterE M (n9 : Int) = 0 ∧ ShK (enterM M (n9 : Int) l s) (n9 + 1) 0 := by
  have q := h.2.1.enter (l := l) (s := s)
  refine ⟨q.1, (h.1.enter (wf_i64 (by omega) (by omega)) hl).mono (by omega), q.2.1, fun a ha => ?_⟩
  rcases q.2.2 a ha with ha | rfl
  · exact h.2.2 a ha
  · rfl
theorem ShK.ask (h : ShK M n9 i) (hj : j < n9) (hR : Rs.length ≤ 8) : askV M (j : Int) Rs [] = 1 ∧ askE M (j : Int) = 0 ∧ ShK (askM M (j : Int) Rs []) n9 (i + 1) := by
  obtain ⟨t, ht⟩ := h.2.1.hit hj
  have q := h.2.1.ask (Rs := Rs) (x := []) h.1.2.1 hj
  refine ⟨(askV_of ht).trans (ans_one fun a ha => .inr ?_), q.1, (h.1.ask hR).mono (by omega), q.2.1, fun a ha => ?_⟩
  · unfold stB standB
    rw [h.1.at ha, h.2.2 a ha]
    have : Rs.any (writB []) = false := List.any_eq_false.2 fun r _ => by simp [writB]
    rw [this]; rfl
  · rcases q.2.2 a ha with ha | ⟨t, o, ht, rfl⟩
    · exact h.2.2 a ha
    · have := h.2.2 _ ht
      unfold askT; split
      · exact this
      · exact this
/-- All have unlike labels. -/
def ShW (Ls : Nat → List UInt16) (M : TM) (n9 i : Nat) : Prop := MIn M (n9 + i) ∧ Keys0 M n9 ∧ ∀ a ∈ M, a.2.label = Ls a.1.toNat
theorem ShW.start {Ls : Nat → List UInt16} : ShW Ls [] 0 0 := ⟨MIn.start, rfl, fun _ h => by cases h⟩
theorem ShW.enter {Ls : Nat → List UInt16} (h : ShW Ls M n9 0) (hn : n9 ≤ 100) (hl : (Ls n9).length ≤ 8) : enterE M (n9 : Int) = 0 ∧ ShW Ls (enterM M (n9 : Int) (Ls n9) s) (n9 + 1) 0 := by
  have q := h.2.1.enter (l := Ls n9) (s := s)
  refine ⟨q.1, (h.1.enter (wf_i64 (by omega) (by omega)) hl).mono (by omega), q.2.1, fun a ha => ?_⟩
  rcases q.2.2 a ha with ha | rfl
  · exact h.2.2 a ha
  · rfl
theorem ShW.ask {Ls : Nat → List UInt16} (h : ShW Ls M n9 i) (hne : ∀ a b, a < b → b < n9 → Ls a ≠ Ls b) (hj : j < n9) (hR : Rs.length ≤ 8) : askV M (j : Int) Rs x = 1 ∧ askE M (j : Int) = 0 ∧ ShW Ls (askM M (j : Int) Rs x) n9 (i + 1) := by
  obtain ⟨t, ht⟩ := h.2.1.hit hj
  have q := h.2.1.ask (Rs := Rs) (x := x) h.1.2.1 hj
  have hlt : t.label = Ls j := h.2.2 _ (mget_mem ht)
  refine ⟨(askV_of ht).trans (ans_one fun a ha => .inl ?_), q.1, (h.1.ask hR).mono (by omega), q.2.1, fun a ha => ?_⟩
  · unfold othB sameQ
    rw [h.1.at ha, h.2.2 a ha, hlt]
    obtain ⟨b, hb, e⟩ := h.2.1.mem.1 (List.mem_map.2 ⟨a, ha, rfl⟩)
    rw [e]
    by_cases hbj : b = j
    · subst hbj; simp
    · have : Ls b ≠ Ls j := by
        rcases Nat.lt_or_gt_of_ne hbj with hh | hh
        · exact hne _ _ hh hj
        · exact fun e => hne _ _ hh hb e.symm
      simp [this]
  · rcases q.2.2 a ha with ha | ⟨t, o, ht, rfl⟩
    · exact h.2.2 a ha
    · have := h.2.2 _ ht
      unfold askT; split
      · exact this
      · exact this
end
end Go.Proofs.Ytmhdbphpmgjpcaa
