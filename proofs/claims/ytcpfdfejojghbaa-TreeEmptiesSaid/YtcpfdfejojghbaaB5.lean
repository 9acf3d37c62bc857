/- Walks, written by a program: what each function of the translation hands back. -/
import Derived.Test.YtcpfdfejojghbaaB4
namespace Go.Proofs.Ytcpfdfejojghbaa
open Go.Gx Go.RowKit
attribute [local irreducible] wpList wpStill Code.wp Calls
open Go.Bt
theorem scanNI {h : Nat} {x : List UInt8} {xv kv cv : Value} {p ob lb B lim : Nat} {K : List DK} {P : List Nat} {cs : List (Tr (Int) h)} {R W G F : Nat → Prop} {D : List (DP (Int))} {w : World} (IH : ScanI h) (hNd : NodeR kI R w p kv cv K P G W) (hKs : KidsR kI R w h P cs G) (hO : Nd h (K.map Prod.snd) cs) (hz : ∀ c ∈ cs, okSz h c) (hn : K.length ≤ 6) (hW : ∀ k, W k → k < B) (hR : ∀ k, R k → k < B) (hkl : ∀ q ∈ cs.flatMap (toL h), q.1.length ≤ 1000000000) (hxr : RdC w 0 B 1 xv x.length (x.map u8v)) (hA : AccR kI 48 B ob lb (lim : Int) w D F) (hB : B ≤ w.heap.size) (hD : D.length < lim) (hlim : lim ≤ 9223372036854775807) (hDM : D.length + (cs.flatMap (toL h)).length ≤ 100000) : Ret Try.prog 49 #[(ptr p 0), xv, (Value.func (.func 50) #[] #[(ptr ob 0), (ptr lb 0)])] w (fun v' w' => Gr w w' (fun k => B ≤ k) ∧ v' = .bool (decide (D.length + ((cs.drop (way (K.map Prod.snd) x)).flatMap fun c => geL x (toL h c)).length < lim)) ∧ ∃ D2 F2, AccR kI 48 B ob lb (lim : Int) w' (D ++ D2) F2 ∧ D2.map Prod.snd = ((cs.drop (way (K.map Prod.snd) x)).flatMap fun c => geL x (toL h c)).take (lim - D.length)) := by
 have hx : Bx w p 115 [.slice none 0 0, kv, cv] := hNd.bx
 have ok := hNd.ok
 have oc : Own w 0 69 1 cv P.length (P.flatMap cN) := hNd.oc
 have ks := hNd.ks
 have hs := hO.2.1
 have hPc : P.length = cs.length := hKs.len
 have hcl : cs.length = K.length + 1 := hO.1.trans (by simp)
 have hPl : P.length = K.length + 1 := hPc.trans hcl
 have hwl : (way (K.map Prod.snd) x) ≤ K.length := by have := way_le (K.map Prod.snd) x; simpa using this
 have hdl : (P.drop (way (K.map Prod.snd) x)).length = P.length - (way (K.map Prod.snd) x) := List.length_drop
 have hoc : RdC w 0 B 1 cv P.length (P.flatMap cN) := (hNd.oc.rd fun k hk => hW k (hNd.wc k hk)).mono (Nat.zero_le _) (Nat.le_refl _)
 have hb := Gr.refl w (fun k => B ≤ k)
 refine enter (N := 56) Try.func49 rfl rfl (by simp) fun a0 hN hd hA => ?_
 have s0 : a0.tmps.getD 0 undef = (ptr p 0) := hA 0 (by simp)
 have s1 : a0.tmps.getD 1 undef = xv := hA 1 (by simp)
 have s2 : a0.tmps.getD 2 undef = (Value.func (.func 50) #[] #[(ptr ob 0), (ptr lb 0)]) := hA 2 (by simp)
 clear hA
 refine seq_any fun K3495 hK3495 => ?_
 refine one_reg ?_
 refine op_assign rfl ?_
 refine reg_nil ?_
 refine hK3495 _ _ ?_
 refine seq_any fun K3496 hK3496 => ?_
 refine seq_any fun K3497 hK3497 => ?_
 refine one_reg ?_
 refine op_move (ev_base hN rfl s0) ?_
 refine op_fn (vs := [(ptr p 0)]) ok81 ⟨(ev_hit hN rfl), trivial⟩ (Ret.flip (leafNI hx ok oc (by omega) (by omega))) ?_
 rintro _ _ ⟨rfl, rfl⟩
 refine reg_nil ?_
 refine hK3497 _ _ ?_
 refine wp_cond_false (ev_hit hN rfl) ?_
 refine wp_skip ?_
 refine hK3496 _ _ ?_
 refine seq_any fun K3498 hK3498 => ?_
 refine seq_any fun K3499 hK3499 => ?_
 refine reg_env (φ := phiV [(fun uz => uz = (ptr p 0)), (fun uz => uz = (ptr p 0)), (fun uz => uz = (ptr p 2)), (fun uz => uz = cv), (fun uz => uz = (ptr p 0)), (fun uz => uz = xv), (fun _ => True), (fun _ => True), (fun _ => True), (fun uz => uz = (Value.int .i64 0))]) (G := fun w' => Bx w' p 115 [(Value.slice none 0 0), kv, cv]) [6, 7, 8] mixed (by kernel_rfl) (by kernel_rfl) (by kernel_rfl) (by kernel_rfl) hN (fun w1 w2 E h => h.keep0 E) hx (ObEs.cons ?_ (ObEs.cons ?_ (ObEs.cons ?_ (ObEs.cons ?_ (ObEs.cons ?_ (ObEs.cons ?_ (ObEs.pass rfl (ObEs.pass rfl (ObEs.pass rfl (ObEs.cons ?_ (ObEs.nil))))))))))) (by simp only [putsL_defers]) ?_
 ·
  intro eA aA wA hNA hGA hbsA hdpA
  have qA_0 := (hbsA 0 rfl).trans (sl_base hN rfl s0)
  refine op_move (ev_base hNA rfl qA_0) ?_
  exact obE_end rfl rfl rfl
 ·
  intro eA aA wA hNA hGA hbsA hdpA
  have qA_37 : Sl aA 37 (ptr p 0) := (hdpA 0 _ 37 (by kernel_rfl) rfl rfl).2 rfl
  refine op_nil (ev_base hNA rfl qA_37) ?_
  exact obE_end rfl rfl rfl
 ·
  intro eA aA wA hNA hGA hbsA hdpA
  have qA_38 : Sl aA 38 (ptr p 0) := (hdpA 1 _ 38 (by kernel_rfl) rfl rfl).2 rfl
  refine op_field fld115_2 (ev_base hNA rfl qA_38) ?_
  exact obE_end rfl rfl rfl
 ·
  intro eA aA wA hNA hGA hbsA hdpA
  have qA_39 : Sl aA 39 (ptr p 2) := (hdpA 2 _ 39 (by kernel_rfl) rfl rfl).2 rfl
  refine op_load1 (v := cv) one113 (ev_base hNA rfl qA_39) (hGA.cell rfl) ?_
  exact obE_end rfl rfl rfl
 ·
  intro eA aA wA hNA hGA hbsA hdpA
  have qA_0 := (hbsA 0 rfl).trans (sl_base hN rfl s0)
  refine op_move (ev_base hNA rfl qA_0) ?_
  exact obE_end rfl rfl rfl
 ·
  intro eA aA wA hNA hGA hbsA hdpA
  have qA_1 := (hbsA 1 rfl).trans (sl_base hN rfl s1)
  refine op_move (ev_base hNA rfl qA_1) ?_
  exact obE_end rfl rfl rfl
 ·
  intro eA aA wA hNA hGA hbsA hdpA
  refine op_move rfl ?_
  exact obE_end rfl rfl rfl
 ·
  intro w3500 E3500 _ a3500 hN3500 hbs3500 hdp3500 o_ ho_; obtain rfl := Option.some.inj ho_
  have z_w3500 := E3500.size
  have hx := hx.keep0 E3500
  have ok := ok.keep0 E3500
  have oc := oc.keep0 E3500
  have ks : ∀ x9 ∈ K, Own w3500 0 5 1 x9.1 x9.2.length (x9.2.map u8v) := fun x9 hx9 => (ks x9 hx9).keep0 E3500
  have hoc := hoc.keep0 E3500
  have hxr := hxr.keep0 E3500
  have hA := hA.keepG (Gr.of0 E3500 NoB) (fun _ _ h => h) (NoK.no _)
  have hb := hb.step0 E3500
  have q3500_41 : Sl a3500 41 (ptr p 0) := (hdp3500 4 _ 41 (by kernel_rfl) rfl rfl).2 rfl
  have q3500_42 : Sl a3500 42 xv := (hdp3500 5 _ 42 (by kernel_rfl) rfl rfl).2 rfl
  refine op_fn (vs := [(ptr p 0), xv]) ok84 ⟨(ev_base hN3500 rfl q3500_41), ⟨(ev_base hN3500 rfl q3500_42), trivial⟩⟩ (wayI hx ok oc ks hs (by omega) (hxr.mono (Nat.zero_le _) (by omega))) ?_
  rintro _ w3501 ⟨E3502, rfl⟩
  have E3502 := grown_of_below E3502
  have z_w3501 := E3502.size
  have hx := hx.keep0 E3502
  have ok := ok.keep0 E3502
  have oc := oc.keep0 E3502
  have ks : ∀ x9 ∈ K, Own w3501 0 5 1 x9.1 x9.2.length (x9.2.map u8v) := fun x9 hx9 => (ks x9 hx9).keep0 E3502
  have hoc := hoc.keep0 E3502
  have hxr := hxr.keep0 E3502
  have hA := hA.keepG (Gr.of0 E3502 NoB) (fun _ _ h => h) (NoK.no _)
  have hb := hb.step0 E3502
  refine ke_end rfl (by decide) rfl hx ?_
  intro w3503 E3503 _ a3503 hN3503 hbs3503 hdp3503 o_ ho_; obtain rfl := Option.some.inj ho_
  have z_w3503 := E3503.size
  have hx := hx.keep0 E3503
  have ok := ok.keep0 E3503
  have oc := oc.keep0 E3503
  have ks : ∀ x9 ∈ K, Own w3503 0 5 1 x9.1 x9.2.length (x9.2.map u8v) := fun x9 hx9 => (ks x9 hx9).keep0 E3503
  have hoc := hoc.keep0 E3503
  have hxr := hxr.keep0 E3503
  have hA := hA.keepG (Gr.of0 E3503 NoB) (fun _ _ h => h) (NoK.no _)
  have hb := hb.step0 E3503
  have q3503_40 : Sl a3503 40 cv := (hdp3503 3 _ 40 (by kernel_rfl) rfl rfl).2 rfl
  have q3503_43 : Sl a3503 43 (Value.int .i64 (((way (K.map Prod.snd) x) : Nat) : Int)) := (Option.some.inj ((hdp3503 6 _ 43 (by kernel_rfl) rfl rfl).1 0 rfl)).symm
  refine op_slice_rd (lo := ((way (K.map Prod.snd) x))) (hi := P.length) slt113 (ev_base hN3503 rfl q3503_40) hoc (.inr ⟨_, _, rfl, (ev_base hN3503 rfl q3503_43)⟩) (.inl ⟨rfl, rfl⟩) (by omega) (by omega) ?_
  intro v3504 hR3505
  have hR3505 : RdC w3503 0 B 1 v3504 ((P.drop (way (K.map Prod.snd) x)).length) (((P.drop (way (K.map Prod.snd) x))).flatMap cN) := by exact hR3505.cast (by simp) (by rw [flat_drop cN_len, List.take_of_length_le (by rw [flat_len9 cN_len]; simp)])
  refine ke_end rfl (by decide) rfl hx ?_
  intro w3506 E3506 _ a3506 hN3506 hbs3506 hdp3506 o_ ho_; obtain rfl := Option.some.inj ho_
  have z_w3506 := E3506.size
  have hx := hx.keep0 E3506
  have ok := ok.keep0 E3506
  have oc := oc.keep0 E3506
  have ks : ∀ x9 ∈ K, Own w3506 0 5 1 x9.1 x9.2.length (x9.2.map u8v) := fun x9 hx9 => (ks x9 hx9).keep0 E3506
  have hoc := hoc.keep0 E3506
  have hxr := hxr.keep0 E3506
  have hA := hA.keepG (Gr.of0 E3506 NoB) (fun _ _ h => h) (NoK.no _)
  have hR3505 := hR3505.keep0 E3506
  have hb := hb.step0 E3506
  have q3506_44 : Sl a3506 44 v3504 := (Option.some.inj ((hdp3506 7 _ 44 (by kernel_rfl) rfl rfl).1 1 rfl)).symm
  refine op_len_rd Try.underlying113 (ev_base hN3506 rfl q3506_44) hR3505 ?_
  refine ke_end rfl (by decide) rfl hx ?_
  intro w3507 E3507 a3507 hN3507 hd3507 hbs3507 hph3507
  have hd3507 := hd3507.trans ((by simp only [putsL_defers] : _ = _).trans hd)
  have z_w3507 := E3507.size
  have hx := hx.keep0 E3507
  have ok := ok.keep0 E3507
  have oc := oc.keep0 E3507
  have ks : ∀ x9 ∈ K, Own w3507 0 5 1 x9.1 x9.2.length (x9.2.map u8v) := fun x9 hx9 => (ks x9 hx9).keep0 E3507
  have hoc := hoc.keep0 E3507
  have hxr := hxr.keep0 E3507
  have hA := hA.keepG (Gr.of0 E3507 NoB) (fun _ _ h => h) (NoK.no _)
  have hR3505 := hR3505.keep0 E3507
  have hb := hb.step0 E3507
  have s3507_1 := (hbs3507 1 rfl).trans (sl_base hN rfl s1)
  have s3507_2 := (hbs3507 2 rfl).trans (sl_base hN rfl s2)
  have s3507_6 := (hbs3507 6 rfl).trans (sl_hit hN rfl)
  have s3507_44 : Sl a3507 44 v3504 := (Option.some.inj ((hph3507 7 _ 44 rfl rfl).1 1 rfl)).symm
  have s3507_45 : Sl a3507 45 (Value.int .i64 ((((P.drop (way (K.map Prod.snd) x)).length) : Nat) : Int)) := (Option.some.inj ((hph3507 8 _ 45 rfl rfl).1 2 rfl)).symm
  have s3507_46 : Sl a3507 46 (Value.int .i64 0) := (hph3507 9 _ 46 rfl rfl).2 rfl
  refine hK3499 _ _ ?_
  refine wp_block ?_
  refine loop_m (fun mz_ az_ w' => ∃ (j : Nat) (D2 : List (DP (Int))) (FA : Nat → Prop), mz_ = (P.drop (way (K.map Prod.snd) x)).length - j ∧ (az_.tmps.getD 1 undef = xv) ∧ (az_.tmps.getD 2 undef = (Value.func (.func 50) #[] #[(ptr ob 0), (ptr lb 0)])) ∧ (az_.tmps.getD 44 undef = v3504) ∧ (az_.tmps.getD 45 undef = (Value.int .i64 ((((P.drop (way (K.map Prod.snd) x)).length) : Nat) : Int))) ∧ (az_.tmps.getD 46 undef = (Value.int .i64 ((j : Nat) : Int))) ∧ (j ≤ (P.drop (way (K.map Prod.snd) x)).length) ∧ (D2.map Prod.snd = (((cs.drop (way (K.map Prod.snd) x)).take j).flatMap fun c => geL x (toL h c))) ∧ (D.length + (((cs.drop (way (K.map Prod.snd) x)).take j).flatMap fun c => geL x (toL h c)).length < lim) ∧ (Gr w w' (fun k => B ≤ k)) ∧ (w3507.heap.size ≤ w'.heap.size) ∧ (RdC w' 0 B 1 cv P.length (P.flatMap cN)) ∧ (RdC w' 0 B 1 xv x.length (x.map u8v)) ∧ (RdC w' 0 B 1 v3504 ((P.drop (way (K.map Prod.snd) x)).length) (((P.drop (way (K.map Prod.snd) x))).flatMap cN)) ∧ (AccR kI 48 B ob lb (lim : Int) w' (D ++ D2) FA)) _ hN3507 hd3507 ⟨0, [], F, rfl, (sl_base hN3507 rfl s3507_1), (sl_base hN3507 rfl s3507_2), (sl_base hN3507 rfl s3507_44), (sl_base hN3507 rfl s3507_45), (sl_base hN3507 rfl s3507_46), (Nat.zero_le _), rfl, (by simpa using hD), hb, (Nat.le_refl _), hoc, hxr, hR3505, (by simpa using hA)⟩ ?_
  rintro _ a3508 w3508 hN3508 hd3508 ⟨j, D2, FA, rfl, s3508_1, s3508_2, s3508_44, s3508_45, s3508_46, hj, hD2, hlt, hb, zl_w3508, hoc, hxr, hR3505, hAj⟩
  have z_w3508 := hb.size
  refine seq_any fun K3509 hK3509 => ?_
  refine one_reg ?_
  refine op_lss (ev_base hN3508 rfl s3508_46) (ev_base hN3508 rfl s3508_45) (fun c47 => ?_) (fun c47 => ?_)
  · -- 47T
   refine reg_nil ?_
   refine hK3509 _ _ ?_
   refine seq_any fun K3510 hK3510 => ?_
   refine wp_cond_true (ev_hit hN3508 rfl) ?_
   refine wp_skip ?_
   refine hK3510 _ _ ?_
   refine seq_any fun K3511 hK3511 => ?_
   refine wp_block ?_
   refine seq_any fun K3512 hK3512 => ?_
   refine one_reg ?_
   refine op_index_rd slt113 (ev_base hN3508 rfl s3508_44) hR3505 (ev_base hN3508 rfl s3508_46) (by omega) (by omega) ?_
   intro b3513 o3514 h0b3513 h1b3513 hc3515
   refine op_load1 (v := (ptr ((P.drop (way (K.map Prod.snd) x)).getD j default) 0)) one69 (ev_hit hN3508 rfl) (by have := hc3515 0 (ptr ((P.drop (way (K.map Prod.snd) x)).getD j default) 0) (by decide) (el_pn (i := j) (by omega) (by first | omega | (simp only [List.length_drop, List.length_take]; omega))); simpa using this) ?_
   refine op_assign (ev_hit hN3508 rfl) ?_
   refine reg_nil ?_
   refine hK3512 _ _ ?_
   refine seq_any fun K3516 hK3516 => ?_
   refine one_reg ?_
   refine op_move (ev_hit hN3508 rfl) ?_
   refine op_move (ev_base hN3508 rfl s3508_1) ?_
   refine op_move (ev_base hN3508 rfl s3508_2) ?_
   have hl2 : D2.length = (((cs.drop (way (K.map Prod.snd) x)).take j).flatMap fun c => geL x (toL h c)).length := by have := congrArg List.length hD2; simpa using this
   obtain ⟨c, hc, hcO, _⟩ := hO.at (i := (way (K.map Prod.snd) x) + j) (by simp; omega)
   obtain ⟨f, hf, hfG⟩ := Kids.get hKs hc
   have hTn : TreeR kI R w3508 h (P.getD ((way (K.map Prod.snd) x) + j) default) c f := TreeR.later hf hb (fun k hk => hW k (hNd.wg k (hfG k hk))) hR
   have hpe : (P.drop (way (K.map Prod.snd) x)).getD j default = P.getD ((way (K.map Prod.snd) x) + j) default := by simp [List.getD_eq_getElem?_getD]
   rw [← hpe] at hTn
   have hmj : (((cs.drop (way (K.map Prod.snd) x)).take (j + 1)).flatMap fun c => geL x (toL h c)) = (((cs.drop (way (K.map Prod.snd) x)).take j).flatMap fun c => geL x (toL h c)) ++ geL x (toL h c) := scan_more hc
   refine op_fn (vs := [(ptr ((P.drop (way (K.map Prod.snd) x)).getD j default) 0), xv, (Value.func (.func 50) #[] #[(ptr ob 0), (ptr lb 0)])]) ok49 ⟨(ev_hit hN3508 rfl), ⟨(ev_hit hN3508 rfl), ⟨(ev_hit hN3508 rfl), trivial⟩⟩⟩ (IH hTn hcO (by have := (hz c (List.mem_of_getElem? hc)).2; omega) (fun k hk => hW k (hNd.wg k (hfG k hk))) hR (fun q hq => hkl q (List.mem_flatMap.2 ⟨c, List.mem_of_getElem? hc, hq⟩)) hxr hAj (by omega) (by rw [List.length_append]; omega) hlim (by have h9 := scan_room (x := x) hc; rw [List.length_append]; omega)) ?_
   rintro _ w3518 ⟨E3519, rfl, E2_3517, F2_3517, hA3517, hE3517⟩
   have z_w3518 := E3519.size
   have hoc := hoc.keepG E3519 (fun k hk => .inr hk)
   have hxr := hxr.keepG E3519 (fun k hk => .inr hk)
   have hR3505 := hR3505.keepG E3519 (fun k hk => .inr hk)
   have hb := hb.go E3519 (fun k _ h => h)
   rcases Bool.eq_false_or_eq_true ((decide (((D ++ D2)).length + (geL x (toL h c)).length < lim))) with c53 | c53
   · -- 53T
    rw [c53]
    refine op_not (ev_hit hN3508 rfl) ?_
    refine reg_nil ?_
    refine hK3516 _ _ ?_
    refine wp_cond_false (ev_hit hN3508 rfl) ?_
    refine wp_skip ?_
    refine hK3511 _ _ ?_
    refine one_reg ?_
    refine op_add (ev_base hN3508 rfl s3508_46) rfl (add64 (by omega)) ?_
    refine op_move (ev_hit hN3508 rfl) ?_
    refine reg_nil ?_
    -- round 47T 53T
    exact loop_next _ hN3508 hd3508 ⟨(j + 1), (D2 ++ E2_3517), F2_3517, rfl, (sl_base hN3508 rfl s3508_1), (sl_base hN3508 rfl s3508_2), (sl_base hN3508 rfl s3508_44), (sl_base hN3508 rfl s3508_45), (sl_hit hN3508 rfl).trans (congrArg (Value.int .i64) (by omega)), (by omega), (by rw [hmj, List.map_append, hD2, hE3517, List.take_of_length_le (l := geL x (toL h c)) (by have h9 := of_decide_eq_true c53; rw [List.length_append] at h9 ⊢; omega)]), (by have h9 := of_decide_eq_true c53; rw [hmj]; rw [List.length_append] at h9 ⊢; omega), hb, (by omega), hoc, hxr, hR3505, (by simpa using hA3517)⟩ (by omega)
   · -- 53F
    rw [c53]
    refine op_not (ev_hit hN3508 rfl) ?_
    refine reg_nil ?_
    refine hK3516 _ _ ?_
    refine wp_cond_true (ev_hit hN3508 rfl) ?_
    refine seq_any fun K3520 hK3520 => ?_
    refine one_reg ?_
    refine op_assign rfl ?_
    refine reg_nil ?_
    refine hK3520 _ _ ?_
    refine wp_ret (blk_ret (then_ret (then_ret (blk_ret (then_ret ( ?_))))))
    refine ret1 rfl hd3508 (ev_hit hN3508 rfl) ⟨_, rfl, ?_⟩
    -- path 47T 53F
    have h9 := of_decide_eq_false c53
    rw [List.length_append] at h9
    have hle : (((cs.drop (way (K.map Prod.snd) x)).take (j + 1)).flatMap fun c => geL x (toL h c)).length ≤ ((cs.drop (way (K.map Prod.snd) x)).flatMap fun c => geL x (toL h c)).length := scan_le
    exact ⟨hb, congrArg Value.bool (decide_eq_false (by rw [hmj, List.length_append] at hle; omega)).symm, D2 ++ E2_3517, F2_3517, by simpa using hA3517, by rw [scan_cut (j := j + 1) (by rw [hmj, List.length_append]; omega), hmj, List.map_append, hD2, hE3517, List.take_append, List.take_of_length_le (l := (((cs.drop (way (K.map Prod.snd) x)).take j).flatMap fun c => geL x (toL h c))) (by omega), List.length_append, hl2, Nat.sub_add_eq]⟩
  · -- 47F
   refine reg_nil ?_
   refine hK3509 _ _ ?_
   refine seq_any fun K3521 hK3521 => ?_
   refine wp_cond_false (ev_hit hN3508 rfl) ?_
   refine wp_exit (then_exit (then_exit (blk_hit ?_)))
   refine hK3498 _ _ ?_
   refine seq_any fun K3522 hK3522 => ?_
   refine one_reg ?_
   refine op_assign rfl ?_
   refine reg_nil ?_
   refine hK3522 _ _ ?_
   refine wp_ret ?_
   refine ret1 rfl hd3508 (ev_hit hN3508 rfl) ⟨_, rfl, ?_⟩
   -- path 47F
   have hall : (((cs.drop (way (K.map Prod.snd) x)).take j).flatMap fun c => geL x (toL h c)) = ((cs.drop (way (K.map Prod.snd) x)).flatMap fun c => geL x (toL h c)) := by rw [List.take_of_length_le (by simp; simp at hj; omega)]
   rw [hall] at hD2 hlt
   exact ⟨hb, congrArg Value.bool (decide_eq_true hlt).symm, D2, FA, hAj, by rw [hD2, List.take_of_length_le (by omega)]⟩

end Go.Proofs.Ytcpfdfejojghbaa

/- Walks, written by a program: what each function of the translation hands back. -/
namespace Go.Proofs.Ytcpfdfejojghbaa
open Go.Gx Go.RowKit
attribute [local irreducible] wpList wpStill Code.wp Calls
open Go.Bt
end Go.Proofs.Ytcpfdfejojghbaa

/- Walks, written by a program: what each function of the translation hands back. -/
namespace Go.Proofs.Ytcpfdfejojghbaa
open Go.Gx Go.RowKit
attribute [local irreducible] wpList wpStill Code.wp Calls
open Go.Bt
theorem scanAllI : ∀ h, ScanI h
  | 0 => scan0I
  | h + 1 => by
    intro x xv p ob lb B lim t R W F D w T hO h6 hW hR hkl hxr hA hB hD hlim hDM
    obtain ⟨kv, cv, K, P, G, hN, hKs, e⟩ := T
    obtain ⟨kl, cs⟩ := t
    have e' : K.map Prod.snd = kl := e
    subst e'
    obtain ⟨h1, h2⟩ := ok_node.1 hO
    have hg : geL x (toL (h + 1) ((K.map Prod.snd, cs) : Tr (Int) (h + 1))) = (cs.drop (way (K.map Prod.snd) x)).flatMap (fun c => geL x (toL h c)) := geL_node h1
    rw [hg]
    exact scanNI (scanAllI h) hN hKs h1 h2 (by have h9 : (K.map Prod.snd).length ≤ 6 := h6; simpa using h9) hW hR hkl hxr hA hB hD hlim hDM
end Go.Proofs.Ytcpfdfejojghbaa

/- Walks, written by a program: what each function of the translation hands back. -/
namespace Go.Proofs.Ytcpfdfejojghbaa
open Go.Gx Go.RowKit
attribute [local irreducible] wpList wpStill Code.wp Calls
open Go.Bt
theorem scanT0I {p : Nat} {m : Int} {xv : Value} {w : World} (hx : Bx w p 71 [.pointer none]) : Ret Try.prog 24 #[(ptr p 0), xv, (Value.int .i64 m)] w (fun v' w' => Below w.heap.size w w' ∧ v' = .slice none 0 0) := by
 have hb := Below.refl w.heap.size w
 refine enter (N := 29) Try.func24 rfl rfl (by simp) fun a0 hN hd hA => ?_
 have s0 : a0.tmps.getD 0 undef = (ptr p 0) := hA 0 (by simp)
 have s1 : a0.tmps.getD 1 undef = xv := hA 1 (by simp)
 have s2 : a0.tmps.getD 2 undef = (Value.int .i64 m) := hA 2 (by simp)
 clear hA
 refine seq_any fun K3579 hK3579 => ?_
 refine one_reg ?_
 refine op_box (cs := [(Value.int .i64 m)]) (ev_base hN rfl s2) rfl ?_
 intro w3580 b3581 lo_b3581 hi_b3581 hB3583 E3582
 have z_w3580 := E3582.size
 have hx := hx.keep0 E3582
 have hb := below_step0 hb E3582 hb.size
 refine op_assign rfl ?_
 refine reg_nil ?_
 refine hK3579 _ _ ?_
 refine seq_any fun K3584 hK3584 => ?_
 refine seq_any fun K3585 hK3585 => ?_
 refine one_reg ?_
 refine op_move (ev_base hN rfl s0) ?_
 refine op_peq_some ptrt45 (ev_hit hN rfl) rfl ?_
 refine op_move (ev_hit hN rfl) ?_
 refine g_true (j := 2) (dj := 10) (b := false) rfl rfl rfl (ev_hit hN rfl) ?_
 refine op_move (ev_base hN rfl s0) ?_
 refine g_true (j := 2) (dj := 10) (b := false) rfl rfl rfl (ev_hit hN rfl) ?_
 refine op_nil (ev_hit hN rfl) ?_
 refine g_true (j := 2) (dj := 10) (b := false) rfl rfl rfl (ev_hit hN rfl) ?_
 refine op_field fld71_0 (ev_hit hN rfl) ?_
 refine g_true (j := 2) (dj := 10) (b := false) rfl rfl rfl (ev_hit hN rfl) ?_
 refine op_load1 (v := (Value.pointer none)) one69 (ev_hit hN rfl) (hx.cell rfl) ?_
 refine g_true (j := 2) (dj := 10) (b := false) rfl rfl rfl (ev_hit hN rfl) ?_
 refine op_peq_none ptrt69 (ev_hit hN rfl) rfl ?_
 refine op_pick_f (ev_hit hN rfl) (ev_hit hN rfl) ?_
 refine op_move (ev_hit hN rfl) ?_
 refine g_false (j := 9) (dj := 17) (b := false) rfl rfl rfl (ev_hit hN rfl) rfl rfl ?_
 refine g_false (j := 9) (dj := 17) (b := false) rfl rfl rfl (ev_hit hN rfl) rfl rfl ?_
 refine op_pick_t (ev_hit hN rfl) rfl ?_
 refine reg_nil ?_
 refine hK3585 _ _ ?_
 refine wp_cond_true (ev_hit hN rfl) ?_
 refine seq_any fun K3586 hK3586 => ?_
 refine one_reg ?_
 refine op_assign rfl ?_
 refine reg_nil ?_
 refine hK3586 _ _ ?_
 refine wp_ret (then_ret ( ?_))
 refine ret1 rfl hd (ev_hit hN rfl) ⟨_, rfl, ?_⟩
 -- path
 exact ⟨hb, rfl⟩

theorem scanT1I {x : List UInt8} {xv : Value} {p q h lim : Nat} {t : Tr (Int) h} {R W : Nat → Prop} {w : World} (hx : Bx w p 71 [ptr q 0]) (hT : TreeR kI R w h q t W) (hO : Ok h t) (h6 : szT h t ≤ 6) (hR : ∀ k, R k → k < w.heap.size) (hkl : ∀ q ∈ toL h t, q.1.length ≤ 1000000000) (hxr : RdC w 0 w.heap.size 1 xv x.length (x.map u8v)) (h1 : 1 ≤ lim) (hlim : lim ≤ 9223372036854775807) (hDM : (toL h t).length ≤ 100000) : Ret Try.prog 24 #[(ptr p 0), xv, (Value.int .i64 ((lim : Nat) : Int))] w (fun v' w' => Below w.heap.size w w' ∧ ∃ D2 : List (DP (Int)), Own w' w.heap.size 51 2 v' D2.length (D2.flatMap cI) ∧ (∀ x9 ∈ D2.map pk, Own w' w.heap.size 5 1 x9.1 x9.2.length (x9.2.map u8v)) ∧ D2.map Prod.snd = (geL x (toL h t)).take lim ∧ (D2.map pk).Pairwise (fun a b => Dj (Bl a.1) (Bl b.1))) := by
 have hb := Below.refl w.heap.size w
 refine enter (N := 29) Try.func24 rfl rfl (by simp) fun a0 hN hd hA => ?_
 have s0 : a0.tmps.getD 0 undef = (ptr p 0) := hA 0 (by simp)
 have s1 : a0.tmps.getD 1 undef = xv := hA 1 (by simp)
 have s2 : a0.tmps.getD 2 undef = (Value.int .i64 ((lim : Nat) : Int)) := hA 2 (by simp)
 clear hA
 refine seq_any fun K3587 hK3587 => ?_
 refine one_reg ?_
 refine op_box (cs := [(Value.int .i64 ((lim : Nat) : Int))]) (ev_base hN rfl s2) rfl ?_
 intro w3588 b3589 lo_b3589 hi_b3589 hB3591 E3590
 have z_w3588 := E3590.size
 have hx := hx.keep0 E3590
 have hxr := hxr.keep0 E3590
 have hb := below_step0 hb E3590 hb.size
 refine op_assign rfl ?_
 refine reg_nil ?_
 refine hK3587 _ _ ?_
 refine seq_any fun K3592 hK3592 => ?_
 refine seq_any fun K3593 hK3593 => ?_
 refine one_reg ?_
 refine op_move (ev_base hN rfl s0) ?_
 refine op_peq_some ptrt45 (ev_hit hN rfl) rfl ?_
 refine op_move (ev_hit hN rfl) ?_
 refine g_true (j := 2) (dj := 10) (b := false) rfl rfl rfl (ev_hit hN rfl) ?_
 refine op_move (ev_base hN rfl s0) ?_
 refine g_true (j := 2) (dj := 10) (b := false) rfl rfl rfl (ev_hit hN rfl) ?_
 refine op_nil (ev_hit hN rfl) ?_
 refine g_true (j := 2) (dj := 10) (b := false) rfl rfl rfl (ev_hit hN rfl) ?_
 refine op_field fld71_0 (ev_hit hN rfl) ?_
 refine g_true (j := 2) (dj := 10) (b := false) rfl rfl rfl (ev_hit hN rfl) ?_
 refine op_load1 (v := (ptr q 0)) one69 (ev_hit hN rfl) (hx.cell rfl) ?_
 refine g_true (j := 2) (dj := 10) (b := false) rfl rfl rfl (ev_hit hN rfl) ?_
 refine op_peq_some ptrt69 (ev_hit hN rfl) rfl ?_
 refine op_pick_f (ev_hit hN rfl) (ev_hit hN rfl) ?_
 refine op_move (ev_hit hN rfl) ?_
 refine g_true (j := 9) (dj := 17) (b := false) rfl rfl rfl (ev_hit hN rfl) ?_
 refine op_load1 (v := (Value.int .i64 ((lim : Nat) : Int))) one3 (ev_hit hN rfl) (hB3591.cell rfl) ?_
 refine g_true (j := 9) (dj := 17) (b := false) rfl rfl rfl (ev_hit hN rfl) ?_
 refine op_lss (ev_hit hN rfl) rfl (fun c19 => ?_) (fun c19 => ?_)
 · -- 19T
  exfalso; omega
 · -- 19F
  refine op_pick_f (ev_hit hN rfl) (ev_hit hN rfl) ?_
  refine reg_nil ?_
  refine hK3593 _ _ ?_
  refine wp_cond_false (ev_hit hN rfl) ?_
  refine wp_skip ?_
  refine hK3592 _ _ ?_
  refine seq_any fun K3594 hK3594 => ?_
  refine one_reg ?_
  refine op_alloc (cs := [(Value.slice none 0 0)]) zero48 rfl ?_
  intro w3595 b3596 lo_b3596 hi_b3596 hB3598 E3597
  have z_w3595 := E3597.size
  have hx := hx.keep0 E3597
  have hxr := hxr.keep0 E3597
  have hB3591 := hB3591.keep0 E3597
  have hb := below_step0 hb E3597 hb.size
  refine reg_nil ?_
  refine hK3594 _ _ ?_
  refine seq_any fun K3599 hK3599 => ?_
  refine one_reg ?_
  refine op_move (ev_base hN rfl s0) ?_
  refine op_nil (ev_hit hN rfl) ?_
  refine op_field fld71_0 (ev_hit hN rfl) ?_
  refine op_load1 (v := (ptr q 0)) one69 (ev_hit hN rfl) (hx.cell rfl) ?_
  refine op_move (ev_base hN rfl s1) ?_
  refine op_mkfn (cv := [(ptr b3596 0), (ptr b3589 0)]) ⟨(ev_hit hN rfl), ⟨(ev_hit hN rfl), trivial⟩⟩ ?_
  refine op_fn (vs := [(ptr q 0), xv, (Value.func (.func 50) #[] #[(ptr b3596 0), (ptr b3589 0)])]) ok49 ⟨(ev_hit hN rfl), ⟨(ev_hit hN rfl), ⟨(ev_hit hN rfl), trivial⟩⟩⟩ (scanAllI h (TreeR.later (B := w.heap.size) hT (Gr.ofBelow hb _) hT.ty.lt hR) hO h6 hT.ty.lt hR hkl hxr (show AccR kI 48 w.heap.size b3596 b3589 (lim : Int) w3595 [] (fun k => k = b3596 ∨ k = b3589 ∨ Bl (.slice none 0 0) k) from ⟨by omega, by omega, by omega, ⟨_, hB3598, Own.nil _ _ _ _, fun _ => Iff.rfl⟩, hB3591, fun _ h => (by cases h), List.Pairwise.nil⟩) hb.size (show 0 < lim by omega) hlim (by simpa using hDM)) ?_
  rintro _ w3601 ⟨E3602, rfl, D2_3600, F2_3600, hA3600, hE3600⟩
  have z_w3601 := E3602.size
  have hb := below_stepG hb E3602 hb.size (fun k hk => hk)
  obtain ⟨_, _, _, ⟨ov3600, hob3600, hOv3600, _⟩, _, hks3600, hpw9⟩ := hA3600
  refine reg_nil ?_
  refine hK3599 _ _ ?_
  refine seq_any fun K3603 hK3603 => ?_
  refine one_reg ?_
  refine op_load1 (v := ov3600) one48 (ev_hit hN rfl) (hob3600.cell rfl) ?_
  refine op_assign (ev_hit hN rfl) ?_
  refine reg_nil ?_
  refine hK3603 _ _ ?_
  refine wp_ret ?_
  refine ret1 rfl hd (ev_hit hN rfl) ⟨_, rfl, ?_⟩
  -- path 19F
  exact ⟨hb, D2_3600, hOv3600, hks3600, by simpa using hE3600, hpw9⟩

theorem scanT2I {p q : Nat} {m : Int} {xv : Value} {w : World} (hx : Bx w p 71 [ptr q 0]) (hm : m < 1) : Ret Try.prog 24 #[(ptr p 0), xv, (Value.int .i64 m)] w (fun v' w' => Below w.heap.size w w' ∧ v' = .slice none 0 0) := by
 have hb := Below.refl w.heap.size w
 refine enter (N := 29) Try.func24 rfl rfl (by simp) fun a0 hN hd hA => ?_
 have s0 : a0.tmps.getD 0 undef = (ptr p 0) := hA 0 (by simp)
 have s1 : a0.tmps.getD 1 undef = xv := hA 1 (by simp)
 have s2 : a0.tmps.getD 2 undef = (Value.int .i64 m) := hA 2 (by simp)
 clear hA
 refine seq_any fun K3654 hK3654 => ?_
 refine one_reg ?_
 refine op_box (cs := [(Value.int .i64 m)]) (ev_base hN rfl s2) rfl ?_
 intro w3655 b3656 lo_b3656 hi_b3656 hB3658 E3657
 have z_w3655 := E3657.size
 have hx := hx.keep0 E3657
 have hb := below_step0 hb E3657 hb.size
 refine op_assign rfl ?_
 refine reg_nil ?_
 refine hK3654 _ _ ?_
 refine seq_any fun K3659 hK3659 => ?_
 refine seq_any fun K3660 hK3660 => ?_
 refine one_reg ?_
 refine op_move (ev_base hN rfl s0) ?_
 refine op_peq_some ptrt45 (ev_hit hN rfl) rfl ?_
 refine op_move (ev_hit hN rfl) ?_
 refine g_true (j := 2) (dj := 10) (b := false) rfl rfl rfl (ev_hit hN rfl) ?_
 refine op_move (ev_base hN rfl s0) ?_
 refine g_true (j := 2) (dj := 10) (b := false) rfl rfl rfl (ev_hit hN rfl) ?_
 refine op_nil (ev_hit hN rfl) ?_
 refine g_true (j := 2) (dj := 10) (b := false) rfl rfl rfl (ev_hit hN rfl) ?_
 refine op_field fld71_0 (ev_hit hN rfl) ?_
 refine g_true (j := 2) (dj := 10) (b := false) rfl rfl rfl (ev_hit hN rfl) ?_
 refine op_load1 (v := (ptr q 0)) one69 (ev_hit hN rfl) (hx.cell rfl) ?_
 refine g_true (j := 2) (dj := 10) (b := false) rfl rfl rfl (ev_hit hN rfl) ?_
 refine op_peq_some ptrt69 (ev_hit hN rfl) rfl ?_
 refine op_pick_f (ev_hit hN rfl) (ev_hit hN rfl) ?_
 refine op_move (ev_hit hN rfl) ?_
 refine g_true (j := 9) (dj := 17) (b := false) rfl rfl rfl (ev_hit hN rfl) ?_
 refine op_load1 (v := (Value.int .i64 m)) one3 (ev_hit hN rfl) (hB3658.cell rfl) ?_
 refine g_true (j := 9) (dj := 17) (b := false) rfl rfl rfl (ev_hit hN rfl) ?_
 refine op_lss (ev_hit hN rfl) rfl (fun c19 => ?_) (fun c19 => ?_)
 · -- 19T
  refine op_pick_f (ev_hit hN rfl) (ev_hit hN rfl) ?_
  refine reg_nil ?_
  refine hK3660 _ _ ?_
  refine wp_cond_true (ev_hit hN rfl) ?_
  refine seq_any fun K3661 hK3661 => ?_
  refine one_reg ?_
  refine op_assign rfl ?_
  refine reg_nil ?_
  refine hK3661 _ _ ?_
  refine wp_ret (then_ret ( ?_))
  refine ret1 rfl hd (ev_hit hN rfl) ⟨_, rfl, ?_⟩
  -- path 19T
  exact ⟨hb, rfl⟩
 · -- 19F
  exfalso; omega

end Go.Proofs.Ytcpfdfejojghbaa

/- Walks, written by a program: what each function of the translation hands back. -/
namespace Go.Proofs.Ytcpfdfejojghbaa
open Go.Gx Go.RowKit
attribute [local irreducible] wpList wpStill Code.wp Calls
open Go.Bt
theorem scanTopI {o : TO (Int)} {F : Nat → Prop} {x : List UInt8} {xv : Value} {p base : Nat} {m : Int} {w : World} (hT : TopR kI 71 base w p o F) (hkl : ∀ q ∈ toLO o, q.1.length ≤ 1000000000) (hxr : RdC w 0 w.heap.size 1 xv x.length (x.map u8v)) (hm : m ≤ 9223372036854775807) (hDM : (toLO o).length ≤ 100000) :
    Ret Try.prog 24 #[ptr p 0, xv, .int .i64 m] w (fun v' w' => Below w.heap.size w w' ∧ ∃ D2 : List (DP (Int)), Own w' w.heap.size 51 2 v' D2.length (D2.flatMap cI) ∧ (∀ x9 ∈ D2.map pk, Own w' w.heap.size 5 1 x9.1 x9.2.length (x9.2.map u8v)) ∧ D2.map Prod.snd = (geL x (toLO o)).take m.toNat ∧ (D2.map pk).Pairwise (fun a b => Dj (Bl a.1) (Bl b.1))) := by
  obtain ⟨hF, hlt, hO, root, hB', hr⟩ := hT
  rcases hr with ⟨rfl, rfl⟩ | ⟨q, R, W, rfl, hTO, hFW, hFR⟩
  · exact (scanT0I hB').mono fun v' w' h => by
      obtain ⟨hb, rfl⟩ := h
      exact ⟨hb, [], Own.nil _ _ _ _, fun _ h => (by cases h), by simp [toLO, geL], List.Pairwise.nil⟩
  · match o, hO, hTO, hkl, hDM with
    | some ⟨h, t⟩, hO, hTO, hkl, hDM =>
      rcases (by omega : m < 1 ∨ 1 ≤ m) with h1 | h1
      · exact (scanT2I hB' h1).mono fun v' w' h => by
          obtain ⟨hb, rfl⟩ := h
          exact ⟨hb, [], Own.nil _ _ _ _, fun _ h => (by cases h), by rw [show m.toNat = 0 by omega]; simp, List.Pairwise.nil⟩
      · obtain ⟨lim, rfl⟩ : ∃ lim : Nat, m = (lim : Int) := ⟨m.toNat, by omega⟩
        exact scanT1I hB' hTO hO.1 hO.2.2 (fun k hk => (hlt k (hFR k hk)).2) hkl hxr (by omega) (by omega) hDM
end Go.Proofs.Ytcpfdfejojghbaa

/- Two neighbouring kids: cut out, put back, joined; how a node lends and joins, plainly. -/
namespace Go.Gx
open Go.Bt Go.RowKit
theorem ee_ins {α : Type} : ∀ {l : List α} {i : Nat} (x : α), i + 1 < l.length → ((l.eraseIdx i).eraseIdx i).insertIdx i x = (l.set i x).eraseIdx (i + 1)
  | a :: b :: l, 0, x, _ => rfl
  | a :: l, i + 1, x, h => by
    have := ee_ins (l := l) (i := i) x (by simpa using h)
    simp only [List.eraseIdx_cons_succ, List.insertIdx_succ_cons, List.set_cons_succ, this]
theorem e_set {α : Type} : ∀ {l : List α} {i : Nat} (x : α), (l.eraseIdx i).set i x = (l.set (i + 1) x).eraseIdx i
  | [], i, x => by simp
  | a :: l, 0, x => by simp
  | a :: l, i + 1, x => by
    have := e_set (l := l) (i := i) x
    simp only [List.eraseIdx_cons_succ, List.set_cons_succ, this]
theorem e_get {P : List Nat} {i : Nat} : (P.eraseIdx i).getD i default = P.getD (i + 1) default := by simp [List.getD_eq_getElem?_getD, List.getElem?_eraseIdx]
section
variable {α : Type} {A : Nat → α → (Nat → Prop) → Prop} {ys9 : List α} {a b c d : α} {i : Nat} {P : List Nat} {G G0 f g : Nat → Prop}
theorem Kids.cut2 (K : Kids A P ys9 G) (ha : ys9[i]? = some a) (hb : ys9[i + 1]? = some b) : ∃ f g G0, A (P.getD i default) a f ∧ A (P.getD (i + 1) default) b g ∧ Kids A ((P.eraseIdx i).eraseIdx i) ((ys9.eraseIdx i).eraseIdx i) G0 ∧ Dj f g ∧ Dj f G0 ∧ Dj g G0 ∧ (∀ k, f k → G k) ∧ (∀ k, g k → G k) ∧ (∀ k, G0 k → G k) := by
  obtain ⟨f, G1, hA, K1, d1, s1, s2⟩ := K.cutc ha
  have e : (ys9.eraseIdx i)[i]? = some b := by rw [List.getElem?_eraseIdx, if_neg (by omega)]; exact hb
  obtain ⟨g, G0, hB, K2, d2, s3, s4⟩ := K1.cutc e
  rw [e_get] at hB
  exact ⟨f, g, G0, hA, hB, K2, fun k hf hg => d1 k hf (s3 k hg), fun k hf hg => d1 k hf (s4 k hg), d2, s1, fun k hk => s2 k (s3 k hk), fun k hk => s2 k (s4 k hk)⟩
theorem Kids.back2 (K : Kids A ((P.eraseIdx i).eraseIdx i) ((ys9.eraseIdx i).eraseIdx i) G0) (hl : P.length = ys9.length) (hi : i + 1 < ys9.length) (hA : A (P.getD i default) c f) (hB : A (P.getD (i + 1) default) d g) (h1 : Dj f g) (h2 : Dj f G0) (h3 : Dj g G0) :
    Kids A P ((ys9.set i c).set (i + 1) d) (fun k => f k ∨ g k ∨ G0 k) := by
  have K1 := Kids.back1 (P := P.eraseIdx i) (ts := ys9.eraseIdx i) (i := i) K (by rw [List.length_eraseIdx, List.length_eraseIdx, if_pos (by omega), if_pos (by omega)]; omega) (by rw [List.length_eraseIdx, if_pos (by omega)]; omega) (c := d) (f := g) (by rw [e_get]; exact hB) h3
  rw [e_set] at K1
  have K2 := Kids.back1 K1 (by rw [List.length_set]; exact hl) (by rw [List.length_set]; omega) hA (fun k h q => q.elim (h1 k h) (h2 k h))
  rwa [List.set_comm _ _ (by omega)] at K2
theorem Kids.join2 (K : Kids A ((P.eraseIdx i).eraseIdx i) ((ys9.eraseIdx i).eraseIdx i) G0) (hl : P.length = ys9.length) (hi : i + 1 < ys9.length) (hA : A (P.getD i default) c f) (h2 : Dj f G0) :
    Kids A (P.eraseIdx (i + 1)) ((ys9.set i c).eraseIdx (i + 1)) (fun k => f k ∨ G0 k) := by
  have e1 : (ys9.eraseIdx i).length = ys9.length - 1 := by rw [List.length_eraseIdx, if_pos (by omega)]
  have e2 : ((ys9.eraseIdx i).eraseIdx i).length = ys9.length - 1 - 1 := by rw [List.length_eraseIdx, e1, if_pos (by omega)]
  have := K.ins (i := i) (by omega) hA h2
  rwa [ee_ins _ (by omega), ee_ins _ hi, set_getD (by omega)] at this
end
end Go.Gx
namespace Go.Bt
section
variable {V : Type} {h i : Nat} {ks : List Ky} {cs : List (Tr V h)} {a b c : Tr V h}
/-- The i-th kid gets a key of the next one, or gives it one. -/
def lendT (h : Nat) (ks : List Ky) (cs : List (Tr V h)) (i : Nat) (left : Bool) : Tr V (h + 1) :=
  let a := cs.getD i default; let b := cs.getD (i + 1) default; let K := ks.getD i []
  if left then (ks.set i (rotL h a K b).2.1, (cs.set i (rotL h a K b).1).set (i + 1) (rotL h a K b).2.2)
  else (ks.set i (rotR h a K b).2.1, (cs.set i (rotR h a K b).1).set (i + 1) (rotR h a K b).2.2)
def joinT (h : Nat) (ks : List Ky) (cs : List (Tr V h)) (i : Nat) : Tr V (h + 1) :=
  (ks.eraseIdx i, (cs.set i (glue h (cs.getD i default) (ks.getD i []) (cs.getD (i + 1) default))).eraseIdx (i + 1))
/-- How many keys the lender has. -/
def lender (h : Nat) (cs : List (Tr V h)) (i : Nat) (left : Bool) : Nat := szT h (cs.getD (if left then i + 1 else i) default)
theorem mends_lend (hl : 3 < lender h cs (i - 1) (decide (i = 0))) : mendsT h ((ks, cs) : Tr V (h + 1)) i = lendT h ks cs (i - 1) (decide (i = 0)) := by
  by_cases hi : i = 0
  · have q : 3 < szT h (cs.getD (i - 1 + 1) default) := by simpa [lender, hi] using hl
    exact (if_pos ⟨hi, q⟩).trans (if_pos (decide_eq_true hi)).symm
  · have q : 3 < szT h (cs.getD (i - 1) default) := by simpa [lender, hi] using hl
    exact (if_neg fun h => hi h.1).trans ((if_pos ⟨hi, q⟩).trans (if_neg (by simp [hi])).symm)
theorem mends_join (hl : ¬ 3 < lender h cs (i - 1) (decide (i = 0))) : mendsT h ((ks, cs) : Tr V (h + 1)) i = joinT h ks cs (i - 1) := by
  by_cases hi : i = 0
  · have q : ¬ 3 < szT h (cs.getD (i - 1 + 1) default) := by simpa [lender, hi] using hl
    exact (if_neg fun h => q h.2).trans (if_neg fun h => h.1 hi)
  · have q : ¬ 3 < szT h (cs.getD (i - 1) default) := by simpa [lender, hi] using hl
    exact (if_neg fun h => hi h.1).trans (if_neg fun h => q h.2)
end
end Go.Bt
namespace Go.Gx
open Go.Bt Go.RowKit
theorem set_K {K : List DK} {i : Nat} {d : DK} (hi : i < K.length) : (K.flatMap cK).take i ++ [d.1] ++ (K.flatMap cK).drop (i + 1) = (K.set i d).flatMap cK := by
  have := set_flat9 (f := cK) (sz := 1) (j := 0) (d := default) (x := d) (vs := [d.1]) (l := K) (i := i) (fun _ => rfl) hi (Nat.le_refl _) rfl
  rw [Nat.mul_one, Nat.add_zero] at this
  exact this
section
variable {V : Type} [Inhabited V] {h i : Nat} {K Ka Kb : List DK} {D Da Db : List (DP V)} {cs ta tb : List (Tr V h)} {w : World} {R : Nat → Prop}
theorem getD_of {α : Type} [Inhabited α] {l : List α} {i : Nat} {a : α} (h : l[i]? = some a) : l.getD i default = a := by rw [List.getD_eq_getElem?_getD, h]; rfl
theorem lend_LL {cs : List (Tr V 0)} (ha : cs[i]? = some ((Da.map Prod.snd : List (Ky × V)) : Tr V 0)) (hb : cs[i + 1]? = some ((Db.map Prod.snd : List (Ky × V)) : Tr V 0)) (h1 : 1 < Db.length) :
    lendT 0 (K.map Prod.snd) cs i true = ((K.set i (pk ((Db.drop 1).getD 0 default))).map Prod.snd, (cs.set i (((Da ++ [Db.getD 0 default]).map Prod.snd : List (Ky × V)) : Tr V 0)).set (i + 1) (((Db.drop 1).map Prod.snd : List (Ky × V)) : Tr V 0)) := by
  unfold lendT
  rw [getD_of ha, getD_of hb]
  match Db, h1 with
  | x :: y :: t, _ =>
    show ((K.map Prod.snd).set i y.2.1, (cs.set i ((Da.map Prod.snd ++ [x.2] : List (Ky × V)) : Tr V 0)).set (i + 1) (((y :: t).map Prod.snd : List (Ky × V)) : Tr V 0)) = _
    rw [List.map_set]
    simp [pk]
theorem lend_LR {cs : List (Tr V 0)} (ha : cs[i]? = some ((Da.map Prod.snd : List (Ky × V)) : Tr V 0)) (hb : cs[i + 1]? = some ((Db.map Prod.snd : List (Ky × V)) : Tr V 0)) (h1 : 1 < Da.length) :
    lendT 0 (K.map Prod.snd) cs i false = ((K.set i (pk ((Db.insertIdx 0 (Da.getD (Da.length - 1) default)).getD 0 default))).map Prod.snd, (cs.set i (((Da.take (Da.length - 1)).map Prod.snd : List (Ky × V)) : Tr V 0)).set (i + 1) (((Db.insertIdx 0 (Da.getD (Da.length - 1) default)).map Prod.snd : List (Ky × V)) : Tr V 0)) := by
  unfold lendT
  rw [getD_of ha, getD_of hb]
  have e : (Da.map Prod.snd).drop ((Da.map Prod.snd).length - 1) = [(Da.getD (Da.length - 1) default).2] := by
    rw [← List.map_drop, List.length_map, List.drop_eq_getElem_cons (by omega), List.drop_eq_nil_of_le (by omega), List.getD_eq_getElem?_getD, List.getElem?_eq_getElem (by omega)]; rfl
  show ((K.map Prod.snd).set i (hd ((Da.map Prod.snd).drop ((Da.map Prod.snd).length - 1))), (cs.set i (((Da.map Prod.snd).take ((Da.map Prod.snd).length - 1) : List (Ky × V)) : Tr V 0)).set (i + 1) (((Da.map Prod.snd).drop ((Da.map Prod.snd).length - 1) ++ Db.map Prod.snd : List (Ky × V)) : Tr V 0)) = _
  rw [e, List.length_map, List.map_set, ← List.map_take]
  rfl
end
section
variable {V : Type} {h i : Nat} {K Ka Kb : List DK} {D Da Db : List (DP V)} {cs ta tb : List (Tr V h)} {w : World} {R : Nat → Prop}
theorem lend_NL {ta tb : List (Tr V h)} {cs : List (Tr V (h + 1))} (ha : cs[i]? = some ((Ka.map Prod.snd, ta) : Tr V (h + 1))) (hb : cs[i + 1]? = some ((Kb.map Prod.snd, tb) : Tr V (h + 1))) (hi : i < K.length) (h1 : 0 < Kb.length) (h2 : 0 < tb.length) :
    lendT (h + 1) (K.map Prod.snd) cs i true = ((K.set i (Kb.getD 0 default)).map Prod.snd, (cs.set i (((Ka ++ [K.getD i default]).map Prod.snd, ta ++ [tb.getD 0 default]) : Tr V (h + 1))).set (i + 1) (((Kb.drop 1).map Prod.snd, tb.drop 1) : Tr V (h + 1))) := by
  unfold lendT
  rw [getD_of ha, getD_of hb]
  match Kb, h1, tb, h2 with
  | x :: r, _, y :: t, _ =>
    show ((K.map Prod.snd).set i x.2, (cs.set i ((Ka.map Prod.snd ++ [(K.map Prod.snd).getD i []], ta ++ [y]) : Tr V (h + 1))).set (i + 1) ((r.map Prod.snd, t) : Tr V (h + 1))) = _
    rw [List.map_set, getD_map9 (d := default) hi, List.map_append]
    rfl
theorem lend_NR {ta tb : List (Tr V h)} {cs : List (Tr V (h + 1))} (ha : cs[i]? = some ((Ka.map Prod.snd, ta) : Tr V (h + 1))) (hb : cs[i + 1]? = some ((Kb.map Prod.snd, tb) : Tr V (h + 1))) (hi : i < K.length) (h1 : 0 < Ka.length) (h2 : ta.length = Ka.length + 1) :
    lendT (h + 1) (K.map Prod.snd) cs i false = ((K.set i (Ka.getD (Ka.length - 1) default)).map Prod.snd, (cs.set i (((Ka.take (Ka.length - 1)).map Prod.snd, ta.take (Ka.length - 1 + 1)) : Tr V (h + 1))).set (i + 1) (((Kb.insertIdx 0 (K.getD i default)).map Prod.snd, tb.insertIdx 0 (ta.getD (Ka.length - 1 + 1) default)) : Tr V (h + 1))) := by
  unfold lendT
  rw [getD_of ha, getD_of hb]
  have e : ta.drop (Ka.length - 1 + 1) = [ta.getD (Ka.length - 1 + 1) default] := by
    rw [List.drop_eq_getElem_cons (by omega), List.drop_eq_nil_of_le (by omega), List.getD_eq_getElem?_getD, List.getElem?_eq_getElem (by omega)]; rfl
  show ((K.map Prod.snd).set i ((Ka.map Prod.snd).getD ((Ka.map Prod.snd).length - 1) []), (cs.set i (((Ka.map Prod.snd).take ((Ka.map Prod.snd).length - 1), ta.take ((Ka.map Prod.snd).length - 1 + 1)) : Tr V (h + 1))).set (i + 1) (((K.map Prod.snd).getD i [] :: Kb.map Prod.snd, ta.drop ((Ka.map Prod.snd).length - 1 + 1) ++ tb) : Tr V (h + 1))) = _
  rw [List.length_map, e, List.map_set, getD_map9 (d := default) hi, getD_map9 (d := default) (l := Ka) (by omega), ← List.map_take]
  rfl
theorem join_L {cs : List (Tr V 0)} (ha : cs[i]? = some ((Da.map Prod.snd : List (Ky × V)) : Tr V 0)) (hb : cs[i + 1]? = some ((Db.map Prod.snd : List (Ky × V)) : Tr V 0)) :
    joinT 0 (K.map Prod.snd) cs i = ((K.eraseIdx i).map Prod.snd, (cs.set i (((Da ++ Db).map Prod.snd : List (Ky × V)) : Tr V 0)).eraseIdx (i + 1)) := by
  unfold joinT
  rw [getD_of ha, getD_of hb, map_erase9, List.map_append]
  rfl
theorem join_N {ta tb : List (Tr V h)} {cs : List (Tr V (h + 1))} (ha : cs[i]? = some ((Ka.map Prod.snd, ta) : Tr V (h + 1))) (hb : cs[i + 1]? = some ((Kb.map Prod.snd, tb) : Tr V (h + 1))) (hi : i < K.length) :
    joinT (h + 1) (K.map Prod.snd) cs i = ((K.eraseIdx i).map Prod.snd, (cs.set i (((Ka ++ [K.getD i default] ++ Kb).map Prod.snd, ta ++ tb) : Tr V (h + 1))).eraseIdx (i + 1)) := by
  unfold joinT
  rw [getD_of ha, getD_of hb, map_erase9]
  show _ = ((K.eraseIdx i).map Prod.snd, _)
  rw [getD_map9 (d := default) hi, List.map_append, List.map_append, List.append_assoc]
  rfl
theorem kr_snoc {D : List (DP V)} {d : DP V} {Q : DK → Prop} (ks : ∀ x9 ∈ D.map pk, Q x9) (hd : Q (pk d)) : ∀ x9 ∈ (D ++ [d]).map pk, Q x9 := fun x hx => by
  rw [List.map_append, List.mem_append] at hx
  rcases hx with hx | hx
  · exact ks x hx
  · rw [show ([d] : List (DP V)).map pk = [pk d] from rfl, List.mem_singleton] at hx
    subst hx; exact hd
theorem kr_app {D E : List (DP V)} {Q : DK → Prop} (ks : ∀ x9 ∈ D.map pk, Q x9) (ks2 : ∀ x9 ∈ E.map pk, Q x9) : ∀ x9 ∈ (D ++ E).map pk, Q x9 := fun x hx => by
  rw [List.map_append, List.mem_append] at hx
  exact hx.elim (ks x) (ks2 x)
theorem kks_set {d : DK} {Q : DK → Prop} (ks : ∀ x9 ∈ K, Q x9) (hd : Q d) : ∀ x9 ∈ K.set i d, Q x9 := fun x hx => by
  rcases List.mem_or_eq_of_mem_set hx with h | h
  · exact ks _ h
  · subst h; exact hd
theorem kks_app {E : List DK} {Q : DK → Prop} (ks : ∀ x9 ∈ K, Q x9) (ks2 : ∀ x9 ∈ E, Q x9) : ∀ x9 ∈ K ++ E, Q x9 := fun x hx => (List.mem_append.1 hx).elim (ks x) (ks2 x)
theorem kks_one {d : DK} {Q : DK → Prop} (hd : Q d) : ∀ x9 ∈ [d], Q x9 := fun x hx => by rw [List.mem_singleton.1 hx]; exact hd
theorem kks_sub {E : List DK} {Q : DK → Prop} (ks : ∀ x9 ∈ K, Q x9) (h : ∀ x ∈ E, x ∈ K) : ∀ x9 ∈ E, Q x9 := fun x hx => ks x (h x hx)
theorem one_pair {v : Value} {n : Int} (h : v.oneCell' = true) : [v, .int .i64 n].all Value.oneCell' = true := by
  simp only [List.all_cons, h, Bool.true_and]; rfl
theorem take1 {α : Type} {l : List α} {d : α} (h : 0 < l.length) : l.take 1 = [l.getD 0 d] := by
  match l, h with
  | a :: t, _ => rfl
theorem drop1 {α : Type} : ∀ {l : List α} {n : Nat} {d : α}, l.length = n + 1 → l.drop n = [l.getD n d]
  | [a], 0, _, _ => rfl
  | _ :: _ :: _, 0, _, h => by simp at h
  | [], _, _, h => by simp at h
  | _ :: t, n + 1, d, h => drop1 (l := t) (n := n) (d := d) (by simpa using h)
/-! blocks of unlike types are not the same -/
theorem bx_own_ne {w : World} {b t e base sz n : Nat} {v : Value} {cs ws : List Value} (B : Bx w b t cs) (O : Own w base e sz v n ws) (h : t ≠ e) : ¬ Bl v b := fun hk => by
  rcases O.2 with ⟨rfl, _⟩ | ⟨g, off, cap, cur, fr, rfl, _, hg, _⟩
  · simp [Bl, Value.ownBlock] at hk
  · have : g = b := by simpa [Bl, Value.ownBlock] using hk
    subst this
    have B' : w.heap[g]? = some (.cells cs.toArray t (0, 0)) := B
    rw [hg] at B'
    simp only [Option.some.injEq, Obj.cells.injEq] at B'
    exact h B'.2.1.symm
theorem own_own_dj {w : World} {e e2 base sz n base2 sz2 n2 : Nat} {v v2 : Value} {cs ws : List Value} (O : Own w base e sz v n cs) (O2 : Own w base2 e2 sz2 v2 n2 ws) (h : e ≠ e2) : Dj (Bl v) (Bl v2) := fun k hk hk2 => by
  rcases O.2 with ⟨rfl, _⟩ | ⟨g, off, cap, cur, fr, rfl, _, hg, _⟩
  · simp [Bl, Value.ownBlock] at hk
  · have : g = k := by simpa [Bl, Value.ownBlock] using hk
    subst this
    rcases O2.2 with ⟨rfl, _⟩ | ⟨g2, off2, cap2, cur2, fr2, rfl, _, hg2, _⟩
    · simp [Bl, Value.ownBlock] at hk2
    · have : g2 = g := by simpa [Bl, Value.ownBlock] using hk2
      subst this
      rw [hg] at hg2
      simp only [Option.some.injEq, Obj.cells.injEq] at hg2
      exact h hg2.2.1
end
end Go.Gx

/- Small laws for walks, the forty-second part: where an element lies, told ahead; nothing appended to nothing. -/
namespace Go.Gx
open Go.RowKit
section
variable {P : Program} {Q : Exit → Act → World → Prop} {a : Act} {w w' w9 : World} {l : List (Nat × Value)} {ops : Array Oper} {rest : List Oper}
variable {d ty t e xt yt tx i : Nat} {p : String} {af : Array Edge} {x y : Operand} {v : Value} {k : IntKind} {n base sz by_ b o : Nat} {cs ws : List Value} {zv : Value} {r : Int}
theorem Own.atV (O : Own w base e sz v n cs) (h1 : i < n) : ∃ b o, base ≤ b ∧ AtV v (i * sz) b o := by
  obtain ⟨hl, ⟨rfl, rfl⟩ | ⟨g, off, cap, cur, fr, rfl, hb, _⟩⟩ := O
  · omega
  · exact ⟨g, off + i * sz, hb, off, n, cap, rfl, rfl⟩
theorem op_index_at (T : SlT P xt e zv sz by_) (hx : (putsL a l).eval x = v) (O : Own w9 base e sz v n cs) (hy : (putsL a l).eval y = .int k r) (hr : r = (i : Int)) (h1 : i < n) (hA : AtV v (i * sz) b o)
    (h : wpList P ops Q rest (putsL a ((d, ptr b o) :: l)) w) : wpList P ops Q (⟨some d, .indexAddr xt x y, ty, p, af, none⟩ :: rest) (putsL a l) w := by
  obtain ⟨inf, hi, hz0, hz1, hz2⟩ := info_parts T.info
  subst hr
  obtain ⟨hl, ⟨rfl, rfl⟩ | ⟨g, off, cap, cur, fr, rfl, hb, _⟩⟩ := O
  · omega
  · obtain ⟨off2, n2, c2, hv, rfl⟩ := hA
    injection hv with e1 e2 e3; injection e1 with e1; injection e1 with e1 e4; subst e1; subst e4
    refine op_gen (v := ptr g (off + i * sz)) rfl ?_ h
    have hand : (0 ≤ (i : Int) ∧ (i : Int) < (n : Int)) := by omega
    simp [execOp, hx, hy, Instr.indexAt, asIntOf, run_underlying T.und, sizeOf, typeInfo, hi, ptr, Addr.add_lit, hz1, h1]
theorem RdC.atV {L B : Nat} (R : RdC w L B sz v n cs) (hp : 0 < sz) (h1 : i < n) : ∃ b o, AtV v (i * sz) b o := by
  obtain ⟨h0, a, c, hv, h2, h3, h4⟩ := R
  rcases h4 with h4 | ⟨b, off, ha, _⟩
  · rw [h4] at h0; have : 0 < n * sz := Nat.mul_pos (by omega) hp; simp at h0; omega
  · subst ha; exact ⟨b, off + i * sz, off, n, c, hv, rfl⟩
theorem RdC.cellAt {L B q : Nat} (R : RdC w L B sz v n cs) (hA : AtV v q b o) : ∀ j u, cs[q + j]? = some u → w.cell? ⟨b, o + j, none⟩ = some u := by
  intro j u hu
  obtain ⟨off', n', c', hv', rfl⟩ := hA
  obtain ⟨h0, a, c, hv, h2, h3, h4⟩ := R
  rcases h4 with h4 | ⟨b2, off, ha, _, _, hc⟩
  · rw [h4] at hu; simp at hu
  · subst ha
    rw [hv] at hv'
    injection hv' with e1 e2 e3; injection e1 with e1; injection e1 with e1 e4; subst e1; subst e4
    have := hc (q + j) u hu
    rw [← Nat.add_assoc] at this
    exact this
theorem op_index_atR {L B : Nat} (T : SlT P xt e zv sz by_) (hx : (putsL a l).eval x = v) (R : RdC w9 L B sz v n cs) (hp : 0 < sz) (hy : (putsL a l).eval y = .int k r) (hr : r = (i : Int)) (h1 : i < n) (hA : AtV v (i * sz) b o)
    (h : wpList P ops Q rest (putsL a ((d, ptr b o) :: l)) w) : wpList P ops Q (⟨some d, .indexAddr xt x y, ty, p, af, none⟩ :: rest) (putsL a l) w := by
  obtain ⟨inf, hi, hz0, hz1, hz2⟩ := info_parts T.info
  subst hr
  obtain ⟨h0, a', c, hv, h2, h3, h4⟩ := R
  rcases h4 with h4 | ⟨b2, off, ha, _, _, hc⟩
  · rw [h4] at h0; have : 0 < n * sz := Nat.mul_pos (by omega) hp; simp at h0; omega
  · subst ha; subst hv
    obtain ⟨off2, n2, c2, hv, rfl⟩ := hA
    injection hv with e1 e2 e3; injection e1 with e1; injection e1 with e1 e4; subst e1; subst e4
    refine op_gen (v := ptr b2 (off + i * sz)) rfl ?_ h
    have hand : (0 ≤ (i : Int) ∧ (i : Int) < (n : Int)) := by omega
    simp [execOp, hx, hy, Instr.indexAt, asIntOf, run_underlying T.und, sizeOf, typeInfo, hi, ptr, Addr.add_lit, hz1, h1]
theorem op_append_none {e' : Nat} (T : SlT P t e zv sz by_) (hu : P.underlying tx = some (.slice e')) (hp : 0 < sz) (hx : (putsL a l).eval x = .slice none 0 0) (hy : (putsL a l).eval y = .slice none 0 0)
    (h : ∀ w', w.grownBy w' none → wpList P ops Q rest (putsL a ((d, .slice none 0 0) :: l)) w') :
    wpList P ops Q (⟨some d, .call ⟨.builtin .append, #[x, y], #[t, tx]⟩, ty, p, af, none⟩ :: rest) (putsL a l) w :=
  op_append_room (i := 0) (m := 0) (v := .slice none 0 0) T hx (Own.nil w 0 e sz) hy (Src.ofRd hu hp (RdC.nil w 0 0 sz) rfl) (Nat.le_refl _) fun w' _ E => h w' E
/-- '[]byte("..")' of a constant: a row of bytes gets the mark of a conversion, behind its last cell. -/
theorem op_conv_bytes (ht : P.underlying t = some (.slice e)) (he : P.underlying e = some (.int .u8)) (hx : (putsL a l).eval x = .slice (some ⟨b, 0, none⟩) n n) (B : Bx w b e cs) (hl : cs.length = n) (hm : n ≤ maxLen) (hbase : base ≤ b)
    (h : ∀ w', Own w' base e 1 (.slice (some ⟨b, 0, none⟩) n n) n cs → w.grownBy w' (some b) → wpList P ops Q rest (putsL a ((d, .slice (some ⟨b, 0, none⟩) n n) :: l)) w') :
    wpList P ops Q (⟨some d, .convert t t x, ty, p, af, none⟩ :: rest) (putsL a l) w := by
  have hsh : w.shape? b = some (e, n) := by rw [← hl]; exact Bx.shape B
  have hr : (convert t t (.slice (some ⟨b, 0, none⟩) n n)).run P w = .ok (.slice (some ⟨b, 0, none⟩) n n) (w.freeze ⟨b, n, none⟩ 1) := by
    simp [convert, run_underlying ht, run_underlying he, markStringish, hsh]
  have B' : w.heap[b]? = some (.cells cs.toArray e (0, 0)) := B
  have hne : (1 : Nat) ≠ 0 := by decide
  refine op_gen (v := .slice (some ⟨b, 0, none⟩) n n) rfl (by simp only [execOp, hx, Sem.run_bind, hr, Result.andThen_ok, Sem.run_pure]; rfl) (h _ ?_ ?_)
  · refine ⟨by omega, .inr ⟨b, 0, n, cs.toArray, (n, n + 1), rfl, hbase, ?_, ?_, Nat.le_refl _, hm, ?_, ?_⟩⟩
    · unfold World.freeze
      rw [if_neg hne]
      show (w.heap.modify b _)[b]? = _
      rw [Array.getElem?_modify, if_pos rfl, B']
      rfl
    · intro j hj; simp at hj ⊢; omega
    · simp; omega
    · simp [← hl]
  · refine ⟨?_, ?_, ?_, ?_, fun k hk hn => ?_⟩
    · unfold World.freeze; rw [if_neg hne]
    · unfold World.freeze; rw [if_neg hne]
    · unfold World.freeze; rw [if_neg hne]
    · unfold World.freeze; rw [if_neg hne]; simp
    · unfold World.freeze
      rw [if_neg hne]
      show (w.heap.modify b _)[k]? = _
      rw [Array.getElem?_modify, if_neg (fun e => hn (by rw [e]))]
end
end Go.Gx
namespace Go.Gx
open Go.RowKit
section
variable {P : Program} {Q : Exit → Act → World → Prop} {a : Act} {w : World} {l : List (Nat × Value)} {ops : Array Oper} {rest : List Oper} {d ty e xt yt sz by_ : Nat} {p : String} {af : Array Edge} {x y : Operand} {zv : Value}
end
end Go.Gx

/- Walks, written by a program: what each function of the translation hands back. -/
namespace Go.Proofs.Ytcpfdfejojghbaa
open Go.Gx Go.RowKit
attribute [local irreducible] wpList wpStill Code.wp Calls
open Go.Bt
theorem lendLL {i p : Nat} {R W G f g G0 : Nat → Prop} {kv cv : Value} {K : List DK} {P : List Nat} {w : World} (hNd : NodeR kI R w p kv cv K P G W) (hfg : Dj f g) (hfG : Dj f G0) (hgG : Dj g G0) (hfs : ∀ k, f k → G k) (hgs : ∀ k, g k → G k) (hGs : ∀ k, G0 k → G k) (hPl : P.length = K.length + 1) (hi : i < K.length) (hn : K.length ≤ 7) {cs : List (Tr Int 0)} {av bv : Value} {Da Db : List (DP Int)} (hA : LeafR kI R w (P.getD i default) av Da f) (hB : LeafR kI R w (P.getD (i + 1) default) bv Db g) (hr : KidsR kI R w 0 ((P.eraseIdx i).eraseIdx i) ((cs.eraseIdx i).eraseIdx i) G0) (hPc : P.length = cs.length) (ha : cs[i]? = some ((Da.map Prod.snd : List (Ky × Int)) : Tr Int 0)) (hb9 : cs[i + 1]? = some ((Db.map Prod.snd : List (Ky × Int)) : Tr Int 0)) (hna : Da.length ≤ 7) (hnb : Db.length ≤ 7) (h3 : 3 < Db.length) : Ret Try.prog 120 #[(ptr p 0), (Value.int .i64 ((i : Nat) : Int)), (Value.bool true)] w (fun v' w' => Gr w w' W ∧ v' = .bool true ∧ ∃ W', TreeR kI R w' (0 + 1) p (lendT 0 (K.map Prod.snd) cs i true) W' ∧ NewF w.heap.size W W') := by
 have h0 : 0 ≤ w.heap.size := Nat.zero_le _
 have hx : Bx w p 115 [.slice none 0 0, kv, cv] := hNd.bx
 have ok := hNd.ok
 have oc : Own w 0 69 1 cv P.length (P.flatMap cN) := hNd.oc
 have ks := hNd.ks
 have hi_p := hx.lt
 have djkG : Dj (Bl kv) G0 := hNd.nk.mono hGs
 have djcG : Dj (Bl cv) G0 := hNd.nc.mono hGs
 have djpG : ¬ G0 p := fun q => hNd.np (hGs p q)
 have hxa : Bx w (P.getD i default) 115 [av, .slice none 0 0, .slice none 0 0] := hA.bx
 have oa : Own w 0 51 2 av Da.length (Da.flatMap cI) := hA.op
 have kas := hA.ks
 have hxb : Bx w (P.getD (i + 1) default) 115 [bv, .slice none 0 0, .slice none 0 0] := hB.bx
 have ob : Own w 0 51 2 bv Db.length (Db.flatMap cI) := hB.op
 have kbs := hB.ks
 have hi_a := hxa.lt
 have hi_b := hxb.lt
 have hab : (P.getD i default) ≠ (P.getD (i + 1) default) := fun e => hfg _ hA.wp (e ▸ hB.wp)
 have hpa : p ≠ (P.getD i default) := fun e => hNd.np (e ▸ hfs _ hA.wp)
 have hpb : p ≠ (P.getD (i + 1) default) := fun e => hNd.np (e ▸ hgs _ hB.wp)
 have djab : DJ av bv := fun k h1 h2 => hfg k (hA.wv k h1) (hB.wv k h2)
 have djaG : Dj (Bl av) G0 := fun k h => hfG k (hA.wv k h)
 have djbG : Dj (Bl bv) G0 := fun k h => hgG k (hB.wv k h)
 have djpaG : ¬ G0 (P.getD i default) := hfG _ hA.wp
 have djpbG : ¬ G0 (P.getD (i + 1) default) := hgG _ hB.wp
 have hb := Gr.refl w W
 refine enter (N := 254) Try.func120 rfl rfl (by simp) fun a0 hN hd hA => ?_
 have s0 : a0.tmps.getD 0 undef = (ptr p 0) := hA 0 (by simp)
 have s1 : a0.tmps.getD 1 undef = (Value.int .i64 ((i : Nat) : Int)) := hA 1 (by simp)
 have s2 : a0.tmps.getD 2 undef = (Value.bool true) := hA 2 (by simp)
 clear hA
 refine seq_any fun K3678 hK3678 => ?_
 refine one_reg ?_
 refine op_assign rfl ?_
 refine reg_nil ?_
 refine hK3678 _ _ ?_
 refine seq_any fun K3679 hK3679 => ?_
 refine reg_still mixed (by kernel_rfl) ?_
 intro w3681 E3680
 have z_w3681 := E3680.size
 have hx := hx.keep0 E3680
 have ok := ok.keep0 E3680
 have oc := oc.keep0 E3680
 have ks : ∀ x9 ∈ K, Own w3681 0 5 1 x9.1 x9.2.length (x9.2.map u8v) := fun x9 hx9 => (ks x9 hx9).keep0 E3680
 have hxa := hxa.keep0 E3680
 have hxb := hxb.keep0 E3680
 have oa := oa.keep0 E3680
 have ob := ob.keep0 E3680
 have kas : ∀ x9 ∈ (Da.map pk), Own w3681 0 5 1 x9.1 x9.2.length (x9.2.map u8v) := fun x9 hx9 => (kas x9 hx9).keep0 E3680
 have kbs : ∀ x9 ∈ (Db.map pk), Own w3681 0 5 1 x9.1 x9.2.length (x9.2.map u8v) := fun x9 hx9 => (kbs x9 hx9).keep0 E3680
 have hr := hr.keepG (Gr.of0 E3680 NoB) (fun _ _ h => h) (NoK.no _)
 have hb := hb.step0 E3680
 refine st_step rfl (fun _ h9 => op_move (ev_base hN rfl s0) h9) ?_
 refine st_step rfl (fun _ h9 => op_nil (ev_hit hN rfl) h9) ?_
 refine st_step rfl (fun _ h9 => op_field fld115_2 (ev_hit hN rfl) h9) ?_
 refine st_step rfl (fun _ h9 => op_load1 (v := cv) one113 (ev_hit hN rfl) (hx.cell rfl) h9) ?_
 refine st_step rfl (fun _ h9 => op_move (ev_base hN rfl s1) h9) ?_
 refine st_index_rd slt113 (ev_hit hN rfl) oc.rdw (ev_hit hN rfl) (by omega) (by omega) ?_
 intro b3682 o3683 h0b3682 h1b3682 hc3684
 refine st_step rfl (fun _ h9 => op_load1 (v := (ptr (P.getD i default) 0)) one69 (ev_hit hN rfl) (by have := hc3684 0 (ptr (P.getD i default) 0) (by decide) (el_pn (i := i) (by omega) (by first | omega | (simp only [List.length_drop, List.length_take]; omega))); simpa using this) h9) ?_
 refine st_step rfl (fun _ h9 => op_move (ev_base hN rfl s0) h9) ?_
 refine st_step rfl (fun _ h9 => op_nil (ev_hit hN rfl) h9) ?_
 refine st_step rfl (fun _ h9 => op_field fld115_2 (ev_hit hN rfl) h9) ?_
 refine st_step rfl (fun _ h9 => op_load1 (v := cv) one113 (ev_hit hN rfl) (hx.cell rfl) h9) ?_
 refine st_step rfl (fun _ h9 => op_move (ev_base hN rfl s1) h9) ?_
 refine st_step rfl (fun _ h9 => op_add (ev_hit hN rfl) rfl (add64 (by omega)) h9) ?_
 refine st_index_rd slt113 (ev_hit hN rfl) oc.rdw (ev_hit hN rfl) (by omega) (by omega) ?_
 intro b3685 o3686 h0b3685 h1b3685 hc3687
 refine st_step rfl (fun _ h9 => op_load1 (v := (ptr (P.getD (i + 1) default) 0)) one69 (ev_hit hN rfl) (by have := hc3687 0 (ptr (P.getD (i + 1) default) 0) (by decide) (el_pn (i := (i + 1)) (by omega) (by first | omega | (simp only [List.length_drop, List.length_take]; omega))); simpa using this) h9) ?_
 refine st_step rfl (fun _ h9 => op_assign (ev_hit hN rfl) h9) ?_
 refine st_step rfl (fun _ h9 => op_assign (ev_hit hN rfl) h9) ?_
 refine st_nil ?_
 refine hK3679 _ _ ?_
 refine seq_any fun K3688 hK3688 => ?_
 refine one_reg ?_
 refine op_move (ev_hit hN rfl) ?_
 refine op_assign (ev_hit hN rfl) ?_
 refine reg_nil ?_
 refine hK3688 _ _ ?_
 refine seq_any fun K3689 hK3689 => ?_
 refine seq_any fun K3690 hK3690 => ?_
 refine one_reg ?_
 refine op_move (ev_base hN rfl s2) ?_
 refine reg_nil ?_
 refine hK3690 _ _ ?_
 refine wp_cond_true (ev_hit hN rfl) ?_
 refine one_reg ?_
 refine op_move (ev_hit hN rfl) ?_
 refine op_assign (ev_hit hN rfl) ?_
 refine reg_nil ?_
 refine hK3689 _ _ ?_
 refine seq_any fun K3691 hK3691 => ?_
 refine seq_any fun K3692 hK3692 => ?_
 refine one_reg ?_
 refine op_move (ev_hit hN rfl) ?_
 refine op_fn (vs := [(ptr (P.getD (i + 1) default) 0)]) ok52 ⟨(ev_hit hN rfl), trivial⟩ (Ret.flip (sizeLI hxb ob)) ?_
 rintro _ _ ⟨rfl, rfl⟩
 refine op_leq (ev_hit hN rfl) rfl (fun c32 => ?_) (fun c32 => ?_)
 · -- 32T
  exfalso; omega
 · -- 32F
  refine reg_nil ?_
  refine hK3692 _ _ ?_
  refine wp_cond_false (ev_hit hN rfl) ?_
  refine wp_skip ?_
  refine hK3691 _ _ ?_
  refine seq_any fun K3693 hK3693 => ?_
  refine wp_block ?_
  refine seq_any fun K3694 hK3694 => ?_
  refine one_reg ?_
  refine op_move (ev_hit hN rfl) ?_
  refine op_fn (vs := [(ptr (P.getD i default) 0)]) ok81 ⟨(ev_hit hN rfl), trivial⟩ (Ret.flip (leafLI hxa oa)) ?_
  rintro _ _ ⟨rfl, rfl⟩
  refine op_move (ev_hit hN rfl) ?_
  refine g_true (j := 2) (dj := 107) (b := true) rfl rfl rfl (ev_hit hN rfl) ?_
  refine op_move (ev_base hN rfl s2) ?_
  refine op_pick_t (ev_hit hN rfl) (ev_hit hN rfl) ?_
  refine op_assign (ev_hit hN rfl) ?_
  refine reg_nil ?_
  refine hK3694 _ _ ?_
  refine wp_cond_true (ev_hit hN rfl) ?_
  refine seq_any fun K3695 hK3695 => ?_
  obtain ⟨b3696, o3697, _, hAt3698⟩ := ob.atV (i := 0) (by omega)
  refine reg_split (hd := [_, _, _, _, _, _, _, _, _, _, _, _, _, _, _, _, _, _, _, _, _, _]) (tl := _) 22 mixed (by kernel_rfl) rfl rfl ?_
  refine any_envk (φ := phiV [(fun uz => uz = (ptr (P.getD i default) 0)), (fun uz => uz = (ptr (P.getD (i + 1) default) 0)), (fun uz => uz = (ptr (P.getD i default) 0)), (fun uz => uz = (ptr (P.getD i default) 0)), (fun uz => uz = (ptr (P.getD i default) 0)), (fun uz => uz = av), (fun uz => uz = (ptr (P.getD (i + 1) default) 0)), (fun uz => uz = (ptr (P.getD (i + 1) default) 0)), (fun uz => uz = (ptr (P.getD (i + 1) default) 0)), (fun uz => uz = bv), (fun uz => uz = (ptr b3696 o3697)), (fun uz => uz = (Value.agg #[(Db.getD 0 default).1, (Value.int .i64 (Db.getD 0 default).2.2)])), (fun _ => True), (fun _ => True), (fun uz => uz = (ptr (P.getD (i + 1) default) 0)), (fun uz => uz = (ptr (P.getD (i + 1) default) 0)), (fun uz => uz = (ptr (P.getD (i + 1) default) 0)), (fun uz => uz = bv), (fun uz => uz = (cutS 2 bv 1)), (fun uz => uz = (ptr (P.getD i default) 0)), (fun uz => uz = (ptr (P.getD i default) 0)), (fun _ => True)]) (G := fun c9 w' => c9 ≤ 2 → (Own w' 0 51 2 bv Db.length (Db.flatMap cI) ∧ Bx w' (P.getD i default) 115 [av, (Value.slice none 0 0), (Value.slice none 0 0)] ∧ Bx w' (P.getD (i + 1) default) 115 [bv, (Value.slice none 0 0), (Value.slice none 0 0)])) [12, 13, 21] (by kernel_rfl) (by kernel_rfl) (by kernel_rfl) (by kernel_rfl) hN (fun _ w1 w2 E h hc9 => by have h := h hc9; obtain ⟨h0, h1, h2⟩ := h; exact ⟨h0.keep0 E, h1.keep0 E, h2.keep0 E⟩) (fun _ => ⟨ob, hxa, hxb⟩) (ObKs.cons ?_ (ObKs.cons ?_ (ObKs.cons ?_ (ObKs.cons ?_ (ObKs.cons ?_ (ObKs.cons ?_ (ObKs.cons ?_ (ObKs.cons ?_ (ObKs.cons ?_ (ObKs.cons ?_ (ObKs.cons ?_ (ObKs.cons ?_ (ObKs.pass rfl (ObKs.pass rfl (ObKs.cons ?_ (ObKs.cons ?_ (ObKs.cons ?_ (ObKs.cons ?_ (ObKs.cons ?_ (ObKs.cons ?_ (ObKs.cons ?_ (ObKs.pass rfl (ObKs.nil))))))))))))))))))))))) (by simp only [putsL_defers]) ?_
  ·
   intro eA aA wA hNA hckA hGA hbsA hdpA
   have qA_7 := (hbsA 7 rfl).trans (sl_hit hN rfl)
   refine op_move (ev_base hNA rfl qA_7) ?_
   exact obK_end rfl rfl rfl
  ·
   intro eA aA wA hNA hckA hGA hbsA hdpA
   have qA_8 := (hbsA 8 rfl).trans (sl_hit hN rfl)
   refine op_move (ev_base hNA rfl qA_8) ?_
   exact obK_end rfl rfl rfl
  ·
   intro eA aA wA hNA hckA hGA hbsA hdpA
   have qA_7 := (hbsA 7 rfl).trans (sl_hit hN rfl)
   refine op_move (ev_base hNA rfl qA_7) ?_
   exact obK_end rfl rfl rfl
  ·
   intro eA aA wA hNA hckA hGA hbsA hdpA
   have qA_112 : Sl aA 112 (ptr (P.getD i default) 0) := (hdpA 2 _ 112 (by kernel_rfl) rfl rfl).2 rfl
   refine op_nil (ev_base hNA rfl qA_112) ?_
   exact obK_end rfl rfl rfl
  ·
   intro eA aA wA hNA hckA hGA hbsA hdpA
   have qA_113 : Sl aA 113 (ptr (P.getD i default) 0) := (hdpA 3 _ 113 (by kernel_rfl) rfl rfl).2 rfl
   refine op_field fld115_0 (ev_base hNA rfl qA_113) ?_
   exact obK_end rfl rfl rfl
  ·
   intro eA aA wA hNA hckA hGA hbsA hdpA
   have qA_114 : Sl aA 114 (ptr (P.getD i default) 0) := (hdpA 4 _ 114 (by kernel_rfl) rfl rfl).2 rfl
   have hGA := hGA (hckA 2 21 rfl (by kernel_rfl))
   obtain ⟨ob, hxa, hxb⟩ := hGA
   refine op_load1 (v := av) one48 (ev_base hNA rfl qA_114) (hxa.cell rfl) ?_
   exact obK_end rfl rfl rfl
  ·
   intro eA aA wA hNA hckA hGA hbsA hdpA
   have qA_8 := (hbsA 8 rfl).trans (sl_hit hN rfl)
   refine op_move (ev_base hNA rfl qA_8) ?_
   exact obK_end rfl rfl rfl
  ·
   intro eA aA wA hNA hckA hGA hbsA hdpA
   have qA_116 : Sl aA 116 (ptr (P.getD (i + 1) default) 0) := (hdpA 6 _ 116 (by kernel_rfl) rfl rfl).2 rfl
   refine op_nil (ev_base hNA rfl qA_116) ?_
   exact obK_end rfl rfl rfl
  ·
   intro eA aA wA hNA hckA hGA hbsA hdpA
   have qA_117 : Sl aA 117 (ptr (P.getD (i + 1) default) 0) := (hdpA 7 _ 117 (by kernel_rfl) rfl rfl).2 rfl
   refine op_field fld115_0 (ev_base hNA rfl qA_117) ?_
   exact obK_end rfl rfl rfl
  ·
   intro eA aA wA hNA hckA hGA hbsA hdpA
   have qA_118 : Sl aA 118 (ptr (P.getD (i + 1) default) 0) := (hdpA 8 _ 118 (by kernel_rfl) rfl rfl).2 rfl
   have hGA := hGA (hckA 2 21 rfl (by kernel_rfl))
   obtain ⟨ob, hxa, hxb⟩ := hGA
   refine op_load1 (v := bv) one48 (ev_base hNA rfl qA_118) (hxb.cell rfl) ?_
   exact obK_end rfl rfl rfl
  ·
   intro eA aA wA hNA hckA hGA hbsA hdpA
   have qA_119 : Sl aA 119 bv := (hdpA 9 _ 119 (by kernel_rfl) rfl rfl).2 rfl
   refine op_index_at (i := 0) slt48 (ev_base hNA rfl qA_119) ob rfl (by omega) (by omega) hAt3698 ?_
   exact obK_end rfl rfl rfl
  ·
   intro eA aA wA hNA hckA hGA hbsA hdpA
   have qA_120 : Sl aA 120 (ptr b3696 o3697) := (hdpA 10 _ 120 (by kernel_rfl) rfl rfl).2 rfl
   have hGA := hGA (hckA 2 21 rfl (by kernel_rfl))
   obtain ⟨ob, hxa, hxb⟩ := hGA
   refine op_loadA (cs := [(Db.getD 0 default).1, (Value.int .i64 (Db.getD 0 default).2.2)]) agg51 rfl (ev_base hNA rfl qA_120) (fun j u hu => ob.cellAt hAt3698 j u (el_pI (e := ((0 : Nat) : Int)) (i := 0) rfl (by omega) j u hu)) ?_
   exact obK_end rfl rfl rfl
  ·
   intro eA aA wA hNA hckA hGA hbsA hdpA
   have qA_8 := (hbsA 8 rfl).trans (sl_hit hN rfl)
   refine op_move (ev_base hNA rfl qA_8) ?_
   exact obK_end rfl rfl rfl
  ·
   intro eA aA wA hNA hckA hGA hbsA hdpA
   have qA_124 : Sl aA 124 (ptr (P.getD (i + 1) default) 0) := (hdpA 14 _ 124 (by kernel_rfl) rfl rfl).2 rfl
   refine op_nil (ev_base hNA rfl qA_124) ?_
   exact obK_end rfl rfl rfl
  ·
   intro eA aA wA hNA hckA hGA hbsA hdpA
   have qA_125 : Sl aA 125 (ptr (P.getD (i + 1) default) 0) := (hdpA 15 _ 125 (by kernel_rfl) rfl rfl).2 rfl
   refine op_field fld115_0 (ev_base hNA rfl qA_125) ?_
   exact obK_end rfl rfl rfl
  ·
   intro eA aA wA hNA hckA hGA hbsA hdpA
   have qA_126 : Sl aA 126 (ptr (P.getD (i + 1) default) 0) := (hdpA 16 _ 126 (by kernel_rfl) rfl rfl).2 rfl
   have hGA := hGA (hckA 2 21 rfl (by kernel_rfl))
   obtain ⟨ob, hxa, hxb⟩ := hGA
   refine op_load1 (v := bv) one48 (ev_base hNA rfl qA_126) (hxb.cell rfl) ?_
   exact obK_end rfl rfl rfl
  ·
   intro eA aA wA hNA hckA hGA hbsA hdpA
   have qA_127 : Sl aA 127 bv := (hdpA 17 _ 127 (by kernel_rfl) rfl rfl).2 rfl
   refine op_slice_cutS (k := 1) slt48 (ev_base hNA rfl qA_127) ob rfl (by omega) (by omega) ?_
   exact obK_end rfl rfl rfl
  ·
   intro eA aA wA hNA hckA hGA hbsA hdpA
   have qA_110 : Sl aA 110 (ptr (P.getD i default) 0) := (hdpA 0 _ 110 (by kernel_rfl) rfl rfl).2 rfl
   refine op_nil (ev_base hNA rfl qA_110) ?_
   exact obK_end rfl rfl rfl
  ·
   intro eA aA wA hNA hckA hGA hbsA hdpA
   have qA_129 : Sl aA 129 (ptr (P.getD i default) 0) := (hdpA 19 _ 129 (by kernel_rfl) rfl rfl).2 rfl
   refine op_field fld115_0 (ev_base hNA rfl qA_129) ?_
   exact obK_end rfl rfl rfl
  ·
   intro w3699 E3699 _ a3699 hN3699 hbs3699 hdp3699 o_ ho_; obtain rfl := Option.some.inj ho_
   have z_w3699 := E3699.size
   have hx := hx.keep0 E3699
   have ok := ok.keep0 E3699
   have oc := oc.keep0 E3699
   have ks : ∀ x9 ∈ K, Own w3699 0 5 1 x9.1 x9.2.length (x9.2.map u8v) := fun x9 hx9 => (ks x9 hx9).keep0 E3699
   have hxa := hxa.keep0 E3699
   have hxb := hxb.keep0 E3699
   have oa := oa.keep0 E3699
   have ob := ob.keep0 E3699
   have kas : ∀ x9 ∈ (Da.map pk), Own w3699 0 5 1 x9.1 x9.2.length (x9.2.map u8v) := fun x9 hx9 => (kas x9 hx9).keep0 E3699
   have kbs : ∀ x9 ∈ (Db.map pk), Own w3699 0 5 1 x9.1 x9.2.length (x9.2.map u8v) := fun x9 hx9 => (kbs x9 hx9).keep0 E3699
   have hr := hr.keepG (Gr.of0 E3699 NoB) (fun _ _ h => h) (NoK.no _)
   have hb := hb.step0 E3699
   have q3699_121 : Sl a3699 121 (Value.agg #[(Db.getD 0 default).1, (Value.int .i64 (Db.getD 0 default).2.2)]) := (hdp3699 11 _ 121 (by kernel_rfl) rfl rfl).2 rfl
   refine op_bslice (e := 51) (pv := [(0, (Value.agg #[(Db.getD 0 default).1, (Value.int .i64 (Db.getD 0 default).2.2)]))]) (cs := [(Db.getD 0 default).1, (Value.int .i64 (Db.getD 0 default).2.2)]) ⟨rfl, (ev_base hN3699 rfl q3699_121), trivial⟩ (by kernel_rfl) ?_
   intro w3700 b3701 lo_b3701 hi_b3701 hB3703 E3702
   have dj3704 : ¬ G0 b3701 := fun hf => by have := (hr.lt _ hf).2; omega
   have ne_b3701_av : av.ownBlock ≠ some b3701 := fun hh => by have := (oa.lt _ hh).2; omega
   have ne_b3701_bv : bv.ownBlock ≠ some b3701 := fun hh => by have := (ob.lt _ hh).2; omega
   have z_w3700 := E3702.size
   have hx := hx.keep0 E3702
   have ok := ok.keep0 E3702
   have oc := oc.keep0 E3702
   have ks : ∀ x9 ∈ K, Own w3700 0 5 1 x9.1 x9.2.length (x9.2.map u8v) := fun x9 hx9 => (ks x9 hx9).keep0 E3702
   have hxa := hxa.keep0 E3702
   have hxb := hxb.keep0 E3702
   have oa := oa.keep0 E3702
   have ob := ob.keep0 E3702
   have kas : ∀ x9 ∈ (Da.map pk), Own w3700 0 5 1 x9.1 x9.2.length (x9.2.map u8v) := fun x9 hx9 => (kas x9 hx9).keep0 E3702
   have kbs : ∀ x9 ∈ (Db.map pk), Own w3700 0 5 1 x9.1 x9.2.length (x9.2.map u8v) := fun x9 hx9 => (kbs x9 hx9).keep0 E3702
   have hr := hr.keepG (Gr.of0 E3702 NoB) (fun _ _ h => h) (NoK.no _)
   have hb := hb.step0 E3702
   refine kk_end rfl (by decide) rfl (fun _ => ⟨ob, hxa, hxb⟩) ?_
   intro w3705 E3705 _ a3705 hN3705 hbs3705 hdp3705 o_ ho_; obtain rfl := Option.some.inj ho_
   have z_w3705 := E3705.size
   have hx := hx.keep0 E3705
   have ok := ok.keep0 E3705
   have oc := oc.keep0 E3705
   have ks : ∀ x9 ∈ K, Own w3705 0 5 1 x9.1 x9.2.length (x9.2.map u8v) := fun x9 hx9 => (ks x9 hx9).keep0 E3705
   have hxa := hxa.keep0 E3705
   have hxb := hxb.keep0 E3705
   have oa := oa.keep0 E3705
   have ob := ob.keep0 E3705
   have kas : ∀ x9 ∈ (Da.map pk), Own w3705 0 5 1 x9.1 x9.2.length (x9.2.map u8v) := fun x9 hx9 => (kas x9 hx9).keep0 E3705
   have kbs : ∀ x9 ∈ (Db.map pk), Own w3705 0 5 1 x9.1 x9.2.length (x9.2.map u8v) := fun x9 hx9 => (kbs x9 hx9).keep0 E3705
   have hr := hr.keepG (Gr.of0 E3705 NoB) (fun _ _ h => h) (NoK.no _)
   have hB3703 := hB3703.keep0 E3705
   have hb := hb.step0 E3705
   have q3705_115 : Sl a3705 115 av := (hdp3705 5 _ 115 (by kernel_rfl) rfl rfl).2 rfl
   have q3705_122 : Sl a3705 122 (Value.slice (some ⟨b3701, 0, none⟩) 1 1) := (Option.some.inj ((hdp3705 12 _ 122 (by kernel_rfl) rfl rfl).1 0 rfl)).symm
   have hP3711 := oa
   refine op_append slt48 (ev_base hN3705 rfl q3705_115) hP3711 (ev_base hN3705 rfl q3705_122) (Src.ofRd Try.underlying48 (by decide) (RdC.ofBx (sz := 2) (n := 1) hB3703 rfl (by decide)) (one_pair (own_one (kbs _ (ks_mem (i := 0) (by omega)))))) (by unfold maxLen; omega) (by omega) (Nat.le_trans (by assumption) hb.size) ?_
   intro v3706 w3707 hO3709 E3708 hm3710
   have dj3712 : DJ bv v3706 := DJ.step hm3710 (fun k hk => (ob.lt k hk).2) djab.symm
   have dj3713 : Dj G0 (Bl v3706) := Dj.step hm3710 (fun k hk => (hr.lt k hk).2) djaG.symm
   have z_w3707 := E3708.size
   have hx := hx.keepO hP3711 E3708 (by decide)
   have ok := ok.keepT hP3711 E3708 (by decide)
   have oc := oc.keepT hP3711 E3708 (by decide)
   have ks : ∀ x9 ∈ K, Own w3707 0 5 1 x9.1 x9.2.length (x9.2.map u8v) := fun x9 hx9 => (ks x9 hx9).keepT hP3711 E3708 (by decide)
   have hxa := hxa.keepO hP3711 E3708 (by decide)
   have hxb := hxb.keepO hP3711 E3708 (by decide)
   have ob := ob.keepD E3708 djab.symm
   have kas : ∀ x9 ∈ (Da.map pk), Own w3707 0 5 1 x9.1 x9.2.length (x9.2.map u8v) := fun x9 hx9 => (kas x9 hx9).keepT hP3711 E3708 (by decide)
   have kbs : ∀ x9 ∈ (Db.map pk), Own w3707 0 5 1 x9.1 x9.2.length (x9.2.map u8v) := fun x9 hx9 => (kbs x9 hx9).keepT hP3711 E3708 (by decide)
   have hr := hr.keepG (Gr.of E3708) djaG.symm (NoK.ofOwn hP3711 (by decide))
   have hB3703 := hB3703.keep E3708 (fun hh => ne_b3701_av hh.symm)
   have hb := hb.stepL E3708 (fun k _ h => hNd.wg k (hfs k (hA.wv k h)))
   have hO3709 : Own w3707 0 51 2 v3706 (Da.length + 1) ((Da.flatMap cI ++ [(Db.getD 0 default).1, (Value.int .i64 (Db.getD 0 default).2.2)])) := by simpa [u8v, sv] using hO3709
   have ne_b3701_v3706 : v3706.ownBlock ≠ some b3701 := ne_step (w1 := w3705) ⟨E3708, hm3710⟩ (by omega) ne_b3701_av
   refine kk_end rfl (by decide) rfl (fun _ => ⟨ob, hxa, hxb⟩) ?_
   intro w3714 E3714 _ a3714 hN3714 hbs3714 hdp3714 o_ ho_; obtain rfl := Option.some.inj ho_
   have z_w3714 := E3714.size
   have hx := hx.keep0 E3714
   have ok := ok.keep0 E3714
   have oc := oc.keep0 E3714
   have ks : ∀ x9 ∈ K, Own w3714 0 5 1 x9.1 x9.2.length (x9.2.map u8v) := fun x9 hx9 => (ks x9 hx9).keep0 E3714
   have hxa := hxa.keep0 E3714
   have hxb := hxb.keep0 E3714
   have ob := ob.keep0 E3714
   have kas : ∀ x9 ∈ (Da.map pk), Own w3714 0 5 1 x9.1 x9.2.length (x9.2.map u8v) := fun x9 hx9 => (kas x9 hx9).keep0 E3714
   have kbs : ∀ x9 ∈ (Db.map pk), Own w3714 0 5 1 x9.1 x9.2.length (x9.2.map u8v) := fun x9 hx9 => (kbs x9 hx9).keep0 E3714
   have hr := hr.keepG (Gr.of0 E3714 NoB) (fun _ _ h => h) (NoK.no _)
   have hB3703 := hB3703.keep0 E3714
   have hO3709 := hO3709.keep0 E3714
   have hb := hb.step0 E3714
   have q3714_130 : Sl a3714 130 (ptr (P.getD i default) 0) := (hdp3714 20 _ 130 (by kernel_rfl) rfl rfl).2 rfl
   have q3714_123 : Sl a3714 123 v3706 := (Option.some.inj ((hdp3714 13 _ 123 (by kernel_rfl) rfl rfl).1 1 rfl)).symm
   have hxa_old := hxa
   refine op_store (vs := [v3706]) (cs' := [v3706, (Value.slice none 0 0), (Value.slice none 0 0)]) size48 (ev_base hN3714 rfl q3714_130) (ev_base hN3714 rfl q3714_123) hO3709.cl rfl (by simp only [List.all_cons, List.all_nil, Bool.true_and, Bool.and_true, hO3709.one]; try rfl) hxa (Nat.le_of_ble_eq_true rfl) rfl ?_
   intro w3717 hxa E3718
   have z_w3717 := E3718.size
   have hx := hx.keep E3718 (by simp only [ne_eq, Option.some.injEq]; omega)
   have ok := ok.keepX hxa_old E3718 (by decide)
   have oc := oc.keepX hxa_old E3718 (by decide)
   have ks : ∀ x9 ∈ K, Own w3717 0 5 1 x9.1 x9.2.length (x9.2.map u8v) := fun x9 hx9 => (ks x9 hx9).keepX hxa_old E3718 (by decide)
   have hxb := hxb.keep E3718 (by simp only [ne_eq, Option.some.injEq]; omega)
   have ob := ob.keepX hxa_old E3718 (by decide)
   have kas : ∀ x9 ∈ (Da.map pk), Own w3717 0 5 1 x9.1 x9.2.length (x9.2.map u8v) := fun x9 hx9 => (kas x9 hx9).keepX hxa_old E3718 (by decide)
   have kbs : ∀ x9 ∈ (Db.map pk), Own w3717 0 5 1 x9.1 x9.2.length (x9.2.map u8v) := fun x9 hx9 => (kbs x9 hx9).keepX hxa_old E3718 (by decide)
   have hr := hr.keepG (Gr.of E3718) (Dj.one djpaG) (NoK.ofBx hxa_old (by decide))
   have hB3703 := hB3703.keep E3718 (fun hh => hB3703.ne hxa_old (by decide) (Option.some.inj hh))
   have hO3709 := hO3709.keepX hxa_old E3718 (by decide)
   have hb := hb.stepB E3718 (hNd.wg _ (hfs _ hA.wp))
   refine kk_end0 rfl (fun h => absurd h (by simp)) ?_
   intro w3719 E3719 a3719 hN3719 hd3719 hbs3719 hph3719
   have hd3719 := hd3719.trans ((by simp only [putsL_defers] : _ = _).trans hd)
   have z_w3719 := E3719.size
   have hx := hx.keep0 E3719
   have ok := ok.keep0 E3719
   have oc := oc.keep0 E3719
   have ks : ∀ x9 ∈ K, Own w3719 0 5 1 x9.1 x9.2.length (x9.2.map u8v) := fun x9 hx9 => (ks x9 hx9).keep0 E3719
   have hxb := hxb.keep0 E3719
   have ob := ob.keep0 E3719
   have kas : ∀ x9 ∈ (Da.map pk), Own w3719 0 5 1 x9.1 x9.2.length (x9.2.map u8v) := fun x9 hx9 => (kas x9 hx9).keep0 E3719
   have kbs : ∀ x9 ∈ (Db.map pk), Own w3719 0 5 1 x9.1 x9.2.length (x9.2.map u8v) := fun x9 hx9 => (kbs x9 hx9).keep0 E3719
   have hr := hr.keepG (Gr.of0 E3719 NoB) (fun _ _ h => h) (NoK.no _)
   have hB3703 := hB3703.keep0 E3719
   have hO3709 := hO3709.keep0 E3719
   have hxa := hxa.keep0 E3719
   have hb := hb.step0 E3719
   have s3719_0 := (hbs3719 0 rfl).trans (sl_base hN rfl s0)
   have s3719_1 := (hbs3719 1 rfl).trans (sl_base hN rfl s1)
   have s3719_6 := (hbs3719 6 rfl).trans (sl_hit hN rfl)
   have s3719_8 := (hbs3719 8 rfl).trans (sl_hit hN rfl)
   have s3719_111 : Sl a3719 111 (ptr (P.getD (i + 1) default) 0) := (hph3719 1 _ 111 rfl rfl).2 rfl
   have s3719_128 : Sl a3719 128 (cutS 2 bv 1) := (hph3719 18 _ 128 rfl rfl).2 rfl
   refine split_end ?_
   refine from_seq (tl := [_, _, _]) (by decide) (by kernel_rfl) rfl ?_
   refine op_nil (ev_base hN3719 rfl s3719_111) ?_
   refine op_field fld115_0 (ev_hit hN3719 rfl) ?_
   have hxb_old := hxb
   refine op_store (vs := [(cutS 2 bv 1)]) (cs' := [(cutS 2 bv 1), (Value.slice none 0 0), (Value.slice none 0 0)]) size48 (ev_hit hN3719 rfl) (ev_base hN3719 rfl s3719_128) (own_cl (ob.cutO (k := 1) (by omega))) rfl (by simp only [List.all_cons, List.all_nil, Bool.true_and, Bool.and_true, (own_one (ob.cutO (k := 1) (by omega)))]; try rfl) hxb (Nat.le_of_ble_eq_true rfl) rfl ?_
   intro w3722 hxb E3723
   have z_w3722 := E3723.size
   have hx := hx.keep E3723 (by simp only [ne_eq, Option.some.injEq]; omega)
   have ok := ok.keepX hxb_old E3723 (by decide)
   have oc := oc.keepX hxb_old E3723 (by decide)
   have ks : ∀ x9 ∈ K, Own w3722 0 5 1 x9.1 x9.2.length (x9.2.map u8v) := fun x9 hx9 => (ks x9 hx9).keepX hxb_old E3723 (by decide)
   have ob := ob.keepX hxb_old E3723 (by decide)
   have kas : ∀ x9 ∈ (Da.map pk), Own w3722 0 5 1 x9.1 x9.2.length (x9.2.map u8v) := fun x9 hx9 => (kas x9 hx9).keepX hxb_old E3723 (by decide)
   have kbs : ∀ x9 ∈ (Db.map pk), Own w3722 0 5 1 x9.1 x9.2.length (x9.2.map u8v) := fun x9 hx9 => (kbs x9 hx9).keepX hxb_old E3723 (by decide)
   have hr := hr.keepG (Gr.of E3723) (Dj.one djpbG) (NoK.ofBx hxb_old (by decide))
   have hB3703 := hB3703.keep E3723 (fun hh => hB3703.ne hxb_old (by decide) (Option.some.inj hh))
   have hO3709 := hO3709.keepX hxb_old E3723 (by decide)
   have hxa := hxa.keep E3723 (by simp only [ne_eq, Option.some.injEq]; omega)
   have hb := hb.stepB E3723 (hNd.wg _ (hgs _ hB.wp))
   refine reg_nil ?_
   refine hK3695 _ _ ?_
   have dj3725 : Dj G0 (Bl (cutS 2 bv 1)) := fun k hk hg => djbG.symm k hk (ob.cut_ob.symm.trans hg)
   have dj3726 : DJ v3706 (cutS 2 bv 1) := fun k hk hg => dj3712.symm k hk (ob.cut_ob.symm.trans hg)
   have hl_hcv3724 : (Db.drop 1).length = Db.length - 1 := List.length_drop
   have hcv3724 : Own w3722 0 51 2 (cutS 2 bv 1) (Db.drop 1).length ((Db.drop 1).flatMap cI) := (ob.cutO (k := 1) (by omega)).cast (by simp) (flat_drop cI_len _ _)
   refine reg_from mixed ?_
   intro w3728 E3727
   have z_w3728 := E3727.size
   have hx := hx.keep0 E3727
   have ok := ok.keep0 E3727
   have oc := oc.keep0 E3727
   have ks : ∀ x9 ∈ K, Own w3728 0 5 1 x9.1 x9.2.length (x9.2.map u8v) := fun x9 hx9 => (ks x9 hx9).keep0 E3727
   have kas : ∀ x9 ∈ (Da.map pk), Own w3728 0 5 1 x9.1 x9.2.length (x9.2.map u8v) := fun x9 hx9 => (kas x9 hx9).keep0 E3727
   have kbs : ∀ x9 ∈ (Db.map pk), Own w3728 0 5 1 x9.1 x9.2.length (x9.2.map u8v) := fun x9 hx9 => (kbs x9 hx9).keep0 E3727
   have hr := hr.keepG (Gr.of0 E3727 NoB) (fun _ _ h => h) (NoK.no _)
   have hB3703 := hB3703.keep0 E3727
   have hO3709 := hO3709.keep0 E3727
   have hxa := hxa.keep0 E3727
   have hxb := hxb.keep0 E3727
   have hcv3724 := hcv3724.keep0 E3727
   have hb := hb.step0 E3727
   refine from_still (m := 13) 13 (hd := [_, _, _, _, _, _, _, _, _, _, _, _, _]) (by kernel_rfl) rfl rfl ?_
   refine st_step rfl (fun _ h9 => op_move (ev_base hN3719 rfl s3719_0) h9) ?_
   refine st_step rfl (fun _ h9 => op_nil (ev_hit hN3719 rfl) h9) ?_
   refine st_step rfl (fun _ h9 => op_field fld115_1 (ev_hit hN3719 rfl) h9) ?_
   refine st_step rfl (fun _ h9 => op_load1 (v := kv) one90 (ev_hit hN3719 rfl) (hx.cell rfl) h9) ?_
   refine st_step rfl (fun _ h9 => op_move (ev_base hN3719 rfl s3719_1) h9) ?_
   refine st_step rfl (fun _ h9 => op_move (ev_base hN3719 rfl s3719_8) h9) ?_
   refine st_step rfl (fun _ h9 => op_nil (ev_hit hN3719 rfl) h9) ?_
   refine st_step rfl (fun _ h9 => op_field fld115_0 (ev_hit hN3719 rfl) h9) ?_
   refine st_step rfl (fun _ h9 => op_load1 (v := (cutS 2 bv 1)) one48 (ev_hit hN3719 rfl) (hxb.cell rfl) h9) ?_
   refine st_index_rd slt48 (ev_hit hN3719 rfl) hcv3724.rdw rfl (by omega) (by omega) ?_
   intro b3729 o3730 h0b3729 h1b3729 hc3731
   refine st_step rfl (fun _ h9 => op_field fld51_0 (ev_hit hN3719 rfl) h9) ?_
   refine st_step rfl (fun _ h9 => op_load1 (v := ((Db.drop 1).getD 0 default).1) one27 (ev_hit hN3719 rfl) (hc3731 0 (((Db.drop 1).getD 0 default).1) (by decide) ((el_pI (i := 0) (by omega) (by first | omega | (simp only [List.length_drop, List.length_take]; omega))) 0 (((Db.drop 1).getD 0 default).1) rfl)) h9) ?_
   refine st_index_own (i := i) slt90 (ev_hit hN3719 rfl) ok (ev_hit hN3719 rfl) (by omega) (by omega) ?_
   intro b3732 o3733 lo_b3732 hA3734
   have hA3734 : AtV kv (i) b3732 o3733 := by simpa using hA3734
   refine st_nil ?_
   refine from_seq (tl := [_]) (by decide) (by kernel_rfl) rfl ?_
   have hP3737 := ok
   refine op_store_own (vs := [((Db.drop 1).getD 0 default).1]) size27 (ev_hit hN3719 rfl) (ev_hit hN3719 rfl) (own_cl (show Own _ _ _ _ ((Db.drop 1).getD 0 default).1 _ _ from kbs (pk ((Db.drop 1).getD 0 default)) (List.mem_map.2 ⟨((Db.drop 1).getD 0 default), (List.mem_of_mem_drop (getD_mem (by first | omega | (simp only [List.length_drop, List.length_take]; omega)))), rfl⟩))) rfl (by simp only [List.all_cons, List.all_nil, Bool.true_and, Bool.and_true, (own_one (show Own _ _ _ _ ((Db.drop 1).getD 0 default).1 _ _ from kbs (pk ((Db.drop 1).getD 0 default)) (List.mem_map.2 ⟨((Db.drop 1).getD 0 default), (List.mem_of_mem_drop (getD_mem (by first | omega | (simp only [List.length_drop, List.length_take]; omega)))), rfl⟩)))]; try rfl) hP3737 hA3734 (by rw [hP3737.1]; simp only [List.length_cons, List.length_nil]; omega) ?_
   intro w3735 hO3738 E3736
   have z_w3735 := E3736.size
   have hx := hx.keepO hP3737 E3736 (by decide)
   have oc := oc.keepT hP3737 E3736 (by decide)
   have ks : ∀ x9 ∈ K, Own w3735 0 5 1 x9.1 x9.2.length (x9.2.map u8v) := fun x9 hx9 => (ks x9 hx9).keepT hP3737 E3736 (by decide)
   have kas : ∀ x9 ∈ (Da.map pk), Own w3735 0 5 1 x9.1 x9.2.length (x9.2.map u8v) := fun x9 hx9 => (kas x9 hx9).keepT hP3737 E3736 (by decide)
   have kbs : ∀ x9 ∈ (Db.map pk), Own w3735 0 5 1 x9.1 x9.2.length (x9.2.map u8v) := fun x9 hx9 => (kbs x9 hx9).keepT hP3737 E3736 (by decide)
   have hr := hr.keepG (Gr.of E3736) djkG.symm (NoK.ofOwn hP3737 (by decide))
   have hB3703 := hB3703.keepO hP3737 E3736 (by decide)
   have hO3709 := hO3709.keepT hP3737 E3736 (by decide)
   have hxa := hxa.keepO hP3737 E3736 (by decide)
   have hxb := hxb.keepO hP3737 E3736 (by decide)
   have hcv3724 := hcv3724.keepT hP3737 E3736 (by decide)
   have hb := hb.stepL E3736 (fun k _ h => hNd.wk k h)
   have hO3738 : Own w3735 0 27 1 kv K.length (((K.set i (pk ((Db.drop 1).getD 0 default)))).flatMap cK) := by exact hO3738.cast rfl (set_K (d := pk ((Db.drop 1).getD 0 default)) (by omega))
   refine reg_nil ?_
   refine hK3693 _ _ ?_
   refine seq_any fun K3739 hK3739 => ?_
   refine one_reg ?_
   refine op_assign rfl ?_
   refine reg_nil ?_
   refine hK3739 _ _ ?_
   refine wp_ret ?_
   refine ret1 rfl hd3719 (ev_hit hN3719 rfl) ⟨_, rfl, ?_⟩
   -- path 32F
   have hT9 := mkNode (κ := kI) (K := (K.set i (pk ((Db.drop 1).getD 0 default)))) hx (hO3738.cast (by simp) rfl) oc (kks_set ks (kbs _ (drop_key (by omega)))) (kks_set hNd.kr (hB.kr _ (drop_key (by omega)))) (Kids.back2 hr hPc (by omega) (mkLeaf (κ := kI) (D := (Da ++ [Db.getD 0 default])) hxa (hO3709.cast (n' := (Da ++ [Db.getD 0 default]).length) (cs' := (Da ++ [Db.getD 0 default]).flatMap cI) (by simp) (by simp [cI])) (ks_snoc kas (kbs _ (ks_mem (D := Db) (i := 0) (by omega)))) (kr_snoc hA.kr (hB.kr _ (ks_mem (D := Db) (i := 0) (by omega)))) rfl) (mkLeaf (κ := kI) (D := (Db.drop 1)) hxb hcv3724 (ks_sub kbs (fun _ h => List.mem_of_mem_drop h)) (ks_sub hB.kr (fun _ h => List.mem_of_mem_drop h)) rfl) (fun j h1 h2 => h1.elim (fun e1 => h2.elim (fun e2 => hab (e1.symm.trans e2)) (fun q => bx_own_ne hxa hcv3724 (by decide) (e1 ▸ q))) (fun q => h2.elim (fun e2 => bx_own_ne hxb (hO3709.cast (n' := (Da ++ [Db.getD 0 default]).length) (cs' := (Da ++ [Db.getD 0 default]).flatMap cI) (by simp) (by simp [cI])) (by decide) (e2 ▸ q)) (fun q2 => dj3726 j q q2))) (fun j h1 h2 => h1.elim (fun e1 => djpaG (e1 ▸ h2)) (fun q => dj3713.symm j q h2)) (fun j h1 h2 => h1.elim (fun e1 => djpbG (e1 ▸ h2)) (fun q => dj3725.symm j q h2))) (fun h9 => h9.elim (fun h8 => h8.elim (fun e => hpa e) (fun q => bx_own_ne hx (hO3709.cast (n' := (Da ++ [Db.getD 0 default]).length) (cs' := (Da ++ [Db.getD 0 default]).flatMap cI) (by simp) (by simp [cI])) (by decide) q)) (fun h9 => h9.elim (fun h8 => h8.elim (fun e => hpb e) (fun q => bx_own_ne hx hcv3724 (by decide) q)) (fun h => djpG h))) (fun j hj h9 => h9.elim (fun h8 => h8.elim (fun e => bx_own_ne hxa hO3738 (by decide) (e ▸ hj)) (fun q => own_own_dj hO3738 (hO3709.cast (n' := (Da ++ [Db.getD 0 default]).length) (cs' := (Da ++ [Db.getD 0 default]).flatMap cI) (by simp) (by simp [cI])) (by decide) j hj q)) (fun h9 => h9.elim (fun h8 => h8.elim (fun e => bx_own_ne hxb hO3738 (by decide) (e ▸ hj)) (fun q => own_own_dj hO3738 hcv3724 (by decide) j hj q)) (fun h => djkG j hj h))) (fun j hj h9 => h9.elim (fun h8 => h8.elim (fun e => bx_own_ne hxa oc (by decide) (e ▸ hj)) (fun q => own_own_dj oc (hO3709.cast (n' := (Da ++ [Db.getD 0 default]).length) (cs' := (Da ++ [Db.getD 0 default]).flatMap cI) (by simp) (by simp [cI])) (by decide) j hj q)) (fun h9 => h9.elim (fun h8 => h8.elim (fun e => bx_own_ne hxb oc (by decide) (e ▸ hj)) (fun q => own_own_dj oc hcv3724 (by decide) j hj q)) (fun h => djcG j hj h)))
   rw [lend_LL ha hb9 (by omega)]
   exact ⟨hb, rfl, _, hT9, (newF_in (nodeW_in (fun _ => hNd.wp) (fun k _ h => hNd.wk k h) (fun k _ h => hNd.wc k h) (fun j hj h9 => h9.elim (leafW_in (fun _ => hNd.wg _ (hfs _ hA.wp)) (inF_step (n := w.heap.size) hm3710 (by omega) (fun k _ h => hNd.wg k (hfs k (hA.wv k h)))) j hj) (fun h9 => h9.elim (leafW_in (fun _ => hNd.wg _ (hgs _ hB.wp)) (fun k hk h => (fun k _ h => hNd.wg k (hgs k (hB.wv k h))) k hk (ob.cut_ob.symm.trans h)) j hj) (fun q => hNd.wg j (hGs j q))))))⟩

theorem lendLR {i p : Nat} {R W G f g G0 : Nat → Prop} {kv cv : Value} {K : List DK} {P : List Nat} {w : World} (hNd : NodeR kI R w p kv cv K P G W) (hfg : Dj f g) (hfG : Dj f G0) (hgG : Dj g G0) (hfs : ∀ k, f k → G k) (hgs : ∀ k, g k → G k) (hGs : ∀ k, G0 k → G k) (hPl : P.length = K.length + 1) (hi : i < K.length) (hn : K.length ≤ 7) {cs : List (Tr Int 0)} {av bv : Value} {Da Db : List (DP Int)} (hA : LeafR kI R w (P.getD i default) av Da f) (hB : LeafR kI R w (P.getD (i + 1) default) bv Db g) (hr : KidsR kI R w 0 ((P.eraseIdx i).eraseIdx i) ((cs.eraseIdx i).eraseIdx i) G0) (hPc : P.length = cs.length) (ha : cs[i]? = some ((Da.map Prod.snd : List (Ky × Int)) : Tr Int 0)) (hb9 : cs[i + 1]? = some ((Db.map Prod.snd : List (Ky × Int)) : Tr Int 0)) (hna : Da.length ≤ 7) (hnb : Db.length ≤ 7) (h3 : 3 < Da.length) : Ret Try.prog 120 #[(ptr p 0), (Value.int .i64 ((i : Nat) : Int)), (Value.bool false)] w (fun v' w' => Gr w w' W ∧ v' = .bool true ∧ ∃ W', TreeR kI R w' (0 + 1) p (lendT 0 (K.map Prod.snd) cs i false) W' ∧ NewF w.heap.size W W') := by
 have h0 : 0 ≤ w.heap.size := Nat.zero_le _
 have hx : Bx w p 115 [.slice none 0 0, kv, cv] := hNd.bx
 have ok := hNd.ok
 have oc : Own w 0 69 1 cv P.length (P.flatMap cN) := hNd.oc
 have ks := hNd.ks
 have hi_p := hx.lt
 have djkG : Dj (Bl kv) G0 := hNd.nk.mono hGs
 have djcG : Dj (Bl cv) G0 := hNd.nc.mono hGs
 have djpG : ¬ G0 p := fun q => hNd.np (hGs p q)
 have hxa : Bx w (P.getD i default) 115 [av, .slice none 0 0, .slice none 0 0] := hA.bx
 have oa : Own w 0 51 2 av Da.length (Da.flatMap cI) := hA.op
 have kas := hA.ks
 have hxb : Bx w (P.getD (i + 1) default) 115 [bv, .slice none 0 0, .slice none 0 0] := hB.bx
 have ob : Own w 0 51 2 bv Db.length (Db.flatMap cI) := hB.op
 have kbs := hB.ks
 have hi_a := hxa.lt
 have hi_b := hxb.lt
 have hab : (P.getD i default) ≠ (P.getD (i + 1) default) := fun e => hfg _ hA.wp (e ▸ hB.wp)
 have hpa : p ≠ (P.getD i default) := fun e => hNd.np (e ▸ hfs _ hA.wp)
 have hpb : p ≠ (P.getD (i + 1) default) := fun e => hNd.np (e ▸ hgs _ hB.wp)
 have djab : DJ av bv := fun k h1 h2 => hfg k (hA.wv k h1) (hB.wv k h2)
 have djaG : Dj (Bl av) G0 := fun k h => hfG k (hA.wv k h)
 have djbG : Dj (Bl bv) G0 := fun k h => hgG k (hB.wv k h)
 have djpaG : ¬ G0 (P.getD i default) := hfG _ hA.wp
 have djpbG : ¬ G0 (P.getD (i + 1) default) := hgG _ hB.wp
 obtain ⟨ca, hca1, hca2, hca3⟩ := oa.cap
 have hb := Gr.refl w W
 refine enter (N := 254) Try.func120 rfl rfl (by simp) fun a0 hN hd hA => ?_
 have s0 : a0.tmps.getD 0 undef = (ptr p 0) := hA 0 (by simp)
 have s1 : a0.tmps.getD 1 undef = (Value.int .i64 ((i : Nat) : Int)) := hA 1 (by simp)
 have s2 : a0.tmps.getD 2 undef = (Value.bool false) := hA 2 (by simp)
 clear hA
 refine seq_any fun K3740 hK3740 => ?_
 refine one_reg ?_
 refine op_assign rfl ?_
 refine reg_nil ?_
 refine hK3740 _ _ ?_
 refine seq_any fun K3741 hK3741 => ?_
 refine reg_still mixed (by kernel_rfl) ?_
 intro w3743 E3742
 have z_w3743 := E3742.size
 have hx := hx.keep0 E3742
 have ok := ok.keep0 E3742
 have oc := oc.keep0 E3742
 have ks : ∀ x9 ∈ K, Own w3743 0 5 1 x9.1 x9.2.length (x9.2.map u8v) := fun x9 hx9 => (ks x9 hx9).keep0 E3742
 have hxa := hxa.keep0 E3742
 have hxb := hxb.keep0 E3742
 have oa := oa.keep0 E3742
 have ob := ob.keep0 E3742
 have kas : ∀ x9 ∈ (Da.map pk), Own w3743 0 5 1 x9.1 x9.2.length (x9.2.map u8v) := fun x9 hx9 => (kas x9 hx9).keep0 E3742
 have kbs : ∀ x9 ∈ (Db.map pk), Own w3743 0 5 1 x9.1 x9.2.length (x9.2.map u8v) := fun x9 hx9 => (kbs x9 hx9).keep0 E3742
 have hr := hr.keepG (Gr.of0 E3742 NoB) (fun _ _ h => h) (NoK.no _)
 have hb := hb.step0 E3742
 refine st_step rfl (fun _ h9 => op_move (ev_base hN rfl s0) h9) ?_
 refine st_step rfl (fun _ h9 => op_nil (ev_hit hN rfl) h9) ?_
 refine st_step rfl (fun _ h9 => op_field fld115_2 (ev_hit hN rfl) h9) ?_
 refine st_step rfl (fun _ h9 => op_load1 (v := cv) one113 (ev_hit hN rfl) (hx.cell rfl) h9) ?_
 refine st_step rfl (fun _ h9 => op_move (ev_base hN rfl s1) h9) ?_
 refine st_index_rd slt113 (ev_hit hN rfl) oc.rdw (ev_hit hN rfl) (by omega) (by omega) ?_
 intro b3744 o3745 h0b3744 h1b3744 hc3746
 refine st_step rfl (fun _ h9 => op_load1 (v := (ptr (P.getD i default) 0)) one69 (ev_hit hN rfl) (by have := hc3746 0 (ptr (P.getD i default) 0) (by decide) (el_pn (i := i) (by omega) (by first | omega | (simp only [List.length_drop, List.length_take]; omega))); simpa using this) h9) ?_
 refine st_step rfl (fun _ h9 => op_move (ev_base hN rfl s0) h9) ?_
 refine st_step rfl (fun _ h9 => op_nil (ev_hit hN rfl) h9) ?_
 refine st_step rfl (fun _ h9 => op_field fld115_2 (ev_hit hN rfl) h9) ?_
 refine st_step rfl (fun _ h9 => op_load1 (v := cv) one113 (ev_hit hN rfl) (hx.cell rfl) h9) ?_
 refine st_step rfl (fun _ h9 => op_move (ev_base hN rfl s1) h9) ?_
 refine st_step rfl (fun _ h9 => op_add (ev_hit hN rfl) rfl (add64 (by omega)) h9) ?_
 refine st_index_rd slt113 (ev_hit hN rfl) oc.rdw (ev_hit hN rfl) (by omega) (by omega) ?_
 intro b3747 o3748 h0b3747 h1b3747 hc3749
 refine st_step rfl (fun _ h9 => op_load1 (v := (ptr (P.getD (i + 1) default) 0)) one69 (ev_hit hN rfl) (by have := hc3749 0 (ptr (P.getD (i + 1) default) 0) (by decide) (el_pn (i := (i + 1)) (by omega) (by first | omega | (simp only [List.length_drop, List.length_take]; omega))); simpa using this) h9) ?_
 refine st_step rfl (fun _ h9 => op_assign (ev_hit hN rfl) h9) ?_
 refine st_step rfl (fun _ h9 => op_assign (ev_hit hN rfl) h9) ?_
 refine st_nil ?_
 refine hK3741 _ _ ?_
 refine seq_any fun K3750 hK3750 => ?_
 refine one_reg ?_
 refine op_move (ev_hit hN rfl) ?_
 refine op_assign (ev_hit hN rfl) ?_
 refine reg_nil ?_
 refine hK3750 _ _ ?_
 refine seq_any fun K3751 hK3751 => ?_
 refine seq_any fun K3752 hK3752 => ?_
 refine one_reg ?_
 refine op_move (ev_base hN rfl s2) ?_
 refine reg_nil ?_
 refine hK3752 _ _ ?_
 refine wp_cond_false (ev_hit hN rfl) ?_
 refine wp_skip ?_
 refine hK3751 _ _ ?_
 refine seq_any fun K3753 hK3753 => ?_
 refine seq_any fun K3754 hK3754 => ?_
 refine one_reg ?_
 refine op_move (ev_hit hN rfl) ?_
 refine op_fn (vs := [(ptr (P.getD i default) 0)]) ok52 ⟨(ev_hit hN rfl), trivial⟩ (Ret.flip (sizeLI hxa oa)) ?_
 rintro _ _ ⟨rfl, rfl⟩
 refine op_leq (ev_hit hN rfl) rfl (fun c32 => ?_) (fun c32 => ?_)
 · -- 32T
  exfalso; omega
 · -- 32F
  refine reg_nil ?_
  refine hK3754 _ _ ?_
  refine wp_cond_false (ev_hit hN rfl) ?_
  refine wp_skip ?_
  refine hK3753 _ _ ?_
  refine seq_any fun K3755 hK3755 => ?_
  refine wp_block ?_
  refine seq_any fun K3756 hK3756 => ?_
  refine one_reg ?_
  refine op_move (ev_hit hN rfl) ?_
  refine op_fn (vs := [(ptr (P.getD i default) 0)]) ok81 ⟨(ev_hit hN rfl), trivial⟩ (Ret.flip (leafLI hxa oa)) ?_
  rintro _ _ ⟨rfl, rfl⟩
  refine op_move (ev_hit hN rfl) ?_
  refine g_true (j := 2) (dj := 107) (b := true) rfl rfl rfl (ev_hit hN rfl) ?_
  refine op_move (ev_base hN rfl s2) ?_
  refine op_pick_t (ev_hit hN rfl) (ev_hit hN rfl) ?_
  refine op_assign (ev_hit hN rfl) ?_
  refine reg_nil ?_
  refine hK3756 _ _ ?_
  refine wp_cond_false (ev_hit hN rfl) ?_
  refine seq_any fun K3757 hK3757 => ?_
  refine one_reg ?_
  refine op_move (ev_hit hN rfl) ?_
  refine op_fn (vs := [(ptr (P.getD i default) 0)]) ok81 ⟨(ev_hit hN rfl), trivial⟩ (Ret.flip (leafLI hxa oa)) ?_
  rintro _ _ ⟨rfl, rfl⟩
  refine op_assign (ev_hit hN rfl) ?_
  refine reg_nil ?_
  refine hK3757 _ _ ?_
  refine wp_cond_true (ev_hit hN rfl) ?_
  refine seq_any fun K3758 hK3758 => ?_
  refine one_reg ?_
  refine op_move (ev_hit hN rfl) ?_
  refine op_nil (ev_hit hN rfl) ?_
  refine op_field fld115_0 (ev_hit hN rfl) ?_
  refine op_load1 (v := av) one48 (ev_hit hN rfl) (hxa.cell rfl) ?_
  refine op_len_rd Try.underlying48 (ev_hit hN rfl) oa.rdw ?_
  refine op_sub (r := ((Da.length - 1 : Nat) : Int)) (ev_hit hN rfl) rfl ((sub64 (by omega)).trans (by omega)) ?_
  refine op_assign (ev_hit hN rfl) ?_
  refine reg_nil ?_
  refine hK3758 _ _ ?_
  refine seq_any fun K3759 hK3759 => ?_
  obtain ⟨b3760, o3761, _, hAt3762⟩ := oa.atV (i := (Da.length - 1)) (by omega)
  refine reg_split (hd := [_, _, _, _, _, _, _, _, _, _, _, _, _, _, _, _, _, _, _, _, _, _, _, _]) (tl := _) 24 mixed (by kernel_rfl) rfl rfl ?_
  refine any_envk (φ := phiV [(fun uz => uz = (ptr (P.getD i default) 0)), (fun uz => uz = (ptr (P.getD (i + 1) default) 0)), (fun uz => uz = (ptr (P.getD i default) 0)), (fun uz => uz = (ptr (P.getD i default) 0)), (fun uz => uz = (ptr (P.getD i default) 0)), (fun uz => uz = av), (fun uz => uz = (Value.int .i64 ((Da.length - 1 : Nat) : Int))), (fun uz => uz = (hiV av (Da.length - 1))), (fun uz => uz = (ptr (P.getD (i + 1) default) 0)), (fun uz => uz = (ptr (P.getD (i + 1) default) 0)), (fun uz => uz = (ptr (P.getD (i + 1) default) 0)), (fun uz => uz = bv), (fun uz => uz = (ptr (P.getD i default) 0)), (fun uz => uz = (ptr (P.getD i default) 0)), (fun uz => uz = (ptr (P.getD i default) 0)), (fun uz => uz = av), (fun uz => uz = (Value.int .i64 ((Da.length - 1 : Nat) : Int))), (fun uz => uz = (ptr b3760 o3761)), (fun uz => uz = (Value.agg #[(Da.getD (Da.length - 1) default).1, (Value.int .i64 (Da.getD (Da.length - 1) default).2.2)])), (fun _ => True), (fun _ => True), (fun uz => uz = (ptr (P.getD i default) 0)), (fun uz => uz = (ptr (P.getD i default) 0)), (fun _ => True)]) (G := fun c9 w' => c9 ≤ 2 → (Own w' 0 51 2 av Da.length (Da.flatMap cI) ∧ Bx w' (P.getD i default) 115 [av, (Value.slice none 0 0), (Value.slice none 0 0)] ∧ Bx w' (P.getD (i + 1) default) 115 [bv, (Value.slice none 0 0), (Value.slice none 0 0)])) [19, 20, 23] (by kernel_rfl) (by kernel_rfl) (by kernel_rfl) (by kernel_rfl) hN (fun _ w1 w2 E h hc9 => by have h := h hc9; obtain ⟨h0, h1, h2⟩ := h; exact ⟨h0.keep0 E, h1.keep0 E, h2.keep0 E⟩) (fun _ => ⟨oa, hxa, hxb⟩) (ObKs.cons ?_ (ObKs.cons ?_ (ObKs.cons ?_ (ObKs.cons ?_ (ObKs.cons ?_ (ObKs.cons ?_ (ObKs.cons ?_ (ObKs.cons ?_ (ObKs.cons ?_ (ObKs.cons ?_ (ObKs.cons ?_ (ObKs.cons ?_ (ObKs.cons ?_ (ObKs.cons ?_ (ObKs.cons ?_ (ObKs.cons ?_ (ObKs.cons ?_ (ObKs.cons ?_ (ObKs.cons ?_ (ObKs.pass rfl (ObKs.pass rfl (ObKs.cons ?_ (ObKs.cons ?_ (ObKs.pass rfl (ObKs.nil))))))))))))))))))))))))) (by simp only [putsL_defers]) ?_
  ·
   intro eA aA wA hNA hckA hGA hbsA hdpA
   have qA_7 := (hbsA 7 rfl).trans (sl_hit hN rfl)
   refine op_move (ev_base hNA rfl qA_7) ?_
   exact obK_end rfl rfl rfl
  ·
   intro eA aA wA hNA hckA hGA hbsA hdpA
   have qA_8 := (hbsA 8 rfl).trans (sl_hit hN rfl)
   refine op_move (ev_base hNA rfl qA_8) ?_
   exact obK_end rfl rfl rfl
  ·
   intro eA aA wA hNA hckA hGA hbsA hdpA
   have qA_7 := (hbsA 7 rfl).trans (sl_hit hN rfl)
   refine op_move (ev_base hNA rfl qA_7) ?_
   exact obK_end rfl rfl rfl
  ·
   intro eA aA wA hNA hckA hGA hbsA hdpA
   have qA_157 : Sl aA 157 (ptr (P.getD i default) 0) := (hdpA 2 _ 157 (by kernel_rfl) rfl rfl).2 rfl
   refine op_nil (ev_base hNA rfl qA_157) ?_
   exact obK_end rfl rfl rfl
  ·
   intro eA aA wA hNA hckA hGA hbsA hdpA
   have qA_158 : Sl aA 158 (ptr (P.getD i default) 0) := (hdpA 3 _ 158 (by kernel_rfl) rfl rfl).2 rfl
   refine op_field fld115_0 (ev_base hNA rfl qA_158) ?_
   exact obK_end rfl rfl rfl
  ·
   intro eA aA wA hNA hckA hGA hbsA hdpA
   have qA_159 : Sl aA 159 (ptr (P.getD i default) 0) := (hdpA 4 _ 159 (by kernel_rfl) rfl rfl).2 rfl
   have hGA := hGA (hckA 2 23 rfl (by kernel_rfl))
   obtain ⟨oa, hxa, hxb⟩ := hGA
   refine op_load1 (v := av) one48 (ev_base hNA rfl qA_159) (hxa.cell rfl) ?_
   exact obK_end rfl rfl rfl
  ·
   intro eA aA wA hNA hckA hGA hbsA hdpA
   have qA_10 := (hbsA 10 rfl).trans (sl_hit hN rfl)
   refine op_move (ev_base hNA rfl qA_10) ?_
   exact obK_end rfl rfl rfl
  ·
   intro eA aA wA hNA hckA hGA hbsA hdpA
   have qA_160 : Sl aA 160 av := (hdpA 5 _ 160 (by kernel_rfl) rfl rfl).2 rfl
   have qA_161 : Sl aA 161 (Value.int .i64 ((Da.length - 1 : Nat) : Int)) := (hdpA 6 _ 161 (by kernel_rfl) rfl rfl).2 rfl
   refine op_slice_hiC (m := (Da.length - 1)) slt48 (ev_base hNA rfl qA_160) hca3 (ev_base hNA rfl qA_161) (by omega) (by omega) ?_
   exact obK_end rfl rfl rfl
  ·
   intro eA aA wA hNA hckA hGA hbsA hdpA
   have qA_8 := (hbsA 8 rfl).trans (sl_hit hN rfl)
   refine op_move (ev_base hNA rfl qA_8) ?_
   exact obK_end rfl rfl rfl
  ·
   intro eA aA wA hNA hckA hGA hbsA hdpA
   have qA_163 : Sl aA 163 (ptr (P.getD (i + 1) default) 0) := (hdpA 8 _ 163 (by kernel_rfl) rfl rfl).2 rfl
   refine op_nil (ev_base hNA rfl qA_163) ?_
   exact obK_end rfl rfl rfl
  ·
   intro eA aA wA hNA hckA hGA hbsA hdpA
   have qA_164 : Sl aA 164 (ptr (P.getD (i + 1) default) 0) := (hdpA 9 _ 164 (by kernel_rfl) rfl rfl).2 rfl
   refine op_field fld115_0 (ev_base hNA rfl qA_164) ?_
   exact obK_end rfl rfl rfl
  ·
   intro eA aA wA hNA hckA hGA hbsA hdpA
   have qA_165 : Sl aA 165 (ptr (P.getD (i + 1) default) 0) := (hdpA 10 _ 165 (by kernel_rfl) rfl rfl).2 rfl
   have hGA := hGA (hckA 2 23 rfl (by kernel_rfl))
   obtain ⟨oa, hxa, hxb⟩ := hGA
   refine op_load1 (v := bv) one48 (ev_base hNA rfl qA_165) (hxb.cell rfl) ?_
   exact obK_end rfl rfl rfl
  ·
   intro eA aA wA hNA hckA hGA hbsA hdpA
   have qA_7 := (hbsA 7 rfl).trans (sl_hit hN rfl)
   refine op_move (ev_base hNA rfl qA_7) ?_
   exact obK_end rfl rfl rfl
  ·
   intro eA aA wA hNA hckA hGA hbsA hdpA
   have qA_167 : Sl aA 167 (ptr (P.getD i default) 0) := (hdpA 12 _ 167 (by kernel_rfl) rfl rfl).2 rfl
   refine op_nil (ev_base hNA rfl qA_167) ?_
   exact obK_end rfl rfl rfl
  ·
   intro eA aA wA hNA hckA hGA hbsA hdpA
   have qA_168 : Sl aA 168 (ptr (P.getD i default) 0) := (hdpA 13 _ 168 (by kernel_rfl) rfl rfl).2 rfl
   refine op_field fld115_0 (ev_base hNA rfl qA_168) ?_
   exact obK_end rfl rfl rfl
  ·
   intro eA aA wA hNA hckA hGA hbsA hdpA
   have qA_169 : Sl aA 169 (ptr (P.getD i default) 0) := (hdpA 14 _ 169 (by kernel_rfl) rfl rfl).2 rfl
   have hGA := hGA (hckA 2 23 rfl (by kernel_rfl))
   obtain ⟨oa, hxa, hxb⟩ := hGA
   refine op_load1 (v := av) one48 (ev_base hNA rfl qA_169) (hxa.cell rfl) ?_
   exact obK_end rfl rfl rfl
  ·
   intro eA aA wA hNA hckA hGA hbsA hdpA
   have qA_10 := (hbsA 10 rfl).trans (sl_hit hN rfl)
   refine op_move (ev_base hNA rfl qA_10) ?_
   exact obK_end rfl rfl rfl
  ·
   intro eA aA wA hNA hckA hGA hbsA hdpA
   have qA_170 : Sl aA 170 av := (hdpA 15 _ 170 (by kernel_rfl) rfl rfl).2 rfl
   have qA_171 : Sl aA 171 (Value.int .i64 ((Da.length - 1 : Nat) : Int)) := (hdpA 16 _ 171 (by kernel_rfl) rfl rfl).2 rfl
   refine op_index_at (i := (Da.length - 1)) slt48 (ev_base hNA rfl qA_170) oa (ev_base hNA rfl qA_171) (by omega) (by omega) hAt3762 ?_
   exact obK_end rfl rfl rfl
  ·
   intro eA aA wA hNA hckA hGA hbsA hdpA
   have qA_172 : Sl aA 172 (ptr b3760 o3761) := (hdpA 17 _ 172 (by kernel_rfl) rfl rfl).2 rfl
   have hGA := hGA (hckA 2 23 rfl (by kernel_rfl))
   obtain ⟨oa, hxa, hxb⟩ := hGA
   refine op_loadA (cs := [(Da.getD (Da.length - 1) default).1, (Value.int .i64 (Da.getD (Da.length - 1) default).2.2)]) agg51 rfl (ev_base hNA rfl qA_172) (fun j u hu => oa.cellAt hAt3762 j u (el_pI (e := (((Da.length - 1) : Nat) : Int)) (i := (Da.length - 1)) rfl (by omega) j u hu)) ?_
   exact obK_end rfl rfl rfl
  ·
   intro eA aA wA hNA hckA hGA hbsA hdpA
   have qA_155 : Sl aA 155 (ptr (P.getD i default) 0) := (hdpA 0 _ 155 (by kernel_rfl) rfl rfl).2 rfl
   refine op_nil (ev_base hNA rfl qA_155) ?_
   exact obK_end rfl rfl rfl
  ·
   intro eA aA wA hNA hckA hGA hbsA hdpA
   have qA_176 : Sl aA 176 (ptr (P.getD i default) 0) := (hdpA 21 _ 176 (by kernel_rfl) rfl rfl).2 rfl
   refine op_field fld115_0 (ev_base hNA rfl qA_176) ?_
   exact obK_end rfl rfl rfl
  ·
   intro w3763 E3763 _ a3763 hN3763 hbs3763 hdp3763 o_ ho_; obtain rfl := Option.some.inj ho_
   have z_w3763 := E3763.size
   have hx := hx.keep0 E3763
   have ok := ok.keep0 E3763
   have oc := oc.keep0 E3763
   have ks : ∀ x9 ∈ K, Own w3763 0 5 1 x9.1 x9.2.length (x9.2.map u8v) := fun x9 hx9 => (ks x9 hx9).keep0 E3763
   have hxa := hxa.keep0 E3763
   have hxb := hxb.keep0 E3763
   have oa := oa.keep0 E3763
   have ob := ob.keep0 E3763
   have kas : ∀ x9 ∈ (Da.map pk), Own w3763 0 5 1 x9.1 x9.2.length (x9.2.map u8v) := fun x9 hx9 => (kas x9 hx9).keep0 E3763
   have kbs : ∀ x9 ∈ (Db.map pk), Own w3763 0 5 1 x9.1 x9.2.length (x9.2.map u8v) := fun x9 hx9 => (kbs x9 hx9).keep0 E3763
   have hr := hr.keepG (Gr.of0 E3763 NoB) (fun _ _ h => h) (NoK.no _)
   have hb := hb.step0 E3763
   have q3763_173 : Sl a3763 173 (Value.agg #[(Da.getD (Da.length - 1) default).1, (Value.int .i64 (Da.getD (Da.length - 1) default).2.2)]) := (hdp3763 18 _ 173 (by kernel_rfl) rfl rfl).2 rfl
   refine op_bslice (e := 51) (pv := [(0, (Value.agg #[(Da.getD (Da.length - 1) default).1, (Value.int .i64 (Da.getD (Da.length - 1) default).2.2)]))]) (cs := [(Da.getD (Da.length - 1) default).1, (Value.int .i64 (Da.getD (Da.length - 1) default).2.2)]) ⟨rfl, (ev_base hN3763 rfl q3763_173), trivial⟩ (by kernel_rfl) ?_
   intro w3764 b3765 lo_b3765 hi_b3765 hB3767 E3766
   have dj3768 : ¬ G0 b3765 := fun hf => by have := (hr.lt _ hf).2; omega
   have ne_b3765_av : av.ownBlock ≠ some b3765 := fun hh => by have := (oa.lt _ hh).2; omega
   have ne_b3765_bv : bv.ownBlock ≠ some b3765 := fun hh => by have := (ob.lt _ hh).2; omega
   have z_w3764 := E3766.size
   have hx := hx.keep0 E3766
   have ok := ok.keep0 E3766
   have oc := oc.keep0 E3766
   have ks : ∀ x9 ∈ K, Own w3764 0 5 1 x9.1 x9.2.length (x9.2.map u8v) := fun x9 hx9 => (ks x9 hx9).keep0 E3766
   have hxa := hxa.keep0 E3766
   have hxb := hxb.keep0 E3766
   have oa := oa.keep0 E3766
   have ob := ob.keep0 E3766
   have kas : ∀ x9 ∈ (Da.map pk), Own w3764 0 5 1 x9.1 x9.2.length (x9.2.map u8v) := fun x9 hx9 => (kas x9 hx9).keep0 E3766
   have kbs : ∀ x9 ∈ (Db.map pk), Own w3764 0 5 1 x9.1 x9.2.length (x9.2.map u8v) := fun x9 hx9 => (kbs x9 hx9).keep0 E3766
   have hr := hr.keepG (Gr.of0 E3766 NoB) (fun _ _ h => h) (NoK.no _)
   have hb := hb.step0 E3766
   refine kk_end rfl (by decide) rfl (fun _ => ⟨oa, hxa, hxb⟩) ?_
   intro w3769 E3769 _ a3769 hN3769 hbs3769 hdp3769 o_ ho_; obtain rfl := Option.some.inj ho_
   have z_w3769 := E3769.size
   have hx := hx.keep0 E3769
   have ok := ok.keep0 E3769
   have oc := oc.keep0 E3769
   have ks : ∀ x9 ∈ K, Own w3769 0 5 1 x9.1 x9.2.length (x9.2.map u8v) := fun x9 hx9 => (ks x9 hx9).keep0 E3769
   have hxa := hxa.keep0 E3769
   have hxb := hxb.keep0 E3769
   have oa := oa.keep0 E3769
   have ob := ob.keep0 E3769
   have kas : ∀ x9 ∈ (Da.map pk), Own w3769 0 5 1 x9.1 x9.2.length (x9.2.map u8v) := fun x9 hx9 => (kas x9 hx9).keep0 E3769
   have kbs : ∀ x9 ∈ (Db.map pk), Own w3769 0 5 1 x9.1 x9.2.length (x9.2.map u8v) := fun x9 hx9 => (kbs x9 hx9).keep0 E3769
   have hr := hr.keepG (Gr.of0 E3769 NoB) (fun _ _ h => h) (NoK.no _)
   have hB3767 := hB3767.keep0 E3769
   have hb := hb.step0 E3769
   have q3769_166 : Sl a3769 166 bv := (hdp3769 11 _ 166 (by kernel_rfl) rfl rfl).2 rfl
   have q3769_174 : Sl a3769 174 (Value.slice (some ⟨b3765, 0, none⟩) 1 1) := (Option.some.inj ((hdp3769 19 _ 174 (by kernel_rfl) rfl rfl).1 0 rfl)).symm
   refine op_fn (vs := [bv, (Value.int .i64 0), (Value.slice (some ⟨b3765, 0, none⟩) 1 1)]) ok83 ⟨(ev_base hN3769 rfl q3769_166), ⟨rfl, ⟨(ev_base hN3769 rfl q3769_174), trivial⟩⟩⟩ (InsI ob hB3767 (one_pI kbs (fun _ h => h)) (by simp only [List.all_cons, List.all_nil, Bool.true_and, Bool.and_true, (own_one (show Own _ _ _ _ (Da.getD (Da.length - 1) default).1 _ _ from kas (pk (Da.getD (Da.length - 1) default)) (List.mem_map.2 ⟨(Da.getD (Da.length - 1) default), (getD_mem (by first | omega | (simp only [List.length_drop, List.length_take]; omega))), rfl⟩)))]; try rfl) (by first | omega | (simp only [List.length_insertIdx, List.length_set, List.length_drop, List.length_take]; omega) | (simp; omega)) (by first | omega | (simp only [List.length_insertIdx, List.length_set, List.length_drop, List.length_take]; omega) | (simp; omega)) ne_b3765_bv) ?_
   rintro v3770 w3771 ⟨E3772, hO3770, hm3770⟩
   have dj3773 : DJ av v3770 := DJ.step hm3770 (fun k hk => (oa.lt k hk).2) djab
   have dj3774 : Dj G0 (Bl v3770) := Dj.step hm3770 (fun k hk => (hr.lt k hk).2) djbG.symm
   have hin3775 := inF_step (n := w.heap.size) hm3770 (by omega) (fun k _ h => hNd.wg k (hgs k (hB.wv k h)))
   have z_w3771 := E3772.size
   have hx := hx.keepO ob E3772 (by decide)
   have ok := ok.keepT ob E3772 (by decide)
   have oc := oc.keepT ob E3772 (by decide)
   have ks : ∀ x9 ∈ K, Own w3771 0 5 1 x9.1 x9.2.length (x9.2.map u8v) := fun x9 hx9 => (ks x9 hx9).keepT ob E3772 (by decide)
   have hxa := hxa.keepO ob E3772 (by decide)
   have hxb := hxb.keepO ob E3772 (by decide)
   have oa := oa.keepD E3772 djab
   have kas : ∀ x9 ∈ (Da.map pk), Own w3771 0 5 1 x9.1 x9.2.length (x9.2.map u8v) := fun x9 hx9 => (kas x9 hx9).keepT ob E3772 (by decide)
   have kbs : ∀ x9 ∈ (Db.map pk), Own w3771 0 5 1 x9.1 x9.2.length (x9.2.map u8v) := fun x9 hx9 => (kbs x9 hx9).keepT ob E3772 (by decide)
   have hr := hr.keepG (Gr.of E3772) djbG.symm (NoK.ofOwn ob (by decide))
   have hB3767 := hB3767.keep E3772 (fun hh => ne_b3765_bv hh.symm)
   have hb := hb.stepL E3772 (fun k _ h => hNd.wg k (hgs k (hB.wv k h)))
   have hO3770 : Own w3771 0 51 2 v3770 (Db.insertIdx 0 ((Da.getD (Da.length - 1) default).1, (Da.getD (Da.length - 1) default).2.1, (Da.getD (Da.length - 1) default).2.2)).length ((Db.insertIdx 0 ((Da.getD (Da.length - 1) default).1, (Da.getD (Da.length - 1) default).2.1, (Da.getD (Da.length - 1) default).2.2)).flatMap cI) := hO3770.cast (by rw [List.length_insertIdx, if_pos (by first | omega | (simp only [List.length_insertIdx, List.length_set, List.length_drop, List.length_take]; omega) | (simp; omega))]) (flat_ins cI_len ((Da.getD (Da.length - 1) default).1, (Da.getD (Da.length - 1) default).2.1, (Da.getD (Da.length - 1) default).2.2) (by first | omega | (simp only [List.length_insertIdx, List.length_set, List.length_drop, List.length_take]; omega) | (simp; omega)))
   refine kk_end rfl (by decide) rfl (fun _ => ⟨oa, hxa, hxb⟩) ?_
   intro w3776 E3776 _ a3776 hN3776 hbs3776 hdp3776 o_ ho_; obtain rfl := Option.some.inj ho_
   have z_w3776 := E3776.size
   have hx := hx.keep0 E3776
   have ok := ok.keep0 E3776
   have oc := oc.keep0 E3776
   have ks : ∀ x9 ∈ K, Own w3776 0 5 1 x9.1 x9.2.length (x9.2.map u8v) := fun x9 hx9 => (ks x9 hx9).keep0 E3776
   have hxa := hxa.keep0 E3776
   have hxb := hxb.keep0 E3776
   have oa := oa.keep0 E3776
   have kas : ∀ x9 ∈ (Da.map pk), Own w3776 0 5 1 x9.1 x9.2.length (x9.2.map u8v) := fun x9 hx9 => (kas x9 hx9).keep0 E3776
   have kbs : ∀ x9 ∈ (Db.map pk), Own w3776 0 5 1 x9.1 x9.2.length (x9.2.map u8v) := fun x9 hx9 => (kbs x9 hx9).keep0 E3776
   have hr := hr.keepG (Gr.of0 E3776 NoB) (fun _ _ h => h) (NoK.no _)
   have hB3767 := hB3767.keep0 E3776
   have hO3770 := hO3770.keep0 E3776
   have hb := hb.step0 E3776
   have q3776_177 : Sl a3776 177 (ptr (P.getD i default) 0) := (hdp3776 22 _ 177 (by kernel_rfl) rfl rfl).2 rfl
   have q3776_162 : Sl a3776 162 (hiV av (Da.length - 1)) := (hdp3776 7 _ 162 (by kernel_rfl) rfl rfl).2 rfl
   have hxa_old := hxa
   refine op_store (vs := [(hiV av (Da.length - 1))]) (cs' := [(hiV av (Da.length - 1)), (Value.slice none 0 0), (Value.slice none 0 0)]) size48 (ev_base hN3776 rfl q3776_177) (ev_base hN3776 rfl q3776_162) (own_cl (oa.hiCut (k := (Da.length - 1)) (by omega))) rfl (by simp only [List.all_cons, List.all_nil, Bool.true_and, Bool.and_true, (own_one (oa.hiCut (k := (Da.length - 1)) (by omega)))]; try rfl) hxa (Nat.le_of_ble_eq_true rfl) rfl ?_
   intro w3779 hxa E3780
   have z_w3779 := E3780.size
   have hx := hx.keep E3780 (by simp only [ne_eq, Option.some.injEq]; omega)
   have ok := ok.keepX hxa_old E3780 (by decide)
   have oc := oc.keepX hxa_old E3780 (by decide)
   have ks : ∀ x9 ∈ K, Own w3779 0 5 1 x9.1 x9.2.length (x9.2.map u8v) := fun x9 hx9 => (ks x9 hx9).keepX hxa_old E3780 (by decide)
   have hxb := hxb.keep E3780 (by simp only [ne_eq, Option.some.injEq]; omega)
   have oa := oa.keepX hxa_old E3780 (by decide)
   have kas : ∀ x9 ∈ (Da.map pk), Own w3779 0 5 1 x9.1 x9.2.length (x9.2.map u8v) := fun x9 hx9 => (kas x9 hx9).keepX hxa_old E3780 (by decide)
   have kbs : ∀ x9 ∈ (Db.map pk), Own w3779 0 5 1 x9.1 x9.2.length (x9.2.map u8v) := fun x9 hx9 => (kbs x9 hx9).keepX hxa_old E3780 (by decide)
   have hr := hr.keepG (Gr.of E3780) (Dj.one djpaG) (NoK.ofBx hxa_old (by decide))
   have hB3767 := hB3767.keep E3780 (fun hh => hB3767.ne hxa_old (by decide) (Option.some.inj hh))
   have hO3770 := hO3770.keepX hxa_old E3780 (by decide)
   have hb := hb.stepB E3780 (hNd.wg _ (hfs _ hA.wp))
   refine kk_end0 rfl (fun h => absurd h (by simp)) ?_
   intro w3781 E3781 a3781 hN3781 hd3781 hbs3781 hph3781
   have hd3781 := hd3781.trans ((by simp only [putsL_defers] : _ = _).trans hd)
   have z_w3781 := E3781.size
   have hx := hx.keep0 E3781
   have ok := ok.keep0 E3781
   have oc := oc.keep0 E3781
   have ks : ∀ x9 ∈ K, Own w3781 0 5 1 x9.1 x9.2.length (x9.2.map u8v) := fun x9 hx9 => (ks x9 hx9).keep0 E3781
   have hxb := hxb.keep0 E3781
   have oa := oa.keep0 E3781
   have kas : ∀ x9 ∈ (Da.map pk), Own w3781 0 5 1 x9.1 x9.2.length (x9.2.map u8v) := fun x9 hx9 => (kas x9 hx9).keep0 E3781
   have kbs : ∀ x9 ∈ (Db.map pk), Own w3781 0 5 1 x9.1 x9.2.length (x9.2.map u8v) := fun x9 hx9 => (kbs x9 hx9).keep0 E3781
   have hr := hr.keepG (Gr.of0 E3781 NoB) (fun _ _ h => h) (NoK.no _)
   have hB3767 := hB3767.keep0 E3781
   have hO3770 := hO3770.keep0 E3781
   have hxa := hxa.keep0 E3781
   have hb := hb.step0 E3781
   have s3781_0 := (hbs3781 0 rfl).trans (sl_base hN rfl s0)
   have s3781_1 := (hbs3781 1 rfl).trans (sl_base hN rfl s1)
   have s3781_6 := (hbs3781 6 rfl).trans (sl_hit hN rfl)
   have s3781_8 := (hbs3781 8 rfl).trans (sl_hit hN rfl)
   have s3781_156 : Sl a3781 156 (ptr (P.getD (i + 1) default) 0) := (hph3781 1 _ 156 rfl rfl).2 rfl
   have s3781_175 : Sl a3781 175 v3770 := (Option.some.inj ((hph3781 20 _ 175 rfl rfl).1 1 rfl)).symm
   refine split_end ?_
   refine from_seq (tl := [_, _, _]) (by decide) (by kernel_rfl) rfl ?_
   refine op_nil (ev_base hN3781 rfl s3781_156) ?_
   refine op_field fld115_0 (ev_hit hN3781 rfl) ?_
   have hxb_old := hxb
   refine op_store (vs := [v3770]) (cs' := [v3770, (Value.slice none 0 0), (Value.slice none 0 0)]) size48 (ev_hit hN3781 rfl) (ev_base hN3781 rfl s3781_175) hO3770.cl rfl (by simp only [List.all_cons, List.all_nil, Bool.true_and, Bool.and_true, hO3770.one]; try rfl) hxb (Nat.le_of_ble_eq_true rfl) rfl ?_
   intro w3784 hxb E3785
   have z_w3784 := E3785.size
   have hx := hx.keep E3785 (by simp only [ne_eq, Option.some.injEq]; omega)
   have ok := ok.keepX hxb_old E3785 (by decide)
   have oc := oc.keepX hxb_old E3785 (by decide)
   have ks : ∀ x9 ∈ K, Own w3784 0 5 1 x9.1 x9.2.length (x9.2.map u8v) := fun x9 hx9 => (ks x9 hx9).keepX hxb_old E3785 (by decide)
   have oa := oa.keepX hxb_old E3785 (by decide)
   have kas : ∀ x9 ∈ (Da.map pk), Own w3784 0 5 1 x9.1 x9.2.length (x9.2.map u8v) := fun x9 hx9 => (kas x9 hx9).keepX hxb_old E3785 (by decide)
   have kbs : ∀ x9 ∈ (Db.map pk), Own w3784 0 5 1 x9.1 x9.2.length (x9.2.map u8v) := fun x9 hx9 => (kbs x9 hx9).keepX hxb_old E3785 (by decide)
   have hr := hr.keepG (Gr.of E3785) (Dj.one djpbG) (NoK.ofBx hxb_old (by decide))
   have hB3767 := hB3767.keep E3785 (fun hh => hB3767.ne hxb_old (by decide) (Option.some.inj hh))
   have hO3770 := hO3770.keepX hxb_old E3785 (by decide)
   have hxa := hxa.keep E3785 (by simp only [ne_eq, Option.some.injEq]; omega)
   have hb := hb.stepB E3785 (hNd.wg _ (hgs _ hB.wp))
   refine reg_nil ?_
   refine hK3759 _ _ ?_
   have hl_i : (Db.insertIdx 0 ((Da.getD (Da.length - 1) default).1, (Da.getD (Da.length - 1) default).2.1, (Da.getD (Da.length - 1) default).2.2)).length = Db.length + 1 := by rw [List.length_insertIdx, if_pos (Nat.zero_le _)]
   have ks3786 : ∀ x9 ∈ ((Db.insertIdx 0 ((Da.getD (Da.length - 1) default).1, (Da.getD (Da.length - 1) default).2.1, (Da.getD (Da.length - 1) default).2.2)).map pk), Own w3784 0 5 1 x9.1 x9.2.length (x9.2.map u8v) := (ks_ins kbs (kas _ (ks_mem (i := (Da.length - 1)) (by omega))) (Nat.zero_le _))
   have dj3788 : Dj G0 (Bl (hiV av (Da.length - 1))) := fun k hk hg => djaG.symm k hk ((hiV_ob av (Da.length - 1)).symm.trans hg)
   have dj3789 : DJ v3770 (hiV av (Da.length - 1)) := fun k hk hg => dj3773.symm k hk ((hiV_ob av (Da.length - 1)).symm.trans hg)
   have hcv3787 : Own w3784 0 51 2 (hiV av (Da.length - 1)) (Da.take (Da.length - 1)).length ((Da.take (Da.length - 1)).flatMap cI) := (oa.hiCut (k := (Da.length - 1)) (by omega)).cast (by simp) (flat_take cI_len _ _)
   refine reg_from mixed ?_
   intro w3791 E3790
   have z_w3791 := E3790.size
   have hx := hx.keep0 E3790
   have ok := ok.keep0 E3790
   have oc := oc.keep0 E3790
   have ks : ∀ x9 ∈ K, Own w3791 0 5 1 x9.1 x9.2.length (x9.2.map u8v) := fun x9 hx9 => (ks x9 hx9).keep0 E3790
   have kas : ∀ x9 ∈ (Da.map pk), Own w3791 0 5 1 x9.1 x9.2.length (x9.2.map u8v) := fun x9 hx9 => (kas x9 hx9).keep0 E3790
   have kbs : ∀ x9 ∈ (Db.map pk), Own w3791 0 5 1 x9.1 x9.2.length (x9.2.map u8v) := fun x9 hx9 => (kbs x9 hx9).keep0 E3790
   have hr := hr.keepG (Gr.of0 E3790 NoB) (fun _ _ h => h) (NoK.no _)
   have hB3767 := hB3767.keep0 E3790
   have hO3770 := hO3770.keep0 E3790
   have hxa := hxa.keep0 E3790
   have hxb := hxb.keep0 E3790
   have ks3786 : ∀ x9 ∈ ((Db.insertIdx 0 ((Da.getD (Da.length - 1) default).1, (Da.getD (Da.length - 1) default).2.1, (Da.getD (Da.length - 1) default).2.2)).map pk), Own w3791 0 5 1 x9.1 x9.2.length (x9.2.map u8v) := fun x9 hx9 => (ks3786 x9 hx9).keep0 E3790
   have hcv3787 := hcv3787.keep0 E3790
   have hb := hb.step0 E3790
   refine from_still (m := 13) 13 (hd := [_, _, _, _, _, _, _, _, _, _, _, _, _]) (by kernel_rfl) rfl rfl ?_
   refine st_step rfl (fun _ h9 => op_move (ev_base hN3781 rfl s3781_0) h9) ?_
   refine st_step rfl (fun _ h9 => op_nil (ev_hit hN3781 rfl) h9) ?_
   refine st_step rfl (fun _ h9 => op_field fld115_1 (ev_hit hN3781 rfl) h9) ?_
   refine st_step rfl (fun _ h9 => op_load1 (v := kv) one90 (ev_hit hN3781 rfl) (hx.cell rfl) h9) ?_
   refine st_step rfl (fun _ h9 => op_move (ev_base hN3781 rfl s3781_1) h9) ?_
   refine st_step rfl (fun _ h9 => op_move (ev_base hN3781 rfl s3781_8) h9) ?_
   refine st_step rfl (fun _ h9 => op_nil (ev_hit hN3781 rfl) h9) ?_
   refine st_step rfl (fun _ h9 => op_field fld115_0 (ev_hit hN3781 rfl) h9) ?_
   refine st_step rfl (fun _ h9 => op_load1 (v := v3770) one48 (ev_hit hN3781 rfl) (hxb.cell rfl) h9) ?_
   refine st_index_rd slt48 (ev_hit hN3781 rfl) hO3770.rdw rfl (by omega) (by omega) ?_
   intro b3792 o3793 h0b3792 h1b3792 hc3794
   refine st_step rfl (fun _ h9 => op_field fld51_0 (ev_hit hN3781 rfl) h9) ?_
   refine st_step rfl (fun _ h9 => op_load1 (v := ((Db.insertIdx 0 ((Da.getD (Da.length - 1) default).1, (Da.getD (Da.length - 1) default).2.1, (Da.getD (Da.length - 1) default).2.2)).getD 0 default).1) one27 (ev_hit hN3781 rfl) (hc3794 0 (((Db.insertIdx 0 ((Da.getD (Da.length - 1) default).1, (Da.getD (Da.length - 1) default).2.1, (Da.getD (Da.length - 1) default).2.2)).getD 0 default).1) (by decide) ((el_pI (i := 0) (by omega) (by first | omega | (simp only [List.length_drop, List.length_take]; omega))) 0 (((Db.insertIdx 0 ((Da.getD (Da.length - 1) default).1, (Da.getD (Da.length - 1) default).2.1, (Da.getD (Da.length - 1) default).2.2)).getD 0 default).1) rfl)) h9) ?_
   refine st_index_own (i := i) slt90 (ev_hit hN3781 rfl) ok (ev_hit hN3781 rfl) (by omega) (by omega) ?_
   intro b3795 o3796 lo_b3795 hA3797
   have hA3797 : AtV kv (i) b3795 o3796 := by simpa using hA3797
   refine st_nil ?_
   refine from_seq (tl := [_]) (by decide) (by kernel_rfl) rfl ?_
   have hP3800 := ok
   refine op_store_own (vs := [((Db.insertIdx 0 ((Da.getD (Da.length - 1) default).1, (Da.getD (Da.length - 1) default).2.1, (Da.getD (Da.length - 1) default).2.2)).getD 0 default).1]) size27 (ev_hit hN3781 rfl) (ev_hit hN3781 rfl) (own_cl (show Own _ _ _ _ ((Db.insertIdx 0 ((Da.getD (Da.length - 1) default).1, (Da.getD (Da.length - 1) default).2.1, (Da.getD (Da.length - 1) default).2.2)).getD 0 default).1 _ _ from ks3786 (pk ((Db.insertIdx 0 ((Da.getD (Da.length - 1) default).1, (Da.getD (Da.length - 1) default).2.1, (Da.getD (Da.length - 1) default).2.2)).getD 0 default)) (List.mem_map.2 ⟨((Db.insertIdx 0 ((Da.getD (Da.length - 1) default).1, (Da.getD (Da.length - 1) default).2.1, (Da.getD (Da.length - 1) default).2.2)).getD 0 default), (getD_mem (by first | omega | (simp only [List.length_drop, List.length_take]; omega))), rfl⟩))) rfl (by simp only [List.all_cons, List.all_nil, Bool.true_and, Bool.and_true, (own_one (show Own _ _ _ _ ((Db.insertIdx 0 ((Da.getD (Da.length - 1) default).1, (Da.getD (Da.length - 1) default).2.1, (Da.getD (Da.length - 1) default).2.2)).getD 0 default).1 _ _ from ks3786 (pk ((Db.insertIdx 0 ((Da.getD (Da.length - 1) default).1, (Da.getD (Da.length - 1) default).2.1, (Da.getD (Da.length - 1) default).2.2)).getD 0 default)) (List.mem_map.2 ⟨((Db.insertIdx 0 ((Da.getD (Da.length - 1) default).1, (Da.getD (Da.length - 1) default).2.1, (Da.getD (Da.length - 1) default).2.2)).getD 0 default), (getD_mem (by first | omega | (simp only [List.length_drop, List.length_take]; omega))), rfl⟩)))]; try rfl) hP3800 hA3797 (by rw [hP3800.1]; simp only [List.length_cons, List.length_nil]; omega) ?_
   intro w3798 hO3801 E3799
   have z_w3798 := E3799.size
   have hx := hx.keepO hP3800 E3799 (by decide)
   have oc := oc.keepT hP3800 E3799 (by decide)
   have ks : ∀ x9 ∈ K, Own w3798 0 5 1 x9.1 x9.2.length (x9.2.map u8v) := fun x9 hx9 => (ks x9 hx9).keepT hP3800 E3799 (by decide)
   have kas : ∀ x9 ∈ (Da.map pk), Own w3798 0 5 1 x9.1 x9.2.length (x9.2.map u8v) := fun x9 hx9 => (kas x9 hx9).keepT hP3800 E3799 (by decide)
   have kbs : ∀ x9 ∈ (Db.map pk), Own w3798 0 5 1 x9.1 x9.2.length (x9.2.map u8v) := fun x9 hx9 => (kbs x9 hx9).keepT hP3800 E3799 (by decide)
   have hr := hr.keepG (Gr.of E3799) djkG.symm (NoK.ofOwn hP3800 (by decide))
   have hB3767 := hB3767.keepO hP3800 E3799 (by decide)
   have hO3770 := hO3770.keepT hP3800 E3799 (by decide)
   have hxa := hxa.keepO hP3800 E3799 (by decide)
   have hxb := hxb.keepO hP3800 E3799 (by decide)
   have ks3786 : ∀ x9 ∈ ((Db.insertIdx 0 ((Da.getD (Da.length - 1) default).1, (Da.getD (Da.length - 1) default).2.1, (Da.getD (Da.length - 1) default).2.2)).map pk), Own w3798 0 5 1 x9.1 x9.2.length (x9.2.map u8v) := fun x9 hx9 => (ks3786 x9 hx9).keepT hP3800 E3799 (by decide)
   have hcv3787 := hcv3787.keepT hP3800 E3799 (by decide)
   have hb := hb.stepL E3799 (fun k _ h => hNd.wk k h)
   have hO3801 : Own w3798 0 27 1 kv K.length (((K.set i (pk ((Db.insertIdx 0 ((Da.getD (Da.length - 1) default).1, (Da.getD (Da.length - 1) default).2.1, (Da.getD (Da.length - 1) default).2.2)).getD 0 default)))).flatMap cK) := by exact hO3801.cast rfl (set_K (d := pk ((Db.insertIdx 0 ((Da.getD (Da.length - 1) default).1, (Da.getD (Da.length - 1) default).2.1, (Da.getD (Da.length - 1) default).2.2)).getD 0 default)) (by omega))
   refine reg_nil ?_
   refine hK3755 _ _ ?_
   refine seq_any fun K3802 hK3802 => ?_
   refine one_reg ?_
   refine op_assign rfl ?_
   refine reg_nil ?_
   refine hK3802 _ _ ?_
   refine wp_ret ?_
   refine ret1 rfl hd3781 (ev_hit hN3781 rfl) ⟨_, rfl, ?_⟩
   -- path 32F
   have hT9 := mkNode (κ := kI) (K := (K.set i (pk ((Db.insertIdx 0 ((Da.getD (Da.length - 1) default).1, (Da.getD (Da.length - 1) default).2.1, (Da.getD (Da.length - 1) default).2.2)).getD 0 default)))) hx (hO3801.cast (by simp) rfl) oc (kks_set ks (ks3786 _ (ks_mem (D := (Db.insertIdx 0 ((Da.getD (Da.length - 1) default).1, (Da.getD (Da.length - 1) default).2.1, (Da.getD (Da.length - 1) default).2.2))) (i := 0) (by omega)))) (kks_set hNd.kr ((kr_ins (d := ((Da.getD (Da.length - 1) default).1, (Da.getD (Da.length - 1) default).2.1, (Da.getD (Da.length - 1) default).2.2)) hB.kr (hA.kr _ (ks_mem (i := (Da.length - 1)) (by omega))) (Nat.zero_le _)) _ (ks_mem (D := (Db.insertIdx 0 ((Da.getD (Da.length - 1) default).1, (Da.getD (Da.length - 1) default).2.1, (Da.getD (Da.length - 1) default).2.2))) (i := 0) (by omega)))) (Kids.back2 hr hPc (by omega) (mkLeaf (κ := kI) (D := (Da.take (Da.length - 1))) hxa hcv3787 (ks_sub kas (fun _ h => List.mem_of_mem_take h)) (ks_sub hA.kr (fun _ h => List.mem_of_mem_take h)) rfl) (mkLeaf (κ := kI) (D := (Db.insertIdx 0 ((Da.getD (Da.length - 1) default).1, (Da.getD (Da.length - 1) default).2.1, (Da.getD (Da.length - 1) default).2.2))) hxb hO3770 ks3786 (kr_ins (d := ((Da.getD (Da.length - 1) default).1, (Da.getD (Da.length - 1) default).2.1, (Da.getD (Da.length - 1) default).2.2)) hB.kr (hA.kr _ (ks_mem (i := (Da.length - 1)) (by omega))) (Nat.zero_le _)) rfl) (fun j h1 h2 => h1.elim (fun e1 => h2.elim (fun e2 => hab (e1.symm.trans e2)) (fun q => bx_own_ne hxa hO3770 (by decide) (e1 ▸ q))) (fun q => h2.elim (fun e2 => bx_own_ne hxb hcv3787 (by decide) (e2 ▸ q)) (fun q2 => dj3789.symm j q q2))) (fun j h1 h2 => h1.elim (fun e1 => djpaG (e1 ▸ h2)) (fun q => dj3788.symm j q h2)) (fun j h1 h2 => h1.elim (fun e1 => djpbG (e1 ▸ h2)) (fun q => dj3774.symm j q h2))) (fun h9 => h9.elim (fun h8 => h8.elim (fun e => hpa e) (fun q => bx_own_ne hx hcv3787 (by decide) q)) (fun h9 => h9.elim (fun h8 => h8.elim (fun e => hpb e) (fun q => bx_own_ne hx hO3770 (by decide) q)) (fun h => djpG h))) (fun j hj h9 => h9.elim (fun h8 => h8.elim (fun e => bx_own_ne hxa hO3801 (by decide) (e ▸ hj)) (fun q => own_own_dj hO3801 hcv3787 (by decide) j hj q)) (fun h9 => h9.elim (fun h8 => h8.elim (fun e => bx_own_ne hxb hO3801 (by decide) (e ▸ hj)) (fun q => own_own_dj hO3801 hO3770 (by decide) j hj q)) (fun h => djkG j hj h))) (fun j hj h9 => h9.elim (fun h8 => h8.elim (fun e => bx_own_ne hxa oc (by decide) (e ▸ hj)) (fun q => own_own_dj oc hcv3787 (by decide) j hj q)) (fun h9 => h9.elim (fun h8 => h8.elim (fun e => bx_own_ne hxb oc (by decide) (e ▸ hj)) (fun q => own_own_dj oc hO3770 (by decide) j hj q)) (fun h => djcG j hj h)))
   rw [lend_LR ha hb9 (by omega)]
   exact ⟨hb, rfl, _, hT9, (newF_in (nodeW_in (fun _ => hNd.wp) (fun k _ h => hNd.wk k h) (fun k _ h => hNd.wc k h) (fun j hj h9 => h9.elim (leafW_in (fun _ => hNd.wg _ (hfs _ hA.wp)) (fun k hk h => (fun k _ h => hNd.wg k (hfs k (hA.wv k h))) k hk ((hiV_ob av (Da.length - 1)).symm.trans h)) j hj) (fun h9 => h9.elim (leafW_in (fun _ => hNd.wg _ (hgs _ hB.wp)) hin3775 j hj) (fun q => hNd.wg j (hGs j q))))))⟩

end Go.Proofs.Ytcpfdfejojghbaa

/- Walks, written by a program: what each function of the translation hands back. -/
namespace Go.Proofs.Ytcpfdfejojghbaa
open Go.Gx Go.RowKit
attribute [local irreducible] wpList wpStill Code.wp Calls
open Go.Bt
theorem lendNL {i p : Nat} {R W G f g G0 : Nat → Prop} {kv cv : Value} {K : List DK} {P : List Nat} {w : World} (hNd : NodeR kI R w p kv cv K P G W) (hfg : Dj f g) (hfG : Dj f G0) (hgG : Dj g G0) (hfs : ∀ k, f k → G k) (hgs : ∀ k, g k → G k) (hGs : ∀ k, G0 k → G k) (hPl : P.length = K.length + 1) (hi : i < K.length) (hn : K.length ≤ 7) {h : Nat} {cs : List (Tr Int (h + 1))} {ta tb : List (Tr Int h)} {ka ca kb cb : Value} {Ka Kb : List DK} {Pa Pb : List Nat} {Ga Gb : Nat → Prop} (hA : NodeR kI R w (P.getD i default) ka ca Ka Pa Ga f) (hKa : KidsR kI R w h Pa ta Ga) (hB : NodeR kI R w (P.getD (i + 1) default) kb cb Kb Pb Gb g) (hKb : KidsR kI R w h Pb tb Gb) (hr : KidsR kI R w (h + 1) ((P.eraseIdx i).eraseIdx i) ((cs.eraseIdx i).eraseIdx i) G0) (hPc : P.length = cs.length) (ha : cs[i]? = some ((Ka.map Prod.snd, ta) : Tr Int (h + 1))) (hb9 : cs[i + 1]? = some ((Kb.map Prod.snd, tb) : Tr Int (h + 1))) (hla : ta.length = Ka.length + 1) (hlb : tb.length = Kb.length + 1) (hna : Ka.length ≤ 7) (hnb : Kb.length ≤ 7) (h3 : 3 < Kb.length) : Ret Try.prog 120 #[(ptr p 0), (Value.int .i64 ((i : Nat) : Int)), (Value.bool true)] w (fun v' w' => Gr w w' W ∧ v' = .bool true ∧ ∃ W', TreeR kI R w' (h + 1 + 1) p (lendT (h + 1) (K.map Prod.snd) cs i true) W' ∧ NewF w.heap.size W W') := by
 have h0 : 0 ≤ w.heap.size := Nat.zero_le _
 have hx : Bx w p 115 [.slice none 0 0, kv, cv] := hNd.bx
 have ok := hNd.ok
 have oc : Own w 0 69 1 cv P.length (P.flatMap cN) := hNd.oc
 have ks := hNd.ks
 have hi_p := hx.lt
 have djkG : Dj (Bl kv) G0 := hNd.nk.mono hGs
 have djcG : Dj (Bl cv) G0 := hNd.nc.mono hGs
 have djpG : ¬ G0 p := fun q => hNd.np (hGs p q)
 obtain ⟨G1, G2, hkq1, hkq2, d12, su1, su2⟩ := Kids.split hKb 1
 have hxa : Bx w (P.getD i default) 115 [.slice none 0 0, ka, ca] := hA.bx
 have oka := hA.ok
 have oca : Own w 0 69 1 ca Pa.length (Pa.flatMap cN) := hA.oc
 have kas := hA.ks
 have hxb : Bx w (P.getD (i + 1) default) 115 [.slice none 0 0, kb, cb] := hB.bx
 have okb := hB.ok
 have ocb : Own w 0 69 1 cb Pb.length (Pb.flatMap cN) := hB.oc
 have kbs := hB.ks
 have hi_a := hxa.lt
 have hi_b := hxb.lt
 have hPa : Pa.length = ta.length := hKa.len
 have hPb : Pb.length = tb.length := hKb.len
 have hab : (P.getD i default) ≠ (P.getD (i + 1) default) := fun e => hfg _ hA.wp (e ▸ hB.wp)
 have hpa : p ≠ (P.getD i default) := fun e => hNd.np (e ▸ hfs _ hA.wp)
 have hpb : p ≠ (P.getD (i + 1) default) := fun e => hNd.np (e ▸ hgs _ hB.wp)
 have dk3 : DJ kv ka := fun k h1 h2 => hNd.nk k h1 (hfs k (hA.wk k h2))
 have dk4 : DJ kv kb := fun k h1 h2 => hNd.nk k h1 (hgs k (hB.wk k h2))
 have dk5 : DJ cv ca := fun k h1 h2 => hNd.nc k h1 (hfs k (hA.wc k h2))
 have dk6 : DJ cv cb := fun k h1 h2 => hNd.nc k h1 (hgs k (hB.wc k h2))
 have dk7 : DJ ka kb := fun k h1 h2 => hfg k (hA.wk k h1) (hB.wk k h2)
 have dk8 : DJ ca cb := fun k h1 h2 => hfg k (hA.wc k h1) (hB.wc k h2)
 have dk9 : Dj (Bl ka) G0 := fun k h1 h2 => hfG k (hA.wk k h1) h2
 have dk10 : Dj (Bl ca) G0 := fun k h1 h2 => hfG k (hA.wc k h1) h2
 have dk11 : Dj (Bl kb) G0 := fun k h1 h2 => hgG k (hB.wk k h1) h2
 have dk12 : Dj (Bl cb) G0 := fun k h1 h2 => hgG k (hB.wc k h1) h2
 have dk13 : ¬ G0 (P.getD i default) := hfG _ hA.wp
 have dk14 : ¬ G0 (P.getD (i + 1) default) := hgG _ hB.wp
 have dk15 : Dj (Bl kv) Ga := hNd.nk.mono fun k q => hfs k (hA.wg k ((fun _ q => q) k q))
 have dk16 : Dj (Bl cv) Ga := hNd.nc.mono fun k q => hfs k (hA.wg k ((fun _ q => q) k q))
 have dk17 : ¬ Ga p := fun q => hNd.np (hfs _ (hA.wg _ ((fun _ q => q) _ q)))
 have dk18 : Dj (Bl ka) Ga := hA.nk.mono (fun _ q => q)
 have dk19 : Dj (Bl ca) Ga := hA.nc.mono (fun _ q => q)
 have dk20 : Dj (Bl kb) Ga := fun k h1 h2 => hfg k (hA.wg k ((fun _ q => q) k h2)) (hB.wk k h1)
 have dk21 : Dj (Bl cb) Ga := fun k h1 h2 => hfg k (hA.wg k ((fun _ q => q) k h2)) (hB.wc k h1)
 have dk22 : ¬ Ga (P.getD i default) := fun q => hA.np ((fun _ q => q) _ q)
 have dk23 : ¬ Ga (P.getD (i + 1) default) := fun q => hfg _ (hA.wg _ ((fun _ q => q) _ q)) hB.wp
 have dk24 : Dj Ga G0 := fun k h1 h2 => hfG k (hA.wg k ((fun _ q => q) k h1)) h2
 have dk25 : Dj (Bl kv) G1 := hNd.nk.mono fun k q => hgs k (hB.wg k (su1 k q))
 have dk26 : Dj (Bl cv) G1 := hNd.nc.mono fun k q => hgs k (hB.wg k (su1 k q))
 have dk27 : ¬ G1 p := fun q => hNd.np (hgs _ (hB.wg _ (su1 _ q)))
 have dk28 : Dj (Bl ka) G1 := fun k h1 h2 => hfg k (hA.wk k h1) (hB.wg k (su1 k h2))
 have dk29 : Dj (Bl ca) G1 := fun k h1 h2 => hfg k (hA.wc k h1) (hB.wg k (su1 k h2))
 have dk30 : Dj (Bl kb) G1 := hB.nk.mono su1
 have dk31 : Dj (Bl cb) G1 := hB.nc.mono su1
 have dk32 : ¬ G1 (P.getD i default) := fun q => hfg _ hA.wp (hB.wg _ (su1 _ q))
 have dk33 : ¬ G1 (P.getD (i + 1) default) := fun q => hB.np (su1 _ q)
 have dk34 : Dj G1 G0 := fun k h1 h2 => hgG k (hB.wg k (su1 k h1)) h2
 have dk35 : Dj (Bl kv) G2 := hNd.nk.mono fun k q => hgs k (hB.wg k (su2 k q))
 have dk36 : Dj (Bl cv) G2 := hNd.nc.mono fun k q => hgs k (hB.wg k (su2 k q))
 have dk37 : ¬ G2 p := fun q => hNd.np (hgs _ (hB.wg _ (su2 _ q)))
 have dk38 : Dj (Bl ka) G2 := fun k h1 h2 => hfg k (hA.wk k h1) (hB.wg k (su2 k h2))
 have dk39 : Dj (Bl ca) G2 := fun k h1 h2 => hfg k (hA.wc k h1) (hB.wg k (su2 k h2))
 have dk40 : Dj (Bl kb) G2 := hB.nk.mono su2
 have dk41 : Dj (Bl cb) G2 := hB.nc.mono su2
 have dk42 : ¬ G2 (P.getD i default) := fun q => hfg _ hA.wp (hB.wg _ (su2 _ q))
 have dk43 : ¬ G2 (P.getD (i + 1) default) := fun q => hB.np (su2 _ q)
 have dk44 : Dj G2 G0 := fun k h1 h2 => hgG k (hB.wg k (su2 k h1)) h2
 have dk45 : Dj Ga G1 := fun k h1 h2 => hfg k (hA.wg k ((fun _ q => q) k h1)) (hB.wg k (su1 k h2))
 have dk46 : Dj Ga G2 := fun k h1 h2 => hfg k (hA.wg k ((fun _ q => q) k h1)) (hB.wg k (su2 k h2))
 have hkq1 : KidsR kI R w h (Pb.take 1) (tb.take 1) G1 := hkq1
 have hkq2 : KidsR kI R w h (Pb.drop 1) (tb.drop 1) G2 := hkq2
 have hb := Gr.refl w W
 refine enter (N := 254) Try.func120 rfl rfl (by simp) fun a0 hN hd hA => ?_
 have s0 : a0.tmps.getD 0 undef = (ptr p 0) := hA 0 (by simp)
 have s1 : a0.tmps.getD 1 undef = (Value.int .i64 ((i : Nat) : Int)) := hA 1 (by simp)
 have s2 : a0.tmps.getD 2 undef = (Value.bool true) := hA 2 (by simp)
 clear hA
 refine seq_any fun K1 hK1 => ?_
 refine one_reg ?_
 refine op_assign rfl ?_
 refine reg_nil ?_
 refine hK1 _ _ ?_
 refine seq_any fun K2 hK2 => ?_
 refine reg_still mixed (by kernel_rfl) ?_
 intro w4 E3
 have z_w4 := E3.size
 have hx := hx.keep0 E3
 have ok := ok.keep0 E3
 have oc := oc.keep0 E3
 have ks : ∀ x9 ∈ K, Own w4 0 5 1 x9.1 x9.2.length (x9.2.map u8v) := fun x9 hx9 => (ks x9 hx9).keep0 E3
 have hxa := hxa.keep0 E3
 have hxb := hxb.keep0 E3
 have oka := oka.keep0 E3
 have okb := okb.keep0 E3
 have oca := oca.keep0 E3
 have ocb := ocb.keep0 E3
 have kas : ∀ x9 ∈ Ka, Own w4 0 5 1 x9.1 x9.2.length (x9.2.map u8v) := fun x9 hx9 => (kas x9 hx9).keep0 E3
 have kbs : ∀ x9 ∈ Kb, Own w4 0 5 1 x9.1 x9.2.length (x9.2.map u8v) := fun x9 hx9 => (kbs x9 hx9).keep0 E3
 have hr := hr.keepG (Gr.of0 E3 NoB) (fun _ _ h => h) (NoK.no _)
 have hKa := hKa.keepG (Gr.of0 E3 NoB) (fun _ _ h => h) (NoK.no _)
 have hkq1 := hkq1.keepG (Gr.of0 E3 NoB) (fun _ _ h => h) (NoK.no _)
 have hkq2 := hkq2.keepG (Gr.of0 E3 NoB) (fun _ _ h => h) (NoK.no _)
 have hb := hb.step0 E3
 refine st_step rfl (fun _ h9 => op_move (ev_base hN rfl s0) h9) ?_
 refine st_step rfl (fun _ h9 => op_nil (ev_hit hN rfl) h9) ?_
 refine st_step rfl (fun _ h9 => op_field fld115_2 (ev_hit hN rfl) h9) ?_
 refine st_step rfl (fun _ h9 => op_load1 (v := cv) one113 (ev_hit hN rfl) (hx.cell rfl) h9) ?_
 refine st_step rfl (fun _ h9 => op_move (ev_base hN rfl s1) h9) ?_
 refine st_index_rd slt113 (ev_hit hN rfl) oc.rdw (ev_hit hN rfl) (by omega) (by omega) ?_
 intro b5 o6 h0b5 h1b5 hc7
 refine st_step rfl (fun _ h9 => op_load1 (v := (ptr (P.getD i default) 0)) one69 (ev_hit hN rfl) (by have := hc7 0 (ptr (P.getD i default) 0) (by decide) (el_pn (i := i) (by omega) (by first | omega | (simp only [List.length_drop, List.length_take]; omega))); simpa using this) h9) ?_
 refine st_step rfl (fun _ h9 => op_move (ev_base hN rfl s0) h9) ?_
 refine st_step rfl (fun _ h9 => op_nil (ev_hit hN rfl) h9) ?_
 refine st_step rfl (fun _ h9 => op_field fld115_2 (ev_hit hN rfl) h9) ?_
 refine st_step rfl (fun _ h9 => op_load1 (v := cv) one113 (ev_hit hN rfl) (hx.cell rfl) h9) ?_
 refine st_step rfl (fun _ h9 => op_move (ev_base hN rfl s1) h9) ?_
 refine st_step rfl (fun _ h9 => op_add (ev_hit hN rfl) rfl (add64 (by omega)) h9) ?_
 refine st_index_rd slt113 (ev_hit hN rfl) oc.rdw (ev_hit hN rfl) (by omega) (by omega) ?_
 intro b8 o9 h0b8 h1b8 hc10
 refine st_step rfl (fun _ h9 => op_load1 (v := (ptr (P.getD (i + 1) default) 0)) one69 (ev_hit hN rfl) (by have := hc10 0 (ptr (P.getD (i + 1) default) 0) (by decide) (el_pn (i := (i + 1)) (by omega) (by first | omega | (simp only [List.length_drop, List.length_take]; omega))); simpa using this) h9) ?_
 refine st_step rfl (fun _ h9 => op_assign (ev_hit hN rfl) h9) ?_
 refine st_step rfl (fun _ h9 => op_assign (ev_hit hN rfl) h9) ?_
 refine st_nil ?_
 refine hK2 _ _ ?_
 refine seq_any fun K11 hK11 => ?_
 refine one_reg ?_
 refine op_move (ev_hit hN rfl) ?_
 refine op_assign (ev_hit hN rfl) ?_
 refine reg_nil ?_
 refine hK11 _ _ ?_
 refine seq_any fun K12 hK12 => ?_
 refine seq_any fun K13 hK13 => ?_
 refine one_reg ?_
 refine op_move (ev_base hN rfl s2) ?_
 refine reg_nil ?_
 refine hK13 _ _ ?_
 refine wp_cond_true (ev_hit hN rfl) ?_
 refine one_reg ?_
 refine op_move (ev_hit hN rfl) ?_
 refine op_assign (ev_hit hN rfl) ?_
 refine reg_nil ?_
 refine hK12 _ _ ?_
 refine seq_any fun K14 hK14 => ?_
 refine seq_any fun K15 hK15 => ?_
 refine one_reg ?_
 refine op_move (ev_hit hN rfl) ?_
 refine op_fn (vs := [(ptr (P.getD (i + 1) default) 0)]) ok52 ⟨(ev_hit hN rfl), trivial⟩ (Ret.flip (sizeNI hxb okb ocb (by omega) (by omega))) ?_
 rintro _ _ ⟨rfl, rfl⟩
 refine op_leq (ev_hit hN rfl) rfl (fun c32 => ?_) (fun c32 => ?_)
 · -- 32T
  exfalso; omega
 · -- 32F
  refine reg_nil ?_
  refine hK15 _ _ ?_
  refine wp_cond_false (ev_hit hN rfl) ?_
  refine wp_skip ?_
  refine hK14 _ _ ?_
  refine seq_any fun K16 hK16 => ?_
  refine wp_block ?_
  refine seq_any fun K17 hK17 => ?_
  refine one_reg ?_
  refine op_move (ev_hit hN rfl) ?_
  refine op_fn (vs := [(ptr (P.getD i default) 0)]) ok81 ⟨(ev_hit hN rfl), trivial⟩ (Ret.flip (leafNI hxa oka oca (by omega) (by omega))) ?_
  rintro _ _ ⟨rfl, rfl⟩
  refine op_move (ev_hit hN rfl) ?_
  refine g_false (j := 2) (dj := 107) (b := true) rfl rfl rfl (ev_hit hN rfl) rfl rfl ?_
  refine op_pick_f (ev_hit hN rfl) rfl ?_
  refine op_assign (ev_hit hN rfl) ?_
  refine reg_nil ?_
  refine hK17 _ _ ?_
  refine wp_cond_false (ev_hit hN rfl) ?_
  refine seq_any fun K18 hK18 => ?_
  refine one_reg ?_
  refine op_move (ev_hit hN rfl) ?_
  refine op_fn (vs := [(ptr (P.getD i default) 0)]) ok81 ⟨(ev_hit hN rfl), trivial⟩ (Ret.flip (leafNI hxa oka oca (by omega) (by omega))) ?_
  rintro _ _ ⟨rfl, rfl⟩
  refine op_assign (ev_hit hN rfl) ?_
  refine reg_nil ?_
  refine hK18 _ _ ?_
  refine wp_cond_false (ev_hit hN rfl) ?_
  refine seq_any fun K19 hK19 => ?_
  refine one_reg ?_
  refine op_move (ev_base hN rfl s2) ?_
  refine op_assign (ev_hit hN rfl) ?_
  refine reg_nil ?_
  refine hK19 _ _ ?_
  refine wp_cond_true (ev_hit hN rfl) ?_
  refine seq_join1 (N := 254) (fun az_ w' => ∃ (vk vc : Value), (az_.tmps.getD 0 undef = (ptr p 0)) ∧ (az_.tmps.getD 1 undef = (Value.int .i64 ((i : Nat) : Int))) ∧ (az_.tmps.getD 6 undef = (Value.bool false)) ∧ (az_.tmps.getD 8 undef = (ptr (P.getD (i + 1) default) 0)) ∧ (DJ kv vk) ∧ (DJ kb vk) ∧ (Dj (Bl vk) G0) ∧ (Dj (Bl vk) Ga) ∧ (Dj (Bl vk) G1) ∧ (Dj (Bl vk) G2) ∧ (∀ j, j < w.heap.size → Bl vk j → W j) ∧ (DJ cv vc) ∧ (DJ cb vc) ∧ (Dj (Bl vc) G0) ∧ (Dj (Bl vc) Ga) ∧ (Dj (Bl vc) G1) ∧ (Dj (Bl vc) G2) ∧ (∀ j, j < w.heap.size → Bl vc j → W j) ∧ (Gr w w' W) ∧ (w4.heap.size ≤ w'.heap.size) ∧ (Bx w' p 115 [(Value.slice none 0 0), kv, cv]) ∧ (Own w' 0 27 1 kv K.length (K.flatMap cK)) ∧ (Own w' 0 69 1 cv P.length (P.flatMap cN)) ∧ (∀ x9 ∈ K, Own w' 0 5 1 x9.1 x9.2.length (x9.2.map u8v)) ∧ (Bx w' (P.getD (i + 1) default) 115 [(Value.slice none 0 0), kb, cb]) ∧ (Own w' 0 27 1 kb Kb.length (Kb.flatMap cK)) ∧ (Own w' 0 69 1 cb Pb.length (Pb.flatMap cN)) ∧ (∀ x9 ∈ Ka, Own w' 0 5 1 x9.1 x9.2.length (x9.2.map u8v)) ∧ (∀ x9 ∈ Kb, Own w' 0 5 1 x9.1 x9.2.length (x9.2.map u8v)) ∧ (KidsR kI R w' (h + 1) ((P.eraseIdx i).eraseIdx i) ((cs.eraseIdx i).eraseIdx i) G0) ∧ (KidsR kI R w' h Pa ta Ga) ∧ (KidsR kI R w' h (Pb.take 1) (tb.take 1) G1) ∧ (KidsR kI R w' h (Pb.drop 1) (tb.drop 1) G2) ∧ (Own w' 0 27 1 vk (Ka ++ [K.getD i default]).length ((Ka ++ [K.getD i default]).flatMap cK)) ∧ (Own w' 0 69 1 vc (Pa ++ [Pb.getD 0 default]).length ((Pa ++ [Pb.getD 0 default]).flatMap cN)) ∧ (Bx w' (P.getD i default) 115 [(Value.slice none 0 0), vk, vc])) (fun hJ35 => ?_) ?_
  ·
   refine seq_any fun K38 hK38 => ?_
   obtain ⟨b39, o40, _, hAt41⟩ := ok.atV (i := i) (by omega)
   obtain ⟨b42, o43, _, hAt44⟩ := ocb.atV (i := 0) (by omega)
   refine reg_split (hd := [_, _, _, _, _, _, _, _, _, _, _, _, _, _, _, _, _, _, _, _, _, _, _, _, _, _, _, _, _, _]) (tl := _) 30 mixed (by kernel_rfl) rfl rfl ?_
   refine any_treek (φ := phiV [(fun uz => uz = (ptr (P.getD i default) 0)), (fun uz => uz = (ptr (P.getD i default) 0)), (fun uz => uz = (ptr (P.getD i default) 0)), (fun uz => uz = (ptr (P.getD i default) 0)), (fun uz => uz = (ptr (P.getD i default) 1)), (fun uz => uz = ka), (fun uz => uz = (ptr p 0)), (fun uz => uz = (ptr p 0)), (fun uz => uz = (ptr p 1)), (fun uz => uz = kv), (fun uz => uz = (Value.int .i64 ((i : Nat) : Int))), (fun uz => uz = (ptr b39 o40)), (fun uz => uz = (K.getD i default).1), (fun _ => True), (fun _ => True), (fun uz => uz = (ptr (P.getD i default) 0)), (fun uz => uz = (ptr (P.getD i default) 0)), (fun uz => uz = (ptr (P.getD i default) 2)), (fun uz => uz = ca), (fun uz => uz = (ptr (P.getD (i + 1) default) 0)), (fun uz => uz = (ptr (P.getD (i + 1) default) 0)), (fun uz => uz = (ptr (P.getD (i + 1) default) 2)), (fun uz => uz = cb), (fun uz => uz = (ptr b42 o43)), (fun uz => uz = (ptr (Pb.getD 0 default) 0)), (fun _ => True), (fun _ => True), (fun uz => uz = (ptr (P.getD i default) 0)), (fun uz => uz = (ptr (P.getD i default) 1)), (fun _ => True)]) (G := fun t9 w' => 29 ∈ t9 → (Own w' 0 27 1 kv K.length (K.flatMap cK) ∧ Own w' 0 69 1 cb Pb.length (Pb.flatMap cN) ∧ Bx w' (P.getD i default) 115 [(Value.slice none 0 0), ka, ca] ∧ Bx w' p 115 [(Value.slice none 0 0), kv, cv] ∧ Bx w' (P.getD (i + 1) default) 115 [(Value.slice none 0 0), kb, cb])) [13, 14, 25, 26, 29] (by kernel_rfl) (by kernel_rfl) (by kernel_rfl) (by kernel_rfl) (by kernel_rfl) hN (fun _ w1 w2 E h hc9 => by have h := h hc9; obtain ⟨h0, h1, h2, h3, h4⟩ := h; exact ⟨h0.keep0 E, h1.keep0 E, h2.keep0 E, h3.keep0 E, h4.keep0 E⟩) (fun _ => ⟨ok, ocb, hxa, hx, hxb⟩) (ObRk9.cons ?_ (ObRk9.cons ?_ (ObRk9.cons ?_ (ObRk9.cons ?_ (ObRk9.cons ?_ (ObRk9.cons ?_ (ObRk9.cons ?_ (ObRk9.cons ?_ (ObRk9.cons ?_ (ObRk9.cons ?_ (ObRk9.cons ?_ (ObRk9.cons ?_ (ObRk9.cons ?_ (ObRk9.pass rfl (ObRk9.pass rfl (ObRk9.cons ?_ (ObRk9.cons ?_ (ObRk9.cons ?_ (ObRk9.cons ?_ (ObRk9.cons ?_ (ObRk9.cons ?_ (ObRk9.cons ?_ (ObRk9.cons ?_ (ObRk9.cons ?_ (ObRk9.cons ?_ (ObRk9.pass rfl (ObRk9.pass rfl (ObRk9.cons ?_ (ObRk9.cons ?_ (ObRk9.pass rfl (ObRk9.nil))))))))))))))))))))))))))))))) (by simp only [putsL_defers]) ?_
   ·
    intro eA tA aA wA hNA hckA hGA hbsA hdpA
    have qA_7 := (hbsA 7 rfl).trans (sl_hit hN rfl)
    refine op_move (ev_base hNA rfl qA_7) ?_
    exact obTk_end rfl rfl
   ·
    intro eA tA aA wA hNA hckA hGA hbsA hdpA
    have qA_7 := (hbsA 7 rfl).trans (sl_hit hN rfl)
    refine op_move (ev_base hNA rfl qA_7) ?_
    exact obTk_end rfl rfl
   ·
    intro eA tA aA wA hNA hckA hGA hbsA hdpA
    have qA_7 := (hbsA 7 rfl).trans (sl_hit hN rfl)
    refine op_move (ev_base hNA rfl qA_7) ?_
    exact obTk_end rfl rfl
   ·
    intro eA tA aA wA hNA hckA hGA hbsA hdpA
    have qA_197 : Sl aA 197 (ptr (P.getD i default) 0) := (hdpA 2 _ 197 (by kernel_rfl) rfl rfl).2 rfl
    refine op_nil (ev_base hNA rfl qA_197) ?_
    exact obTk_end rfl rfl
   ·
    intro eA tA aA wA hNA hckA hGA hbsA hdpA
    have qA_198 : Sl aA 198 (ptr (P.getD i default) 0) := (hdpA 3 _ 198 (by kernel_rfl) rfl rfl).2 rfl
    refine op_field fld115_1 (ev_base hNA rfl qA_198) ?_
    exact obTk_end rfl rfl
   ·
    intro eA tA aA wA hNA hckA hGA hbsA hdpA
    have qA_199 : Sl aA 199 (ptr (P.getD i default) 1) := (hdpA 4 _ 199 (by kernel_rfl) rfl rfl).2 rfl
    have hGA := hGA (hckA 29 rfl (by kernel_rfl))
    obtain ⟨ok, ocb, hxa, hx, hxb⟩ := hGA
    refine op_load1 (v := ka) one90 (ev_base hNA rfl qA_199) (hxa.cell rfl) ?_
    exact obTk_end rfl rfl
   ·
    intro eA tA aA wA hNA hckA hGA hbsA hdpA
    have qA_0 := (hbsA 0 rfl).trans (sl_base hN rfl s0)
    refine op_move (ev_base hNA rfl qA_0) ?_
    exact obTk_end rfl rfl
   ·
    intro eA tA aA wA hNA hckA hGA hbsA hdpA
    have qA_201 : Sl aA 201 (ptr p 0) := (hdpA 6 _ 201 (by kernel_rfl) rfl rfl).2 rfl
    refine op_nil (ev_base hNA rfl qA_201) ?_
    exact obTk_end rfl rfl
   ·
    intro eA tA aA wA hNA hckA hGA hbsA hdpA
    have qA_202 : Sl aA 202 (ptr p 0) := (hdpA 7 _ 202 (by kernel_rfl) rfl rfl).2 rfl
    refine op_field fld115_1 (ev_base hNA rfl qA_202) ?_
    exact obTk_end rfl rfl
   ·
    intro eA tA aA wA hNA hckA hGA hbsA hdpA
    have qA_203 : Sl aA 203 (ptr p 1) := (hdpA 8 _ 203 (by kernel_rfl) rfl rfl).2 rfl
    have hGA := hGA (hckA 29 rfl (by kernel_rfl))
    obtain ⟨ok, ocb, hxa, hx, hxb⟩ := hGA
    refine op_load1 (v := kv) one90 (ev_base hNA rfl qA_203) (hx.cell rfl) ?_
    exact obTk_end rfl rfl
   ·
    intro eA tA aA wA hNA hckA hGA hbsA hdpA
    have qA_1 := (hbsA 1 rfl).trans (sl_base hN rfl s1)
    refine op_move (ev_base hNA rfl qA_1) ?_
    exact obTk_end rfl rfl
   ·
    intro eA tA aA wA hNA hckA hGA hbsA hdpA
    have qA_204 : Sl aA 204 kv := (hdpA 9 _ 204 (by kernel_rfl) rfl rfl).2 rfl
    have qA_205 : Sl aA 205 (Value.int .i64 ((i : Nat) : Int)) := (hdpA 10 _ 205 (by kernel_rfl) rfl rfl).2 rfl
    refine op_index_at (i := i) slt90 (ev_base hNA rfl qA_204) ok (ev_base hNA rfl qA_205) (by omega) (by omega) hAt41 ?_
    exact obTk_end rfl rfl
   ·
    intro eA tA aA wA hNA hckA hGA hbsA hdpA
    have qA_206 : Sl aA 206 (ptr b39 o40) := (hdpA 11 _ 206 (by kernel_rfl) rfl rfl).2 rfl
    have hGA := hGA (hckA 29 rfl (by kernel_rfl))
    obtain ⟨ok, ocb, hxa, hx, hxb⟩ := hGA
    refine op_load1 (v := (K.getD i default).1) one27 (ev_base hNA rfl qA_206) (ok.cellAt hAt41 0 _ (el_kd (e := ((i : Nat) : Int)) (i := i) rfl (by omega))) ?_
    exact obTk_end rfl rfl
   ·
    intro eA tA aA wA hNA hckA hGA hbsA hdpA
    have qA_7 := (hbsA 7 rfl).trans (sl_hit hN rfl)
    refine op_move (ev_base hNA rfl qA_7) ?_
    exact obTk_end rfl rfl
   ·
    intro eA tA aA wA hNA hckA hGA hbsA hdpA
    have qA_210 : Sl aA 210 (ptr (P.getD i default) 0) := (hdpA 15 _ 210 (by kernel_rfl) rfl rfl).2 rfl
    refine op_nil (ev_base hNA rfl qA_210) ?_
    exact obTk_end rfl rfl
   ·
    intro eA tA aA wA hNA hckA hGA hbsA hdpA
    have qA_211 : Sl aA 211 (ptr (P.getD i default) 0) := (hdpA 16 _ 211 (by kernel_rfl) rfl rfl).2 rfl
    refine op_field fld115_2 (ev_base hNA rfl qA_211) ?_
    exact obTk_end rfl rfl
   ·
    intro eA tA aA wA hNA hckA hGA hbsA hdpA
    have qA_212 : Sl aA 212 (ptr (P.getD i default) 2) := (hdpA 17 _ 212 (by kernel_rfl) rfl rfl).2 rfl
    have hGA := hGA (hckA 29 rfl (by kernel_rfl))
    obtain ⟨ok, ocb, hxa, hx, hxb⟩ := hGA
    refine op_load1 (v := ca) one113 (ev_base hNA rfl qA_212) (hxa.cell rfl) ?_
    exact obTk_end rfl rfl
   ·
    intro eA tA aA wA hNA hckA hGA hbsA hdpA
    have qA_8 := (hbsA 8 rfl).trans (sl_hit hN rfl)
    refine op_move (ev_base hNA rfl qA_8) ?_
    exact obTk_end rfl rfl
   ·
    intro eA tA aA wA hNA hckA hGA hbsA hdpA
    have qA_214 : Sl aA 214 (ptr (P.getD (i + 1) default) 0) := (hdpA 19 _ 214 (by kernel_rfl) rfl rfl).2 rfl
    refine op_nil (ev_base hNA rfl qA_214) ?_
    exact obTk_end rfl rfl
   ·
    intro eA tA aA wA hNA hckA hGA hbsA hdpA
    have qA_215 : Sl aA 215 (ptr (P.getD (i + 1) default) 0) := (hdpA 20 _ 215 (by kernel_rfl) rfl rfl).2 rfl
    refine op_field fld115_2 (ev_base hNA rfl qA_215) ?_
    exact obTk_end rfl rfl
   ·
    intro eA tA aA wA hNA hckA hGA hbsA hdpA
    have qA_216 : Sl aA 216 (ptr (P.getD (i + 1) default) 2) := (hdpA 21 _ 216 (by kernel_rfl) rfl rfl).2 rfl
    have hGA := hGA (hckA 29 rfl (by kernel_rfl))
    obtain ⟨ok, ocb, hxa, hx, hxb⟩ := hGA
    refine op_load1 (v := cb) one113 (ev_base hNA rfl qA_216) (hxb.cell rfl) ?_
    exact obTk_end rfl rfl
   ·
    intro eA tA aA wA hNA hckA hGA hbsA hdpA
    have qA_217 : Sl aA 217 cb := (hdpA 22 _ 217 (by kernel_rfl) rfl rfl).2 rfl
    refine op_index_at (i := 0) slt113 (ev_base hNA rfl qA_217) ocb rfl (by omega) (by omega) hAt44 ?_
    exact obTk_end rfl rfl
   ·
    intro eA tA aA wA hNA hckA hGA hbsA hdpA
    have qA_218 : Sl aA 218 (ptr b42 o43) := (hdpA 23 _ 218 (by kernel_rfl) rfl rfl).2 rfl
    have hGA := hGA (hckA 29 rfl (by kernel_rfl))
    obtain ⟨ok, ocb, hxa, hx, hxb⟩ := hGA
    refine op_load1 (v := (ptr (Pb.getD 0 default) 0)) one69 (ev_base hNA rfl qA_218) (ocb.cellAt hAt44 0 _ (el_pn (e := ((0 : Nat) : Int)) (i := 0) rfl (by omega))) ?_
    exact obTk_end rfl rfl
   ·
    intro eA tA aA wA hNA hckA hGA hbsA hdpA
    have qA_195 : Sl aA 195 (ptr (P.getD i default) 0) := (hdpA 0 _ 195 (by kernel_rfl) rfl rfl).2 rfl
    refine op_nil (ev_base hNA rfl qA_195) ?_
    exact obTk_end rfl rfl
   ·
    intro eA tA aA wA hNA hckA hGA hbsA hdpA
    have qA_222 : Sl aA 222 (ptr (P.getD i default) 0) := (hdpA 27 _ 222 (by kernel_rfl) rfl rfl).2 rfl
    refine op_field fld115_1 (ev_base hNA rfl qA_222) ?_
    exact obTk_end rfl rfl
   ·
    refine ktk_step (rs := [13, 25]) (by kernel_rfl) ?_
    refine more_mem ?_ ?_
    · -- first 13
     intro w46 E46 _ a46 hN46 hbs46 hdp46 o_ ho_; obtain rfl := Option.some.inj ho_
     have z_w46 := E46.size
     have hx := hx.keep0 E46
     have ok := ok.keep0 E46
     have oc := oc.keep0 E46
     have ks : ∀ x9 ∈ K, Own w46 0 5 1 x9.1 x9.2.length (x9.2.map u8v) := fun x9 hx9 => (ks x9 hx9).keep0 E46
     have hxa := hxa.keep0 E46
     have hxb := hxb.keep0 E46
     have oka := oka.keep0 E46
     have okb := okb.keep0 E46
     have oca := oca.keep0 E46
     have ocb := ocb.keep0 E46
     have kas : ∀ x9 ∈ Ka, Own w46 0 5 1 x9.1 x9.2.length (x9.2.map u8v) := fun x9 hx9 => (kas x9 hx9).keep0 E46
     have kbs : ∀ x9 ∈ Kb, Own w46 0 5 1 x9.1 x9.2.length (x9.2.map u8v) := fun x9 hx9 => (kbs x9 hx9).keep0 E46
     have hr := hr.keepG (Gr.of0 E46 NoB) (fun _ _ h => h) (NoK.no _)
     have hKa := hKa.keepG (Gr.of0 E46 NoB) (fun _ _ h => h) (NoK.no _)
     have hkq1 := hkq1.keepG (Gr.of0 E46 NoB) (fun _ _ h => h) (NoK.no _)
     have hkq2 := hkq2.keepG (Gr.of0 E46 NoB) (fun _ _ h => h) (NoK.no _)
     have hb := hb.step0 E46
     have q46_207 : Sl a46 207 (K.getD i default).1 := (hdp46 12 _ 207 (by kernel_rfl) rfl rfl).2 rfl
     refine op_bslice (e := 27) (pv := [(0, (K.getD i default).1)]) (cs := [(K.getD i default).1]) ⟨rfl, (ev_base hN46 rfl q46_207), trivial⟩ (by obtain ⟨_, _, _, hq9⟩ := (show Own _ _ _ _ (K.getD i default).1 (K.getD i default).2.length ((K.getD i default).2.map u8v) from ks (K.getD i default) (getD_mem (by first | omega | (simp only [List.length_drop, List.length_take]; omega)))).sl; rw [hq9]; kernel_rfl) ?_
     intro w47 b48 lo_b48 hi_b48 hB50 E49
     have dj51 : ¬ G0 b48 := fun hf => by have := (hr.lt _ hf).2; omega
     have dj52 : ¬ Ga b48 := fun hf => by have := (hKa.lt _ hf).2; omega
     have dj53 : ¬ G1 b48 := fun hf => by have := (hkq1.lt _ hf).2; omega
     have dj54 : ¬ G2 b48 := fun hf => by have := (hkq2.lt _ hf).2; omega
     have ne_b48_kv : kv.ownBlock ≠ some b48 := fun hh => by have := (ok.lt _ hh).2; omega
     have ne_b48_ka : ka.ownBlock ≠ some b48 := fun hh => by have := (oka.lt _ hh).2; omega
     have ne_b48_kb : kb.ownBlock ≠ some b48 := fun hh => by have := (okb.lt _ hh).2; omega
     have z_w47 := E49.size
     have hx := hx.keep0 E49
     have ok := ok.keep0 E49
     have oc := oc.keep0 E49
     have ks : ∀ x9 ∈ K, Own w47 0 5 1 x9.1 x9.2.length (x9.2.map u8v) := fun x9 hx9 => (ks x9 hx9).keep0 E49
     have hxa := hxa.keep0 E49
     have hxb := hxb.keep0 E49
     have oka := oka.keep0 E49
     have okb := okb.keep0 E49
     have oca := oca.keep0 E49
     have ocb := ocb.keep0 E49
     have kas : ∀ x9 ∈ Ka, Own w47 0 5 1 x9.1 x9.2.length (x9.2.map u8v) := fun x9 hx9 => (kas x9 hx9).keep0 E49
     have kbs : ∀ x9 ∈ Kb, Own w47 0 5 1 x9.1 x9.2.length (x9.2.map u8v) := fun x9 hx9 => (kbs x9 hx9).keep0 E49
     have hr := hr.keepG (Gr.of0 E49 NoB) (fun _ _ h => h) (NoK.no _)
     have hKa := hKa.keepG (Gr.of0 E49 NoB) (fun _ _ h => h) (NoK.no _)
     have hkq1 := hkq1.keepG (Gr.of0 E49 NoB) (fun _ _ h => h) (NoK.no _)
     have hkq2 := hkq2.keepG (Gr.of0 E49 NoB) (fun _ _ h => h) (NoK.no _)
     have hb := hb.step0 E49
     refine ktk_end (G := fun t9 w' => 29 ∈ t9 → (Own w' 0 27 1 kv K.length (K.flatMap cK) ∧ Own w' 0 69 1 cb Pb.length (Pb.flatMap cN) ∧ Bx w' (P.getD i default) 115 [(Value.slice none 0 0), ka, ca] ∧ Bx w' p 115 [(Value.slice none 0 0), kv, cv] ∧ Bx w' (P.getD (i + 1) default) 115 [(Value.slice none 0 0), kb, cb])) (todo := [13, 14, 25, 26, 29]) (i := 13) rfl (fun _ => ⟨ok, ocb, hxa, hx, hxb⟩) ?_
     refine ktk_step (rs := [14, 25]) (by kernel_rfl) ?_
     refine more_mem ?_ ?_
     · -- first 14
      intro w56 E56 _ a56 hN56 hbs56 hdp56 o_ ho_; obtain rfl := Option.some.inj ho_
      have z_w56 := E56.size
      have hx := hx.keep0 E56
      have ok := ok.keep0 E56
      have oc := oc.keep0 E56
      have ks : ∀ x9 ∈ K, Own w56 0 5 1 x9.1 x9.2.length (x9.2.map u8v) := fun x9 hx9 => (ks x9 hx9).keep0 E56
      have hxa := hxa.keep0 E56
      have hxb := hxb.keep0 E56
      have oka := oka.keep0 E56
      have okb := okb.keep0 E56
      have oca := oca.keep0 E56
      have ocb := ocb.keep0 E56
      have kas : ∀ x9 ∈ Ka, Own w56 0 5 1 x9.1 x9.2.length (x9.2.map u8v) := fun x9 hx9 => (kas x9 hx9).keep0 E56
      have kbs : ∀ x9 ∈ Kb, Own w56 0 5 1 x9.1 x9.2.length (x9.2.map u8v) := fun x9 hx9 => (kbs x9 hx9).keep0 E56
      have hr := hr.keepG (Gr.of0 E56 NoB) (fun _ _ h => h) (NoK.no _)
      have hKa := hKa.keepG (Gr.of0 E56 NoB) (fun _ _ h => h) (NoK.no _)
      have hkq1 := hkq1.keepG (Gr.of0 E56 NoB) (fun _ _ h => h) (NoK.no _)
      have hkq2 := hkq2.keepG (Gr.of0 E56 NoB) (fun _ _ h => h) (NoK.no _)
      have hB50 := hB50.keep0 E56
      have hb := hb.step0 E56
      have q56_200 : Sl a56 200 ka := (hdp56 5 _ 200 (by kernel_rfl) rfl rfl).2 rfl
      have q56_208 : Sl a56 208 (Value.slice (some ⟨b48, 0, none⟩) 1 1) := (Option.some.inj ((hdp56 13 _ 208 (by kernel_rfl) rfl rfl).1 rfl)).symm
      have hP62 := oka
      refine op_append slt90 (ev_base hN56 rfl q56_200) hP62 (ev_base hN56 rfl q56_208) (Src.ofRd Try.underlying90 (by decide) (RdC.ofBx (sz := 1) (n := 1) hB50 rfl (by decide)) (by simp only [List.all_cons, List.all_nil, Bool.true_and, Bool.and_true, (own_one (show Own _ _ _ _ (K.getD i default).1 (K.getD i default).2.length ((K.getD i default).2.map u8v) from ks (K.getD i default) (getD_mem (by first | omega | (simp only [List.length_drop, List.length_take]; omega)))))]; try rfl)) (by unfold maxLen; omega) (by omega) (Nat.le_trans (by assumption) hb.size) ?_
      intro v57 w58 hO60 E59 hm61
      have dj63 : DJ kv v57 := DJ.step hm61 (fun k hk => (ok.lt k hk).2) dk3
      have dj64 : DJ kb v57 := DJ.step hm61 (fun k hk => (okb.lt k hk).2) dk7.symm
      have dj65 : Dj G0 (Bl v57) := Dj.step hm61 (fun k hk => (hr.lt k hk).2) dk9.symm
      have dj66 : Dj Ga (Bl v57) := Dj.step hm61 (fun k hk => (hKa.lt k hk).2) dk18.symm
      have dj67 : Dj G1 (Bl v57) := Dj.step hm61 (fun k hk => (hkq1.lt k hk).2) dk28.symm
      have dj68 : Dj G2 (Bl v57) := Dj.step hm61 (fun k hk => (hkq2.lt k hk).2) dk38.symm
      have z_w58 := E59.size
      have hx := hx.keepO hP62 E59 (by decide)
      have ok := ok.keepD E59 dk3
      have oc := oc.keepT hP62 E59 (by decide)
      have ks : ∀ x9 ∈ K, Own w58 0 5 1 x9.1 x9.2.length (x9.2.map u8v) := fun x9 hx9 => (ks x9 hx9).keepT hP62 E59 (by decide)
      have hxa := hxa.keepO hP62 E59 (by decide)
      have hxb := hxb.keepO hP62 E59 (by decide)
      have okb := okb.keepD E59 dk7.symm
      have oca := oca.keepT hP62 E59 (by decide)
      have ocb := ocb.keepT hP62 E59 (by decide)
      have kas : ∀ x9 ∈ Ka, Own w58 0 5 1 x9.1 x9.2.length (x9.2.map u8v) := fun x9 hx9 => (kas x9 hx9).keepT hP62 E59 (by decide)
      have kbs : ∀ x9 ∈ Kb, Own w58 0 5 1 x9.1 x9.2.length (x9.2.map u8v) := fun x9 hx9 => (kbs x9 hx9).keepT hP62 E59 (by decide)
      have hr := hr.keepG (Gr.of E59) dk9.symm (NoK.ofOwn hP62 (by decide))
      have hKa := hKa.keepG (Gr.of E59) dk18.symm (NoK.ofOwn hP62 (by decide))
      have hkq1 := hkq1.keepG (Gr.of E59) dk28.symm (NoK.ofOwn hP62 (by decide))
      have hkq2 := hkq2.keepG (Gr.of E59) dk38.symm (NoK.ofOwn hP62 (by decide))
      have hB50 := hB50.keep E59 (fun hh => ne_b48_ka hh.symm)
      have hb := hb.stepL E59 (fun k _ h => hNd.wg k (hfs k (hA.wk k h)))
      have hO60 : Own w58 0 27 1 v57 (Ka.length + 1) ((Ka.flatMap cK ++ [(K.getD i default).1])) := by simpa [u8v, sv] using hO60
      have ne_b48_v57 : v57.ownBlock ≠ some b48 := ne_step (w1 := w56) ⟨E59, hm61⟩ (by omega) ne_b48_ka
      refine ktk_end (G := fun t9 w' => 29 ∈ t9 → (Own w' 0 27 1 kv K.length (K.flatMap cK) ∧ Own w' 0 69 1 cb Pb.length (Pb.flatMap cN) ∧ Bx w' (P.getD i default) 115 [(Value.slice none 0 0), ka, ca] ∧ Bx w' p 115 [(Value.slice none 0 0), kv, cv] ∧ Bx w' (P.getD (i + 1) default) 115 [(Value.slice none 0 0), kb, cb])) (todo := [14, 25, 26, 29]) (i := 14) rfl (fun _ => ⟨ok, ocb, hxa, hx, hxb⟩) ?_
      refine ktk_step (rs := [25]) (by kernel_rfl) ?_
      refine one_mem ?_
      intro w70 E70 _ a70 hN70 hbs70 hdp70 o_ ho_; obtain rfl := Option.some.inj ho_
      have z_w70 := E70.size
      have hx := hx.keep0 E70
      have ok := ok.keep0 E70
      have oc := oc.keep0 E70
      have ks : ∀ x9 ∈ K, Own w70 0 5 1 x9.1 x9.2.length (x9.2.map u8v) := fun x9 hx9 => (ks x9 hx9).keep0 E70
      have hxa := hxa.keep0 E70
      have hxb := hxb.keep0 E70
      have okb := okb.keep0 E70
      have oca := oca.keep0 E70
      have ocb := ocb.keep0 E70
      have kas : ∀ x9 ∈ Ka, Own w70 0 5 1 x9.1 x9.2.length (x9.2.map u8v) := fun x9 hx9 => (kas x9 hx9).keep0 E70
      have kbs : ∀ x9 ∈ Kb, Own w70 0 5 1 x9.1 x9.2.length (x9.2.map u8v) := fun x9 hx9 => (kbs x9 hx9).keep0 E70
      have hr := hr.keepG (Gr.of0 E70 NoB) (fun _ _ h => h) (NoK.no _)
      have hKa := hKa.keepG (Gr.of0 E70 NoB) (fun _ _ h => h) (NoK.no _)
      have hkq1 := hkq1.keepG (Gr.of0 E70 NoB) (fun _ _ h => h) (NoK.no _)
      have hkq2 := hkq2.keepG (Gr.of0 E70 NoB) (fun _ _ h => h) (NoK.no _)
      have hB50 := hB50.keep0 E70
      have hO60 := hO60.keep0 E70
      have hb := hb.step0 E70
      have q70_219 : Sl a70 219 (ptr (Pb.getD 0 default) 0) := (hdp70 24 _ 219 (by kernel_rfl) rfl rfl).2 rfl
      refine op_bslice (e := 69) (pv := [(0, (ptr (Pb.getD 0 default) 0))]) (cs := [(ptr (Pb.getD 0 default) 0)]) ⟨rfl, (ev_base hN70 rfl q70_219), trivial⟩ (by kernel_rfl) ?_
      intro w71 b72 lo_b72 hi_b72 hB74 E73
      have dj75 : ¬ G0 b72 := fun hf => by have := (hr.lt _ hf).2; omega
      have dj76 : ¬ Ga b72 := fun hf => by have := (hKa.lt _ hf).2; omega
      have dj77 : ¬ G1 b72 := fun hf => by have := (hkq1.lt _ hf).2; omega
      have dj78 : ¬ G2 b72 := fun hf => by have := (hkq2.lt _ hf).2; omega
      have ne_b72_cv : cv.ownBlock ≠ some b72 := fun hh => by have := (oc.lt _ hh).2; omega
      have ne_b72_ca : ca.ownBlock ≠ some b72 := fun hh => by have := (oca.lt _ hh).2; omega
      have ne_b72_cb : cb.ownBlock ≠ some b72 := fun hh => by have := (ocb.lt _ hh).2; omega
      have z_w71 := E73.size
      have hx := hx.keep0 E73
      have ok := ok.keep0 E73
      have oc := oc.keep0 E73
      have ks : ∀ x9 ∈ K, Own w71 0 5 1 x9.1 x9.2.length (x9.2.map u8v) := fun x9 hx9 => (ks x9 hx9).keep0 E73
      have hxa := hxa.keep0 E73
      have hxb := hxb.keep0 E73
      have okb := okb.keep0 E73
      have oca := oca.keep0 E73
      have ocb := ocb.keep0 E73
      have kas : ∀ x9 ∈ Ka, Own w71 0 5 1 x9.1 x9.2.length (x9.2.map u8v) := fun x9 hx9 => (kas x9 hx9).keep0 E73
      have kbs : ∀ x9 ∈ Kb, Own w71 0 5 1 x9.1 x9.2.length (x9.2.map u8v) := fun x9 hx9 => (kbs x9 hx9).keep0 E73
      have hr := hr.keepG (Gr.of0 E73 NoB) (fun _ _ h => h) (NoK.no _)
      have hKa := hKa.keepG (Gr.of0 E73 NoB) (fun _ _ h => h) (NoK.no _)
      have hkq1 := hkq1.keepG (Gr.of0 E73 NoB) (fun _ _ h => h) (NoK.no _)
      have hkq2 := hkq2.keepG (Gr.of0 E73 NoB) (fun _ _ h => h) (NoK.no _)
      have hB50 := hB50.keep0 E73
      have hO60 := hO60.keep0 E73
      have hb := hb.step0 E73
      refine ktk_end (G := fun t9 w' => 29 ∈ t9 → (Own w' 0 27 1 kv K.length (K.flatMap cK) ∧ Own w' 0 69 1 cb Pb.length (Pb.flatMap cN) ∧ Bx w' (P.getD i default) 115 [(Value.slice none 0 0), ka, ca] ∧ Bx w' p 115 [(Value.slice none 0 0), kv, cv] ∧ Bx w' (P.getD (i + 1) default) 115 [(Value.slice none 0 0), kb, cb])) (todo := [25, 26, 29]) (i := 25) rfl (fun _ => ⟨ok, ocb, hxa, hx, hxb⟩) ?_
      refine ktk_step (rs := [26]) (by kernel_rfl) ?_
      refine one_mem ?_
      intro w80 E80 _ a80 hN80 hbs80 hdp80 o_ ho_; obtain rfl := Option.some.inj ho_
      have z_w80 := E80.size
      have hx := hx.keep0 E80
      have ok := ok.keep0 E80
      have oc := oc.keep0 E80
      have ks : ∀ x9 ∈ K, Own w80 0 5 1 x9.1 x9.2.length (x9.2.map u8v) := fun x9 hx9 => (ks x9 hx9).keep0 E80
      have hxa := hxa.keep0 E80
      have hxb := hxb.keep0 E80
      have okb := okb.keep0 E80
      have oca := oca.keep0 E80
      have ocb := ocb.keep0 E80
      have kas : ∀ x9 ∈ Ka, Own w80 0 5 1 x9.1 x9.2.length (x9.2.map u8v) := fun x9 hx9 => (kas x9 hx9).keep0 E80
      have kbs : ∀ x9 ∈ Kb, Own w80 0 5 1 x9.1 x9.2.length (x9.2.map u8v) := fun x9 hx9 => (kbs x9 hx9).keep0 E80
      have hr := hr.keepG (Gr.of0 E80 NoB) (fun _ _ h => h) (NoK.no _)
      have hKa := hKa.keepG (Gr.of0 E80 NoB) (fun _ _ h => h) (NoK.no _)
      have hkq1 := hkq1.keepG (Gr.of0 E80 NoB) (fun _ _ h => h) (NoK.no _)
      have hkq2 := hkq2.keepG (Gr.of0 E80 NoB) (fun _ _ h => h) (NoK.no _)
      have hB50 := hB50.keep0 E80
      have hO60 := hO60.keep0 E80
      have hB74 := hB74.keep0 E80
      have hb := hb.step0 E80
      have q80_213 : Sl a80 213 ca := (hdp80 18 _ 213 (by kernel_rfl) rfl rfl).2 rfl
      have q80_220 : Sl a80 220 (Value.slice (some ⟨b72, 0, none⟩) 1 1) := (Option.some.inj ((hdp80 25 _ 220 (by kernel_rfl) rfl rfl).1 rfl)).symm
      have hP86 := oca
      refine op_append slt113 (ev_base hN80 rfl q80_213) hP86 (ev_base hN80 rfl q80_220) (Src.ofRd Try.underlying113 (by decide) (RdC.ofBx (sz := 1) (n := 1) hB74 rfl (by decide)) (one_pn [Pb.getD 0 default])) (by unfold maxLen; omega) (by omega) (Nat.le_trans (by assumption) hb.size) ?_
      intro v81 w82 hO84 E83 hm85
      have dj87 : DJ cv v81 := DJ.step hm85 (fun k hk => (oc.lt k hk).2) dk5
      have dj88 : DJ cb v81 := DJ.step hm85 (fun k hk => (ocb.lt k hk).2) dk8.symm
      have dj89 : Dj G0 (Bl v81) := Dj.step hm85 (fun k hk => (hr.lt k hk).2) dk10.symm
      have dj90 : Dj Ga (Bl v81) := Dj.step hm85 (fun k hk => (hKa.lt k hk).2) dk19.symm
      have dj91 : Dj G1 (Bl v81) := Dj.step hm85 (fun k hk => (hkq1.lt k hk).2) dk29.symm
      have dj92 : Dj G2 (Bl v81) := Dj.step hm85 (fun k hk => (hkq2.lt k hk).2) dk39.symm
      have z_w82 := E83.size
      have hx := hx.keepO hP86 E83 (by decide)
      have ok := ok.keepT hP86 E83 (by decide)
      have oc := oc.keepD E83 dk5
      have ks : ∀ x9 ∈ K, Own w82 0 5 1 x9.1 x9.2.length (x9.2.map u8v) := fun x9 hx9 => (ks x9 hx9).keepT hP86 E83 (by decide)
      have hxa := hxa.keepO hP86 E83 (by decide)
      have hxb := hxb.keepO hP86 E83 (by decide)
      have okb := okb.keepT hP86 E83 (by decide)
      have ocb := ocb.keepD E83 dk8.symm
      have kas : ∀ x9 ∈ Ka, Own w82 0 5 1 x9.1 x9.2.length (x9.2.map u8v) := fun x9 hx9 => (kas x9 hx9).keepT hP86 E83 (by decide)
      have kbs : ∀ x9 ∈ Kb, Own w82 0 5 1 x9.1 x9.2.length (x9.2.map u8v) := fun x9 hx9 => (kbs x9 hx9).keepT hP86 E83 (by decide)
      have hr := hr.keepG (Gr.of E83) dk10.symm (NoK.ofOwn hP86 (by decide))
      have hKa := hKa.keepG (Gr.of E83) dk19.symm (NoK.ofOwn hP86 (by decide))
      have hkq1 := hkq1.keepG (Gr.of E83) dk29.symm (NoK.ofOwn hP86 (by decide))
      have hkq2 := hkq2.keepG (Gr.of E83) dk39.symm (NoK.ofOwn hP86 (by decide))
      have hB50 := hB50.keepO hP86 E83 (by decide)
      have hO60 := hO60.keepT hP86 E83 (by decide)
      have hB74 := hB74.keep E83 (fun hh => ne_b72_ca hh.symm)
      have hb := hb.stepL E83 (fun k _ h => hNd.wg k (hfs k (hA.wc k h)))
      have hO84 : Own w82 0 69 1 v81 (Pa.length + 1) ((Pa.flatMap cN ++ [(ptr (Pb.getD 0 default) 0)])) := by simpa [u8v, sv] using hO84
      have ne_b72_v81 : v81.ownBlock ≠ some b72 := ne_step (w1 := w80) ⟨E83, hm85⟩ (by omega) ne_b72_ca
      refine ktk_end (G := fun t9 w' => 29 ∈ t9 → (Own w' 0 27 1 kv K.length (K.flatMap cK) ∧ Own w' 0 69 1 cb Pb.length (Pb.flatMap cN) ∧ Bx w' (P.getD i default) 115 [(Value.slice none 0 0), ka, ca] ∧ Bx w' p 115 [(Value.slice none 0 0), kv, cv] ∧ Bx w' (P.getD (i + 1) default) 115 [(Value.slice none 0 0), kb, cb])) (todo := [26, 29]) (i := 26) rfl (fun _ => ⟨ok, ocb, hxa, hx, hxb⟩) ?_
      refine ktk_step (rs := [29]) (by kernel_rfl) ?_
      refine one_mem ?_
      intro w94 E94 _ a94 hN94 hbs94 hdp94 o_ ho_; obtain rfl := Option.some.inj ho_
      have z_w94 := E94.size
      have hx := hx.keep0 E94
      have ok := ok.keep0 E94
      have oc := oc.keep0 E94
      have ks : ∀ x9 ∈ K, Own w94 0 5 1 x9.1 x9.2.length (x9.2.map u8v) := fun x9 hx9 => (ks x9 hx9).keep0 E94
      have hxa := hxa.keep0 E94
      have hxb := hxb.keep0 E94
      have okb := okb.keep0 E94
      have ocb := ocb.keep0 E94
      have kas : ∀ x9 ∈ Ka, Own w94 0 5 1 x9.1 x9.2.length (x9.2.map u8v) := fun x9 hx9 => (kas x9 hx9).keep0 E94
      have kbs : ∀ x9 ∈ Kb, Own w94 0 5 1 x9.1 x9.2.length (x9.2.map u8v) := fun x9 hx9 => (kbs x9 hx9).keep0 E94
      have hr := hr.keepG (Gr.of0 E94 NoB) (fun _ _ h => h) (NoK.no _)
      have hKa := hKa.keepG (Gr.of0 E94 NoB) (fun _ _ h => h) (NoK.no _)
      have hkq1 := hkq1.keepG (Gr.of0 E94 NoB) (fun _ _ h => h) (NoK.no _)
      have hkq2 := hkq2.keepG (Gr.of0 E94 NoB) (fun _ _ h => h) (NoK.no _)
      have hB50 := hB50.keep0 E94
      have hO60 := hO60.keep0 E94
      have hB74 := hB74.keep0 E94
      have hO84 := hO84.keep0 E94
      have hb := hb.step0 E94
      have q94_223 : Sl a94 223 (ptr (P.getD i default) 1) := (hdp94 28 _ 223 (by kernel_rfl) rfl rfl).2 rfl
      have q94_209 : Sl a94 209 v57 := (Option.some.inj ((hdp94 14 _ 209 (by kernel_rfl) rfl rfl).1 rfl)).symm
      have hxa_old := hxa
      refine op_store (vs := [v57]) (cs' := [(Value.slice none 0 0), v57, ca]) size90 (ev_base hN94 rfl q94_223) (ev_base hN94 rfl q94_209) hO60.cl rfl (by simp only [List.all_cons, List.all_nil, Bool.true_and, Bool.and_true, hO60.one]; try rfl) hxa (Nat.le_of_ble_eq_true rfl) rfl ?_
      intro w97 hxa E98
      have z_w97 := E98.size
      have hx := hx.keep E98 (by simp only [ne_eq, Option.some.injEq]; omega)
      have ok := ok.keepX hxa_old E98 (by decide)
      have oc := oc.keepX hxa_old E98 (by decide)
      have ks : ∀ x9 ∈ K, Own w97 0 5 1 x9.1 x9.2.length (x9.2.map u8v) := fun x9 hx9 => (ks x9 hx9).keepX hxa_old E98 (by decide)
      have hxb := hxb.keep E98 (by simp only [ne_eq, Option.some.injEq]; omega)
      have okb := okb.keepX hxa_old E98 (by decide)
      have ocb := ocb.keepX hxa_old E98 (by decide)
      have kas : ∀ x9 ∈ Ka, Own w97 0 5 1 x9.1 x9.2.length (x9.2.map u8v) := fun x9 hx9 => (kas x9 hx9).keepX hxa_old E98 (by decide)
      have kbs : ∀ x9 ∈ Kb, Own w97 0 5 1 x9.1 x9.2.length (x9.2.map u8v) := fun x9 hx9 => (kbs x9 hx9).keepX hxa_old E98 (by decide)
      have hr := hr.keepG (Gr.of E98) (Dj.one dk13) (NoK.ofBx hxa_old (by decide))
      have hKa := hKa.keepG (Gr.of E98) (Dj.one dk22) (NoK.ofBx hxa_old (by decide))
      have hkq1 := hkq1.keepG (Gr.of E98) (Dj.one dk32) (NoK.ofBx hxa_old (by decide))
      have hkq2 := hkq2.keepG (Gr.of E98) (Dj.one dk42) (NoK.ofBx hxa_old (by decide))
      have hB50 := hB50.keep E98 (fun hh => hB50.ne hxa_old (by decide) (Option.some.inj hh))
      have hO60 := hO60.keepX hxa_old E98 (by decide)
      have hB74 := hB74.keep E98 (fun hh => hB74.ne hxa_old (by decide) (Option.some.inj hh))
      have hO84 := hO84.keepX hxa_old E98 (by decide)
      have hb := hb.stepB E98 (hNd.wg _ (hfs _ hA.wp))
      refine ktk_end0 (G := fun t9 w' => 29 ∈ t9 → (Own w' 0 27 1 kv K.length (K.flatMap cK) ∧ Own w' 0 69 1 cb Pb.length (Pb.flatMap cN) ∧ Bx w' (P.getD i default) 115 [(Value.slice none 0 0), ka, ca] ∧ Bx w' p 115 [(Value.slice none 0 0), kv, cv] ∧ Bx w' (P.getD (i + 1) default) 115 [(Value.slice none 0 0), kb, cb])) (todo := [29]) (i := 29) rfl (fun h => absurd h (by decide)) ?_
      intro w99 E99 a99 hN99 hd99 hbs99 hph99
      have hd99 := hd99.trans ((by simp only [putsL_defers] : _ = _).trans hd)
      have z_w99 := E99.size
      have hx := hx.keep0 E99
      have ok := ok.keep0 E99
      have oc := oc.keep0 E99
      have ks : ∀ x9 ∈ K, Own w99 0 5 1 x9.1 x9.2.length (x9.2.map u8v) := fun x9 hx9 => (ks x9 hx9).keep0 E99
      have hxb := hxb.keep0 E99
      have okb := okb.keep0 E99
      have ocb := ocb.keep0 E99
      have kas : ∀ x9 ∈ Ka, Own w99 0 5 1 x9.1 x9.2.length (x9.2.map u8v) := fun x9 hx9 => (kas x9 hx9).keep0 E99
      have kbs : ∀ x9 ∈ Kb, Own w99 0 5 1 x9.1 x9.2.length (x9.2.map u8v) := fun x9 hx9 => (kbs x9 hx9).keep0 E99
      have hr := hr.keepG (Gr.of0 E99 NoB) (fun _ _ h => h) (NoK.no _)
      have hKa := hKa.keepG (Gr.of0 E99 NoB) (fun _ _ h => h) (NoK.no _)
      have hkq1 := hkq1.keepG (Gr.of0 E99 NoB) (fun _ _ h => h) (NoK.no _)
      have hkq2 := hkq2.keepG (Gr.of0 E99 NoB) (fun _ _ h => h) (NoK.no _)
      have hB50 := hB50.keep0 E99
      have hO60 := hO60.keep0 E99
      have hB74 := hB74.keep0 E99
      have hO84 := hO84.keep0 E99
      have hxa := hxa.keep0 E99
      have hb := hb.step0 E99
      have s99_0 := (hbs99 0 rfl).trans (sl_base hN rfl s0)
      have s99_1 := (hbs99 1 rfl).trans (sl_base hN rfl s1)
      have s99_6 := (hbs99 6 rfl).trans (sl_hit hN rfl)
      have s99_8 := (hbs99 8 rfl).trans (sl_hit hN rfl)
      have s99_196 : Sl a99 196 (ptr (P.getD i default) 0) := (hph99 1 _ 196 rfl rfl).2 rfl
      have s99_221 : Sl a99 221 v81 := (Option.some.inj ((hph99 26 _ 221 rfl rfl).1 rfl)).symm
      refine split_end ?_
      refine from_seq (tl := [_, _, _]) (by decide) (by kernel_rfl) rfl ?_
      refine op_nil (ev_base hN99 rfl s99_196) ?_
      refine op_field fld115_2 (ev_hit hN99 rfl) ?_
      have hxa_old := hxa
      refine op_store (vs := [v81]) (cs' := [(Value.slice none 0 0), v57, v81]) size113 (ev_hit hN99 rfl) (ev_base hN99 rfl s99_221) hO84.cl rfl (by simp only [List.all_cons, List.all_nil, Bool.true_and, Bool.and_true, hO84.one]; try rfl) hxa (Nat.le_of_ble_eq_true rfl) rfl ?_
      intro w102 hxa E103
      have z_w102 := E103.size
      have hx := hx.keep E103 (by simp only [ne_eq, Option.some.injEq]; omega)
      have ok := ok.keepX hxa_old E103 (by decide)
      have oc := oc.keepX hxa_old E103 (by decide)
      have ks : ∀ x9 ∈ K, Own w102 0 5 1 x9.1 x9.2.length (x9.2.map u8v) := fun x9 hx9 => (ks x9 hx9).keepX hxa_old E103 (by decide)
      have hxb := hxb.keep E103 (by simp only [ne_eq, Option.some.injEq]; omega)
      have okb := okb.keepX hxa_old E103 (by decide)
      have ocb := ocb.keepX hxa_old E103 (by decide)
      have kas : ∀ x9 ∈ Ka, Own w102 0 5 1 x9.1 x9.2.length (x9.2.map u8v) := fun x9 hx9 => (kas x9 hx9).keepX hxa_old E103 (by decide)
      have kbs : ∀ x9 ∈ Kb, Own w102 0 5 1 x9.1 x9.2.length (x9.2.map u8v) := fun x9 hx9 => (kbs x9 hx9).keepX hxa_old E103 (by decide)
      have hr := hr.keepG (Gr.of E103) (Dj.one dk13) (NoK.ofBx hxa_old (by decide))
      have hKa := hKa.keepG (Gr.of E103) (Dj.one dk22) (NoK.ofBx hxa_old (by decide))
      have hkq1 := hkq1.keepG (Gr.of E103) (Dj.one dk32) (NoK.ofBx hxa_old (by decide))
      have hkq2 := hkq2.keepG (Gr.of E103) (Dj.one dk42) (NoK.ofBx hxa_old (by decide))
      have hB50 := hB50.keep E103 (fun hh => hB50.ne hxa_old (by decide) (Option.some.inj hh))
      have hO60 := hO60.keepX hxa_old E103 (by decide)
      have hB74 := hB74.keep E103 (fun hh => hB74.ne hxa_old (by decide) (Option.some.inj hh))
      have hO84 := hO84.keepX hxa_old E103 (by decide)
      have hb := hb.stepB E103 (hNd.wg _ (hfs _ hA.wp))
      refine reg_nil ?_
      refine hK38 _ _ ?_
      exact hJ35 _ _ _ hN99 hd99 ⟨v57, v81, (sl_base hN99 rfl s99_0), (sl_base hN99 rfl s99_1), (sl_base hN99 rfl s99_6), (sl_base hN99 rfl s99_8), dj63, dj64, dj65.symm, dj66.symm, dj67.symm, dj68.symm, (inF_step (n := w.heap.size) hm61 (by omega) (fun k _ h => hNd.wg k (hfs k (hA.wk k h)))), dj87, dj88, dj89.symm, dj90.symm, dj91.symm, dj92.symm, (inF_step (n := w.heap.size) hm85 (by omega) (fun k _ h => hNd.wg k (hfs k (hA.wc k h)))), hb, (by omega), hx, ok, oc, ks, hxb, okb, ocb, kas, kbs, hr, hKa, hkq1, hkq2, (hO60.cast (n' := (Ka ++ [K.getD i default]).length) (cs' := (Ka ++ [K.getD i default]).flatMap cK) (by first | rfl | (simp; done) | (simp only [List.length_append, List.length_cons, List.length_nil]; omega)) (by first | rfl | simp [cK, cN, cI])), (hO84.cast (n' := (Pa ++ [Pb.getD 0 default]).length) (cs' := (Pa ++ [Pb.getD 0 default]).flatMap cN) (by first | rfl | (simp; done) | (simp only [List.length_append, List.length_cons, List.length_nil]; omega)) (by first | rfl | simp [cK, cN, cI])), hxa⟩
     refine one_mem ?_
     intro w104 E104 _ a104 hN104 hbs104 hdp104 o_ ho_; obtain rfl := Option.some.inj ho_
     have z_w104 := E104.size
     have hx := hx.keep0 E104
     have ok := ok.keep0 E104
     have oc := oc.keep0 E104
     have ks : ∀ x9 ∈ K, Own w104 0 5 1 x9.1 x9.2.length (x9.2.map u8v) := fun x9 hx9 => (ks x9 hx9).keep0 E104
     have hxa := hxa.keep0 E104
     have hxb := hxb.keep0 E104
     have oka := oka.keep0 E104
     have okb := okb.keep0 E104
     have oca := oca.keep0 E104
     have ocb := ocb.keep0 E104
     have kas : ∀ x9 ∈ Ka, Own w104 0 5 1 x9.1 x9.2.length (x9.2.map u8v) := fun x9 hx9 => (kas x9 hx9).keep0 E104
     have kbs : ∀ x9 ∈ Kb, Own w104 0 5 1 x9.1 x9.2.length (x9.2.map u8v) := fun x9 hx9 => (kbs x9 hx9).keep0 E104
     have hr := hr.keepG (Gr.of0 E104 NoB) (fun _ _ h => h) (NoK.no _)
     have hKa := hKa.keepG (Gr.of0 E104 NoB) (fun _ _ h => h) (NoK.no _)
     have hkq1 := hkq1.keepG (Gr.of0 E104 NoB) (fun _ _ h => h) (NoK.no _)
     have hkq2 := hkq2.keepG (Gr.of0 E104 NoB) (fun _ _ h => h) (NoK.no _)
     have hB50 := hB50.keep0 E104
     have hb := hb.step0 E104
     have q104_219 : Sl a104 219 (ptr (Pb.getD 0 default) 0) := (hdp104 24 _ 219 (by kernel_rfl) rfl rfl).2 rfl
     refine op_bslice (e := 69) (pv := [(0, (ptr (Pb.getD 0 default) 0))]) (cs := [(ptr (Pb.getD 0 default) 0)]) ⟨rfl, (ev_base hN104 rfl q104_219), trivial⟩ (by kernel_rfl) ?_
     intro w105 b106 lo_b106 hi_b106 hB108 E107
     have dj109 : ¬ G0 b106 := fun hf => by have := (hr.lt _ hf).2; omega
     have dj110 : ¬ Ga b106 := fun hf => by have := (hKa.lt _ hf).2; omega
     have dj111 : ¬ G1 b106 := fun hf => by have := (hkq1.lt _ hf).2; omega
     have dj112 : ¬ G2 b106 := fun hf => by have := (hkq2.lt _ hf).2; omega
     have ne_b106_cv : cv.ownBlock ≠ some b106 := fun hh => by have := (oc.lt _ hh).2; omega
     have ne_b106_ca : ca.ownBlock ≠ some b106 := fun hh => by have := (oca.lt _ hh).2; omega
     have ne_b106_cb : cb.ownBlock ≠ some b106 := fun hh => by have := (ocb.lt _ hh).2; omega
     have z_w105 := E107.size
     have hx := hx.keep0 E107
     have ok := ok.keep0 E107
     have oc := oc.keep0 E107
     have ks : ∀ x9 ∈ K, Own w105 0 5 1 x9.1 x9.2.length (x9.2.map u8v) := fun x9 hx9 => (ks x9 hx9).keep0 E107
     have hxa := hxa.keep0 E107
     have hxb := hxb.keep0 E107
     have oka := oka.keep0 E107
     have okb := okb.keep0 E107
     have oca := oca.keep0 E107
     have ocb := ocb.keep0 E107
     have kas : ∀ x9 ∈ Ka, Own w105 0 5 1 x9.1 x9.2.length (x9.2.map u8v) := fun x9 hx9 => (kas x9 hx9).keep0 E107
     have kbs : ∀ x9 ∈ Kb, Own w105 0 5 1 x9.1 x9.2.length (x9.2.map u8v) := fun x9 hx9 => (kbs x9 hx9).keep0 E107
     have hr := hr.keepG (Gr.of0 E107 NoB) (fun _ _ h => h) (NoK.no _)
     have hKa := hKa.keepG (Gr.of0 E107 NoB) (fun _ _ h => h) (NoK.no _)
     have hkq1 := hkq1.keepG (Gr.of0 E107 NoB) (fun _ _ h => h) (NoK.no _)
     have hkq2 := hkq2.keepG (Gr.of0 E107 NoB) (fun _ _ h => h) (NoK.no _)
     have hB50 := hB50.keep0 E107
     have hb := hb.step0 E107
     refine ktk_end (G := fun t9 w' => 29 ∈ t9 → (Own w' 0 27 1 kv K.length (K.flatMap cK) ∧ Own w' 0 69 1 cb Pb.length (Pb.flatMap cN) ∧ Bx w' (P.getD i default) 115 [(Value.slice none 0 0), ka, ca] ∧ Bx w' p 115 [(Value.slice none 0 0), kv, cv] ∧ Bx w' (P.getD (i + 1) default) 115 [(Value.slice none 0 0), kb, cb])) (todo := [14, 25, 26, 29]) (i := 25) rfl (fun _ => ⟨ok, ocb, hxa, hx, hxb⟩) ?_
     refine ktk_step (rs := [14]) (by kernel_rfl) ?_
     refine one_mem ?_
     intro w114 E114 _ a114 hN114 hbs114 hdp114 o_ ho_; obtain rfl := Option.some.inj ho_
     have z_w114 := E114.size
     have hx := hx.keep0 E114
     have ok := ok.keep0 E114
     have oc := oc.keep0 E114
     have ks : ∀ x9 ∈ K, Own w114 0 5 1 x9.1 x9.2.length (x9.2.map u8v) := fun x9 hx9 => (ks x9 hx9).keep0 E114
     have hxa := hxa.keep0 E114
     have hxb := hxb.keep0 E114
     have oka := oka.keep0 E114
     have okb := okb.keep0 E114
     have oca := oca.keep0 E114
     have ocb := ocb.keep0 E114
     have kas : ∀ x9 ∈ Ka, Own w114 0 5 1 x9.1 x9.2.length (x9.2.map u8v) := fun x9 hx9 => (kas x9 hx9).keep0 E114
     have kbs : ∀ x9 ∈ Kb, Own w114 0 5 1 x9.1 x9.2.length (x9.2.map u8v) := fun x9 hx9 => (kbs x9 hx9).keep0 E114
     have hr := hr.keepG (Gr.of0 E114 NoB) (fun _ _ h => h) (NoK.no _)
     have hKa := hKa.keepG (Gr.of0 E114 NoB) (fun _ _ h => h) (NoK.no _)
     have hkq1 := hkq1.keepG (Gr.of0 E114 NoB) (fun _ _ h => h) (NoK.no _)
     have hkq2 := hkq2.keepG (Gr.of0 E114 NoB) (fun _ _ h => h) (NoK.no _)
     have hB50 := hB50.keep0 E114
     have hB108 := hB108.keep0 E114
     have hb := hb.step0 E114
     have q114_200 : Sl a114 200 ka := (hdp114 5 _ 200 (by kernel_rfl) rfl rfl).2 rfl
     have q114_208 : Sl a114 208 (Value.slice (some ⟨b48, 0, none⟩) 1 1) := (Option.some.inj ((hdp114 13 _ 208 (by kernel_rfl) rfl rfl).1 rfl)).symm
     have hP120 := oka
     refine op_append slt90 (ev_base hN114 rfl q114_200) hP120 (ev_base hN114 rfl q114_208) (Src.ofRd Try.underlying90 (by decide) (RdC.ofBx (sz := 1) (n := 1) hB50 rfl (by decide)) (by simp only [List.all_cons, List.all_nil, Bool.true_and, Bool.and_true, (own_one (show Own _ _ _ _ (K.getD i default).1 (K.getD i default).2.length ((K.getD i default).2.map u8v) from ks (K.getD i default) (getD_mem (by first | omega | (simp only [List.length_drop, List.length_take]; omega)))))]; try rfl)) (by unfold maxLen; omega) (by omega) (Nat.le_trans (by assumption) hb.size) ?_
     intro v115 w116 hO118 E117 hm119
     have dj121 : DJ kv v115 := DJ.step hm119 (fun k hk => (ok.lt k hk).2) dk3
     have dj122 : DJ kb v115 := DJ.step hm119 (fun k hk => (okb.lt k hk).2) dk7.symm
     have dj123 : Dj G0 (Bl v115) := Dj.step hm119 (fun k hk => (hr.lt k hk).2) dk9.symm
     have dj124 : Dj Ga (Bl v115) := Dj.step hm119 (fun k hk => (hKa.lt k hk).2) dk18.symm
     have dj125 : Dj G1 (Bl v115) := Dj.step hm119 (fun k hk => (hkq1.lt k hk).2) dk28.symm
     have dj126 : Dj G2 (Bl v115) := Dj.step hm119 (fun k hk => (hkq2.lt k hk).2) dk38.symm
     have z_w116 := E117.size
     have hx := hx.keepO hP120 E117 (by decide)
     have ok := ok.keepD E117 dk3
     have oc := oc.keepT hP120 E117 (by decide)
     have ks : ∀ x9 ∈ K, Own w116 0 5 1 x9.1 x9.2.length (x9.2.map u8v) := fun x9 hx9 => (ks x9 hx9).keepT hP120 E117 (by decide)
     have hxa := hxa.keepO hP120 E117 (by decide)
     have hxb := hxb.keepO hP120 E117 (by decide)
     have okb := okb.keepD E117 dk7.symm
     have oca := oca.keepT hP120 E117 (by decide)
     have ocb := ocb.keepT hP120 E117 (by decide)
     have kas : ∀ x9 ∈ Ka, Own w116 0 5 1 x9.1 x9.2.length (x9.2.map u8v) := fun x9 hx9 => (kas x9 hx9).keepT hP120 E117 (by decide)
     have kbs : ∀ x9 ∈ Kb, Own w116 0 5 1 x9.1 x9.2.length (x9.2.map u8v) := fun x9 hx9 => (kbs x9 hx9).keepT hP120 E117 (by decide)
     have hr := hr.keepG (Gr.of E117) dk9.symm (NoK.ofOwn hP120 (by decide))
     have hKa := hKa.keepG (Gr.of E117) dk18.symm (NoK.ofOwn hP120 (by decide))
     have hkq1 := hkq1.keepG (Gr.of E117) dk28.symm (NoK.ofOwn hP120 (by decide))
     have hkq2 := hkq2.keepG (Gr.of E117) dk38.symm (NoK.ofOwn hP120 (by decide))
     have hB50 := hB50.keep E117 (fun hh => ne_b48_ka hh.symm)
     have hB108 := hB108.keepO hP120 E117 (by decide)
     have hb := hb.stepL E117 (fun k _ h => hNd.wg k (hfs k (hA.wk k h)))
     have hO118 : Own w116 0 27 1 v115 (Ka.length + 1) ((Ka.flatMap cK ++ [(K.getD i default).1])) := by simpa [u8v, sv] using hO118
     have ne_b48_v115 : v115.ownBlock ≠ some b48 := ne_step (w1 := w114) ⟨E117, hm119⟩ (by omega) ne_b48_ka
     refine ktk_end (G := fun t9 w' => 29 ∈ t9 → (Own w' 0 27 1 kv K.length (K.flatMap cK) ∧ Own w' 0 69 1 cb Pb.length (Pb.flatMap cN) ∧ Bx w' (P.getD i default) 115 [(Value.slice none 0 0), ka, ca] ∧ Bx w' p 115 [(Value.slice none 0 0), kv, cv] ∧ Bx w' (P.getD (i + 1) default) 115 [(Value.slice none 0 0), kb, cb])) (todo := [14, 26, 29]) (i := 14) rfl (fun _ => ⟨ok, ocb, hxa, hx, hxb⟩) ?_
     refine ktk_step (rs := [26]) (by kernel_rfl) ?_
     refine one_mem ?_
     intro w128 E128 _ a128 hN128 hbs128 hdp128 o_ ho_; obtain rfl := Option.some.inj ho_
     have z_w128 := E128.size
     have hx := hx.keep0 E128
     have ok := ok.keep0 E128
     have oc := oc.keep0 E128
     have ks : ∀ x9 ∈ K, Own w128 0 5 1 x9.1 x9.2.length (x9.2.map u8v) := fun x9 hx9 => (ks x9 hx9).keep0 E128
     have hxa := hxa.keep0 E128
     have hxb := hxb.keep0 E128
     have okb := okb.keep0 E128
     have oca := oca.keep0 E128
     have ocb := ocb.keep0 E128
     have kas : ∀ x9 ∈ Ka, Own w128 0 5 1 x9.1 x9.2.length (x9.2.map u8v) := fun x9 hx9 => (kas x9 hx9).keep0 E128
     have kbs : ∀ x9 ∈ Kb, Own w128 0 5 1 x9.1 x9.2.length (x9.2.map u8v) := fun x9 hx9 => (kbs x9 hx9).keep0 E128
     have hr := hr.keepG (Gr.of0 E128 NoB) (fun _ _ h => h) (NoK.no _)
     have hKa := hKa.keepG (Gr.of0 E128 NoB) (fun _ _ h => h) (NoK.no _)
     have hkq1 := hkq1.keepG (Gr.of0 E128 NoB) (fun _ _ h => h) (NoK.no _)
     have hkq2 := hkq2.keepG (Gr.of0 E128 NoB) (fun _ _ h => h) (NoK.no _)
     have hB50 := hB50.keep0 E128
     have hB108 := hB108.keep0 E128
     have hO118 := hO118.keep0 E128
     have hb := hb.step0 E128
     have q128_213 : Sl a128 213 ca := (hdp128 18 _ 213 (by kernel_rfl) rfl rfl).2 rfl
     have q128_220 : Sl a128 220 (Value.slice (some ⟨b106, 0, none⟩) 1 1) := (Option.some.inj ((hdp128 25 _ 220 (by kernel_rfl) rfl rfl).1 rfl)).symm
     have hP134 := oca
     refine op_append slt113 (ev_base hN128 rfl q128_213) hP134 (ev_base hN128 rfl q128_220) (Src.ofRd Try.underlying113 (by decide) (RdC.ofBx (sz := 1) (n := 1) hB108 rfl (by decide)) (one_pn [Pb.getD 0 default])) (by unfold maxLen; omega) (by omega) (Nat.le_trans (by assumption) hb.size) ?_
     intro v129 w130 hO132 E131 hm133
     have dj135 : DJ cv v129 := DJ.step hm133 (fun k hk => (oc.lt k hk).2) dk5
     have dj136 : DJ cb v129 := DJ.step hm133 (fun k hk => (ocb.lt k hk).2) dk8.symm
     have dj137 : Dj G0 (Bl v129) := Dj.step hm133 (fun k hk => (hr.lt k hk).2) dk10.symm
     have dj138 : Dj Ga (Bl v129) := Dj.step hm133 (fun k hk => (hKa.lt k hk).2) dk19.symm
     have dj139 : Dj G1 (Bl v129) := Dj.step hm133 (fun k hk => (hkq1.lt k hk).2) dk29.symm
     have dj140 : Dj G2 (Bl v129) := Dj.step hm133 (fun k hk => (hkq2.lt k hk).2) dk39.symm
     have z_w130 := E131.size
     have hx := hx.keepO hP134 E131 (by decide)
     have ok := ok.keepT hP134 E131 (by decide)
     have oc := oc.keepD E131 dk5
     have ks : ∀ x9 ∈ K, Own w130 0 5 1 x9.1 x9.2.length (x9.2.map u8v) := fun x9 hx9 => (ks x9 hx9).keepT hP134 E131 (by decide)
     have hxa := hxa.keepO hP134 E131 (by decide)
     have hxb := hxb.keepO hP134 E131 (by decide)
     have okb := okb.keepT hP134 E131 (by decide)
     have ocb := ocb.keepD E131 dk8.symm
     have kas : ∀ x9 ∈ Ka, Own w130 0 5 1 x9.1 x9.2.length (x9.2.map u8v) := fun x9 hx9 => (kas x9 hx9).keepT hP134 E131 (by decide)
     have kbs : ∀ x9 ∈ Kb, Own w130 0 5 1 x9.1 x9.2.length (x9.2.map u8v) := fun x9 hx9 => (kbs x9 hx9).keepT hP134 E131 (by decide)
     have hr := hr.keepG (Gr.of E131) dk10.symm (NoK.ofOwn hP134 (by decide))
     have hKa := hKa.keepG (Gr.of E131) dk19.symm (NoK.ofOwn hP134 (by decide))
     have hkq1 := hkq1.keepG (Gr.of E131) dk29.symm (NoK.ofOwn hP134 (by decide))
     have hkq2 := hkq2.keepG (Gr.of E131) dk39.symm (NoK.ofOwn hP134 (by decide))
     have hB50 := hB50.keepO hP134 E131 (by decide)
     have hB108 := hB108.keep E131 (fun hh => ne_b106_ca hh.symm)
     have hO118 := hO118.keepT hP134 E131 (by decide)
     have hb := hb.stepL E131 (fun k _ h => hNd.wg k (hfs k (hA.wc k h)))
     have hO132 : Own w130 0 69 1 v129 (Pa.length + 1) ((Pa.flatMap cN ++ [(ptr (Pb.getD 0 default) 0)])) := by simpa [u8v, sv] using hO132
     have ne_b106_v129 : v129.ownBlock ≠ some b106 := ne_step (w1 := w128) ⟨E131, hm133⟩ (by omega) ne_b106_ca
     refine ktk_end (G := fun t9 w' => 29 ∈ t9 → (Own w' 0 27 1 kv K.length (K.flatMap cK) ∧ Own w' 0 69 1 cb Pb.length (Pb.flatMap cN) ∧ Bx w' (P.getD i default) 115 [(Value.slice none 0 0), ka, ca] ∧ Bx w' p 115 [(Value.slice none 0 0), kv, cv] ∧ Bx w' (P.getD (i + 1) default) 115 [(Value.slice none 0 0), kb, cb])) (todo := [26, 29]) (i := 26) rfl (fun _ => ⟨ok, ocb, hxa, hx, hxb⟩) ?_
     refine ktk_step (rs := [29]) (by kernel_rfl) ?_
     refine one_mem ?_
     intro w142 E142 _ a142 hN142 hbs142 hdp142 o_ ho_; obtain rfl := Option.some.inj ho_
     have z_w142 := E142.size
     have hx := hx.keep0 E142
     have ok := ok.keep0 E142
     have oc := oc.keep0 E142
     have ks : ∀ x9 ∈ K, Own w142 0 5 1 x9.1 x9.2.length (x9.2.map u8v) := fun x9 hx9 => (ks x9 hx9).keep0 E142
     have hxa := hxa.keep0 E142
     have hxb := hxb.keep0 E142
     have okb := okb.keep0 E142
     have ocb := ocb.keep0 E142
     have kas : ∀ x9 ∈ Ka, Own w142 0 5 1 x9.1 x9.2.length (x9.2.map u8v) := fun x9 hx9 => (kas x9 hx9).keep0 E142
     have kbs : ∀ x9 ∈ Kb, Own w142 0 5 1 x9.1 x9.2.length (x9.2.map u8v) := fun x9 hx9 => (kbs x9 hx9).keep0 E142
     have hr := hr.keepG (Gr.of0 E142 NoB) (fun _ _ h => h) (NoK.no _)
     have hKa := hKa.keepG (Gr.of0 E142 NoB) (fun _ _ h => h) (NoK.no _)
     have hkq1 := hkq1.keepG (Gr.of0 E142 NoB) (fun _ _ h => h) (NoK.no _)
     have hkq2 := hkq2.keepG (Gr.of0 E142 NoB) (fun _ _ h => h) (NoK.no _)
     have hB50 := hB50.keep0 E142
     have hB108 := hB108.keep0 E142
     have hO118 := hO118.keep0 E142
     have hO132 := hO132.keep0 E142
     have hb := hb.step0 E142
     have q142_223 : Sl a142 223 (ptr (P.getD i default) 1) := (hdp142 28 _ 223 (by kernel_rfl) rfl rfl).2 rfl
     have q142_209 : Sl a142 209 v115 := (Option.some.inj ((hdp142 14 _ 209 (by kernel_rfl) rfl rfl).1 rfl)).symm
     have hxa_old := hxa
     refine op_store (vs := [v115]) (cs' := [(Value.slice none 0 0), v115, ca]) size90 (ev_base hN142 rfl q142_223) (ev_base hN142 rfl q142_209) hO118.cl rfl (by simp only [List.all_cons, List.all_nil, Bool.true_and, Bool.and_true, hO118.one]; try rfl) hxa (Nat.le_of_ble_eq_true rfl) rfl ?_
     intro w145 hxa E146
     have z_w145 := E146.size
     have hx := hx.keep E146 (by simp only [ne_eq, Option.some.injEq]; omega)
     have ok := ok.keepX hxa_old E146 (by decide)
     have oc := oc.keepX hxa_old E146 (by decide)
     have ks : ∀ x9 ∈ K, Own w145 0 5 1 x9.1 x9.2.length (x9.2.map u8v) := fun x9 hx9 => (ks x9 hx9).keepX hxa_old E146 (by decide)
     have hxb := hxb.keep E146 (by simp only [ne_eq, Option.some.injEq]; omega)
     have okb := okb.keepX hxa_old E146 (by decide)
     have ocb := ocb.keepX hxa_old E146 (by decide)
     have kas : ∀ x9 ∈ Ka, Own w145 0 5 1 x9.1 x9.2.length (x9.2.map u8v) := fun x9 hx9 => (kas x9 hx9).keepX hxa_old E146 (by decide)
     have kbs : ∀ x9 ∈ Kb, Own w145 0 5 1 x9.1 x9.2.length (x9.2.map u8v) := fun x9 hx9 => (kbs x9 hx9).keepX hxa_old E146 (by decide)
     have hr := hr.keepG (Gr.of E146) (Dj.one dk13) (NoK.ofBx hxa_old (by decide))
     have hKa := hKa.keepG (Gr.of E146) (Dj.one dk22) (NoK.ofBx hxa_old (by decide))
     have hkq1 := hkq1.keepG (Gr.of E146) (Dj.one dk32) (NoK.ofBx hxa_old (by decide))
     have hkq2 := hkq2.keepG (Gr.of E146) (Dj.one dk42) (NoK.ofBx hxa_old (by decide))
     have hB50 := hB50.keep E146 (fun hh => hB50.ne hxa_old (by decide) (Option.some.inj hh))
     have hB108 := hB108.keep E146 (fun hh => hB108.ne hxa_old (by decide) (Option.some.inj hh))
     have hO118 := hO118.keepX hxa_old E146 (by decide)
     have hO132 := hO132.keepX hxa_old E146 (by decide)
     have hb := hb.stepB E146 (hNd.wg _ (hfs _ hA.wp))
     refine ktk_end0 (G := fun t9 w' => 29 ∈ t9 → (Own w' 0 27 1 kv K.length (K.flatMap cK) ∧ Own w' 0 69 1 cb Pb.length (Pb.flatMap cN) ∧ Bx w' (P.getD i default) 115 [(Value.slice none 0 0), ka, ca] ∧ Bx w' p 115 [(Value.slice none 0 0), kv, cv] ∧ Bx w' (P.getD (i + 1) default) 115 [(Value.slice none 0 0), kb, cb])) (todo := [29]) (i := 29) rfl (fun h => absurd h (by decide)) ?_
     intro w147 E147 a147 hN147 hd147 hbs147 hph147
     have hd147 := hd147.trans ((by simp only [putsL_defers] : _ = _).trans hd)
     have z_w147 := E147.size
     have hx := hx.keep0 E147
     have ok := ok.keep0 E147
     have oc := oc.keep0 E147
     have ks : ∀ x9 ∈ K, Own w147 0 5 1 x9.1 x9.2.length (x9.2.map u8v) := fun x9 hx9 => (ks x9 hx9).keep0 E147
     have hxb := hxb.keep0 E147
     have okb := okb.keep0 E147
     have ocb := ocb.keep0 E147
     have kas : ∀ x9 ∈ Ka, Own w147 0 5 1 x9.1 x9.2.length (x9.2.map u8v) := fun x9 hx9 => (kas x9 hx9).keep0 E147
     have kbs : ∀ x9 ∈ Kb, Own w147 0 5 1 x9.1 x9.2.length (x9.2.map u8v) := fun x9 hx9 => (kbs x9 hx9).keep0 E147
     have hr := hr.keepG (Gr.of0 E147 NoB) (fun _ _ h => h) (NoK.no _)
     have hKa := hKa.keepG (Gr.of0 E147 NoB) (fun _ _ h => h) (NoK.no _)
     have hkq1 := hkq1.keepG (Gr.of0 E147 NoB) (fun _ _ h => h) (NoK.no _)
     have hkq2 := hkq2.keepG (Gr.of0 E147 NoB) (fun _ _ h => h) (NoK.no _)
     have hB50 := hB50.keep0 E147
     have hB108 := hB108.keep0 E147
     have hO118 := hO118.keep0 E147
     have hO132 := hO132.keep0 E147
     have hxa := hxa.keep0 E147
     have hb := hb.step0 E147
     have s147_0 := (hbs147 0 rfl).trans (sl_base hN rfl s0)
     have s147_1 := (hbs147 1 rfl).trans (sl_base hN rfl s1)
     have s147_6 := (hbs147 6 rfl).trans (sl_hit hN rfl)
     have s147_8 := (hbs147 8 rfl).trans (sl_hit hN rfl)
     have s147_196 : Sl a147 196 (ptr (P.getD i default) 0) := (hph147 1 _ 196 rfl rfl).2 rfl
     have s147_221 : Sl a147 221 v129 := (Option.some.inj ((hph147 26 _ 221 rfl rfl).1 rfl)).symm
     refine split_end ?_
     refine from_seq (tl := [_, _, _]) (by decide) (by kernel_rfl) rfl ?_
     refine op_nil (ev_base hN147 rfl s147_196) ?_
     refine op_field fld115_2 (ev_hit hN147 rfl) ?_
     have hxa_old := hxa
     refine op_store (vs := [v129]) (cs' := [(Value.slice none 0 0), v115, v129]) size113 (ev_hit hN147 rfl) (ev_base hN147 rfl s147_221) hO132.cl rfl (by simp only [List.all_cons, List.all_nil, Bool.true_and, Bool.and_true, hO132.one]; try rfl) hxa (Nat.le_of_ble_eq_true rfl) rfl ?_
     intro w150 hxa E151
     have z_w150 := E151.size
     have hx := hx.keep E151 (by simp only [ne_eq, Option.some.injEq]; omega)
     have ok := ok.keepX hxa_old E151 (by decide)
     have oc := oc.keepX hxa_old E151 (by decide)
     have ks : ∀ x9 ∈ K, Own w150 0 5 1 x9.1 x9.2.length (x9.2.map u8v) := fun x9 hx9 => (ks x9 hx9).keepX hxa_old E151 (by decide)
     have hxb := hxb.keep E151 (by simp only [ne_eq, Option.some.injEq]; omega)
     have okb := okb.keepX hxa_old E151 (by decide)
     have ocb := ocb.keepX hxa_old E151 (by decide)
     have kas : ∀ x9 ∈ Ka, Own w150 0 5 1 x9.1 x9.2.length (x9.2.map u8v) := fun x9 hx9 => (kas x9 hx9).keepX hxa_old E151 (by decide)
     have kbs : ∀ x9 ∈ Kb, Own w150 0 5 1 x9.1 x9.2.length (x9.2.map u8v) := fun x9 hx9 => (kbs x9 hx9).keepX hxa_old E151 (by decide)
     have hr := hr.keepG (Gr.of E151) (Dj.one dk13) (NoK.ofBx hxa_old (by decide))
     have hKa := hKa.keepG (Gr.of E151) (Dj.one dk22) (NoK.ofBx hxa_old (by decide))
     have hkq1 := hkq1.keepG (Gr.of E151) (Dj.one dk32) (NoK.ofBx hxa_old (by decide))
     have hkq2 := hkq2.keepG (Gr.of E151) (Dj.one dk42) (NoK.ofBx hxa_old (by decide))
     have hB50 := hB50.keep E151 (fun hh => hB50.ne hxa_old (by decide) (Option.some.inj hh))
     have hB108 := hB108.keep E151 (fun hh => hB108.ne hxa_old (by decide) (Option.some.inj hh))
     have hO118 := hO118.keepX hxa_old E151 (by decide)
     have hO132 := hO132.keepX hxa_old E151 (by decide)
     have hb := hb.stepB E151 (hNd.wg _ (hfs _ hA.wp))
     refine reg_nil ?_
     refine hK38 _ _ ?_
     exact hJ35 _ _ _ hN147 hd147 ⟨v115, v129, (sl_base hN147 rfl s147_0), (sl_base hN147 rfl s147_1), (sl_base hN147 rfl s147_6), (sl_base hN147 rfl s147_8), dj121, dj122, dj123.symm, dj124.symm, dj125.symm, dj126.symm, (inF_step (n := w.heap.size) hm119 (by omega) (fun k _ h => hNd.wg k (hfs k (hA.wk k h)))), dj135, dj136, dj137.symm, dj138.symm, dj139.symm, dj140.symm, (inF_step (n := w.heap.size) hm133 (by omega) (fun k _ h => hNd.wg k (hfs k (hA.wc k h)))), hb, (by omega), hx, ok, oc, ks, hxb, okb, ocb, kas, kbs, hr, hKa, hkq1, hkq2, (hO118.cast (n' := (Ka ++ [K.getD i default]).length) (cs' := (Ka ++ [K.getD i default]).flatMap cK) (by first | rfl | (simp; done) | (simp only [List.length_append, List.length_cons, List.length_nil]; omega)) (by first | rfl | simp [cK, cN, cI])), (hO132.cast (n' := (Pa ++ [Pb.getD 0 default]).length) (cs' := (Pa ++ [Pb.getD 0 default]).flatMap cN) (by first | rfl | (simp; done) | (simp only [List.length_append, List.length_cons, List.length_nil]; omega)) (by first | rfl | simp [cK, cN, cI])), hxa⟩
    refine one_mem ?_
    intro w152 E152 _ a152 hN152 hbs152 hdp152 o_ ho_; obtain rfl := Option.some.inj ho_
    have z_w152 := E152.size
    have hx := hx.keep0 E152
    have ok := ok.keep0 E152
    have oc := oc.keep0 E152
    have ks : ∀ x9 ∈ K, Own w152 0 5 1 x9.1 x9.2.length (x9.2.map u8v) := fun x9 hx9 => (ks x9 hx9).keep0 E152
    have hxa := hxa.keep0 E152
    have hxb := hxb.keep0 E152
    have oka := oka.keep0 E152
    have okb := okb.keep0 E152
    have oca := oca.keep0 E152
    have ocb := ocb.keep0 E152
    have kas : ∀ x9 ∈ Ka, Own w152 0 5 1 x9.1 x9.2.length (x9.2.map u8v) := fun x9 hx9 => (kas x9 hx9).keep0 E152
    have kbs : ∀ x9 ∈ Kb, Own w152 0 5 1 x9.1 x9.2.length (x9.2.map u8v) := fun x9 hx9 => (kbs x9 hx9).keep0 E152
    have hr := hr.keepG (Gr.of0 E152 NoB) (fun _ _ h => h) (NoK.no _)
    have hKa := hKa.keepG (Gr.of0 E152 NoB) (fun _ _ h => h) (NoK.no _)
    have hkq1 := hkq1.keepG (Gr.of0 E152 NoB) (fun _ _ h => h) (NoK.no _)
    have hkq2 := hkq2.keepG (Gr.of0 E152 NoB) (fun _ _ h => h) (NoK.no _)
    have hb := hb.step0 E152
    have q152_219 : Sl a152 219 (ptr (Pb.getD 0 default) 0) := (hdp152 24 _ 219 (by kernel_rfl) rfl rfl).2 rfl
    refine op_bslice (e := 69) (pv := [(0, (ptr (Pb.getD 0 default) 0))]) (cs := [(ptr (Pb.getD 0 default) 0)]) ⟨rfl, (ev_base hN152 rfl q152_219), trivial⟩ (by kernel_rfl) ?_
    intro w153 b154 lo_b154 hi_b154 hB156 E155
    have dj157 : ¬ G0 b154 := fun hf => by have := (hr.lt _ hf).2; omega
    have dj158 : ¬ Ga b154 := fun hf => by have := (hKa.lt _ hf).2; omega
    have dj159 : ¬ G1 b154 := fun hf => by have := (hkq1.lt _ hf).2; omega
    have dj160 : ¬ G2 b154 := fun hf => by have := (hkq2.lt _ hf).2; omega
    have ne_b154_cv : cv.ownBlock ≠ some b154 := fun hh => by have := (oc.lt _ hh).2; omega
    have ne_b154_ca : ca.ownBlock ≠ some b154 := fun hh => by have := (oca.lt _ hh).2; omega
    have ne_b154_cb : cb.ownBlock ≠ some b154 := fun hh => by have := (ocb.lt _ hh).2; omega
    have z_w153 := E155.size
    have hx := hx.keep0 E155
    have ok := ok.keep0 E155
    have oc := oc.keep0 E155
    have ks : ∀ x9 ∈ K, Own w153 0 5 1 x9.1 x9.2.length (x9.2.map u8v) := fun x9 hx9 => (ks x9 hx9).keep0 E155
    have hxa := hxa.keep0 E155
    have hxb := hxb.keep0 E155
    have oka := oka.keep0 E155
    have okb := okb.keep0 E155
    have oca := oca.keep0 E155
    have ocb := ocb.keep0 E155
    have kas : ∀ x9 ∈ Ka, Own w153 0 5 1 x9.1 x9.2.length (x9.2.map u8v) := fun x9 hx9 => (kas x9 hx9).keep0 E155
    have kbs : ∀ x9 ∈ Kb, Own w153 0 5 1 x9.1 x9.2.length (x9.2.map u8v) := fun x9 hx9 => (kbs x9 hx9).keep0 E155
    have hr := hr.keepG (Gr.of0 E155 NoB) (fun _ _ h => h) (NoK.no _)
    have hKa := hKa.keepG (Gr.of0 E155 NoB) (fun _ _ h => h) (NoK.no _)
    have hkq1 := hkq1.keepG (Gr.of0 E155 NoB) (fun _ _ h => h) (NoK.no _)
    have hkq2 := hkq2.keepG (Gr.of0 E155 NoB) (fun _ _ h => h) (NoK.no _)
    have hb := hb.step0 E155
    refine ktk_end (G := fun t9 w' => 29 ∈ t9 → (Own w' 0 27 1 kv K.length (K.flatMap cK) ∧ Own w' 0 69 1 cb Pb.length (Pb.flatMap cN) ∧ Bx w' (P.getD i default) 115 [(Value.slice none 0 0), ka, ca] ∧ Bx w' p 115 [(Value.slice none 0 0), kv, cv] ∧ Bx w' (P.getD (i + 1) default) 115 [(Value.slice none 0 0), kb, cb])) (todo := [13, 14, 25, 26, 29]) (i := 25) rfl (fun _ => ⟨ok, ocb, hxa, hx, hxb⟩) ?_
    refine ktk_step (rs := [13]) (by kernel_rfl) ?_
    refine one_mem ?_
    intro w162 E162 _ a162 hN162 hbs162 hdp162 o_ ho_; obtain rfl := Option.some.inj ho_
    have z_w162 := E162.size
    have hx := hx.keep0 E162
    have ok := ok.keep0 E162
    have oc := oc.keep0 E162
    have ks : ∀ x9 ∈ K, Own w162 0 5 1 x9.1 x9.2.length (x9.2.map u8v) := fun x9 hx9 => (ks x9 hx9).keep0 E162
    have hxa := hxa.keep0 E162
    have hxb := hxb.keep0 E162
    have oka := oka.keep0 E162
    have okb := okb.keep0 E162
    have oca := oca.keep0 E162
    have ocb := ocb.keep0 E162
    have kas : ∀ x9 ∈ Ka, Own w162 0 5 1 x9.1 x9.2.length (x9.2.map u8v) := fun x9 hx9 => (kas x9 hx9).keep0 E162
    have kbs : ∀ x9 ∈ Kb, Own w162 0 5 1 x9.1 x9.2.length (x9.2.map u8v) := fun x9 hx9 => (kbs x9 hx9).keep0 E162
    have hr := hr.keepG (Gr.of0 E162 NoB) (fun _ _ h => h) (NoK.no _)
    have hKa := hKa.keepG (Gr.of0 E162 NoB) (fun _ _ h => h) (NoK.no _)
    have hkq1 := hkq1.keepG (Gr.of0 E162 NoB) (fun _ _ h => h) (NoK.no _)
    have hkq2 := hkq2.keepG (Gr.of0 E162 NoB) (fun _ _ h => h) (NoK.no _)
    have hB156 := hB156.keep0 E162
    have hb := hb.step0 E162
    have q162_207 : Sl a162 207 (K.getD i default).1 := (hdp162 12 _ 207 (by kernel_rfl) rfl rfl).2 rfl
    refine op_bslice (e := 27) (pv := [(0, (K.getD i default).1)]) (cs := [(K.getD i default).1]) ⟨rfl, (ev_base hN162 rfl q162_207), trivial⟩ (by obtain ⟨_, _, _, hq9⟩ := (show Own _ _ _ _ (K.getD i default).1 (K.getD i default).2.length ((K.getD i default).2.map u8v) from ks (K.getD i default) (getD_mem (by first | omega | (simp only [List.length_drop, List.length_take]; omega)))).sl; rw [hq9]; kernel_rfl) ?_
    intro w163 b164 lo_b164 hi_b164 hB166 E165
    have dj167 : ¬ G0 b164 := fun hf => by have := (hr.lt _ hf).2; omega
    have dj168 : ¬ Ga b164 := fun hf => by have := (hKa.lt _ hf).2; omega
    have dj169 : ¬ G1 b164 := fun hf => by have := (hkq1.lt _ hf).2; omega
    have dj170 : ¬ G2 b164 := fun hf => by have := (hkq2.lt _ hf).2; omega
    have ne_b164_kv : kv.ownBlock ≠ some b164 := fun hh => by have := (ok.lt _ hh).2; omega
    have ne_b164_ka : ka.ownBlock ≠ some b164 := fun hh => by have := (oka.lt _ hh).2; omega
    have ne_b164_kb : kb.ownBlock ≠ some b164 := fun hh => by have := (okb.lt _ hh).2; omega
    have z_w163 := E165.size
    have hx := hx.keep0 E165
    have ok := ok.keep0 E165
    have oc := oc.keep0 E165
    have ks : ∀ x9 ∈ K, Own w163 0 5 1 x9.1 x9.2.length (x9.2.map u8v) := fun x9 hx9 => (ks x9 hx9).keep0 E165
    have hxa := hxa.keep0 E165
    have hxb := hxb.keep0 E165
    have oka := oka.keep0 E165
    have okb := okb.keep0 E165
    have oca := oca.keep0 E165
    have ocb := ocb.keep0 E165
    have kas : ∀ x9 ∈ Ka, Own w163 0 5 1 x9.1 x9.2.length (x9.2.map u8v) := fun x9 hx9 => (kas x9 hx9).keep0 E165
    have kbs : ∀ x9 ∈ Kb, Own w163 0 5 1 x9.1 x9.2.length (x9.2.map u8v) := fun x9 hx9 => (kbs x9 hx9).keep0 E165
    have hr := hr.keepG (Gr.of0 E165 NoB) (fun _ _ h => h) (NoK.no _)
    have hKa := hKa.keepG (Gr.of0 E165 NoB) (fun _ _ h => h) (NoK.no _)
    have hkq1 := hkq1.keepG (Gr.of0 E165 NoB) (fun _ _ h => h) (NoK.no _)
    have hkq2 := hkq2.keepG (Gr.of0 E165 NoB) (fun _ _ h => h) (NoK.no _)
    have hB156 := hB156.keep0 E165
    have hb := hb.step0 E165
    refine ktk_end (G := fun t9 w' => 29 ∈ t9 → (Own w' 0 27 1 kv K.length (K.flatMap cK) ∧ Own w' 0 69 1 cb Pb.length (Pb.flatMap cN) ∧ Bx w' (P.getD i default) 115 [(Value.slice none 0 0), ka, ca] ∧ Bx w' p 115 [(Value.slice none 0 0), kv, cv] ∧ Bx w' (P.getD (i + 1) default) 115 [(Value.slice none 0 0), kb, cb])) (todo := [13, 14, 26, 29]) (i := 13) rfl (fun _ => ⟨ok, ocb, hxa, hx, hxb⟩) ?_
    refine ktk_step (rs := [14]) (by kernel_rfl) ?_
    refine one_mem ?_
    intro w172 E172 _ a172 hN172 hbs172 hdp172 o_ ho_; obtain rfl := Option.some.inj ho_
    have z_w172 := E172.size
    have hx := hx.keep0 E172
    have ok := ok.keep0 E172
    have oc := oc.keep0 E172
    have ks : ∀ x9 ∈ K, Own w172 0 5 1 x9.1 x9.2.length (x9.2.map u8v) := fun x9 hx9 => (ks x9 hx9).keep0 E172
    have hxa := hxa.keep0 E172
    have hxb := hxb.keep0 E172
    have oka := oka.keep0 E172
    have okb := okb.keep0 E172
    have oca := oca.keep0 E172
    have ocb := ocb.keep0 E172
    have kas : ∀ x9 ∈ Ka, Own w172 0 5 1 x9.1 x9.2.length (x9.2.map u8v) := fun x9 hx9 => (kas x9 hx9).keep0 E172
    have kbs : ∀ x9 ∈ Kb, Own w172 0 5 1 x9.1 x9.2.length (x9.2.map u8v) := fun x9 hx9 => (kbs x9 hx9).keep0 E172
    have hr := hr.keepG (Gr.of0 E172 NoB) (fun _ _ h => h) (NoK.no _)
    have hKa := hKa.keepG (Gr.of0 E172 NoB) (fun _ _ h => h) (NoK.no _)
    have hkq1 := hkq1.keepG (Gr.of0 E172 NoB) (fun _ _ h => h) (NoK.no _)
    have hkq2 := hkq2.keepG (Gr.of0 E172 NoB) (fun _ _ h => h) (NoK.no _)
    have hB156 := hB156.keep0 E172
    have hB166 := hB166.keep0 E172
    have hb := hb.step0 E172
    have q172_200 : Sl a172 200 ka := (hdp172 5 _ 200 (by kernel_rfl) rfl rfl).2 rfl
    have q172_208 : Sl a172 208 (Value.slice (some ⟨b164, 0, none⟩) 1 1) := (Option.some.inj ((hdp172 13 _ 208 (by kernel_rfl) rfl rfl).1 rfl)).symm
    have hP178 := oka
    refine op_append slt90 (ev_base hN172 rfl q172_200) hP178 (ev_base hN172 rfl q172_208) (Src.ofRd Try.underlying90 (by decide) (RdC.ofBx (sz := 1) (n := 1) hB166 rfl (by decide)) (by simp only [List.all_cons, List.all_nil, Bool.true_and, Bool.and_true, (own_one (show Own _ _ _ _ (K.getD i default).1 (K.getD i default).2.length ((K.getD i default).2.map u8v) from ks (K.getD i default) (getD_mem (by first | omega | (simp only [List.length_drop, List.length_take]; omega)))))]; try rfl)) (by unfold maxLen; omega) (by omega) (Nat.le_trans (by assumption) hb.size) ?_
    intro v173 w174 hO176 E175 hm177
    have dj179 : DJ kv v173 := DJ.step hm177 (fun k hk => (ok.lt k hk).2) dk3
    have dj180 : DJ kb v173 := DJ.step hm177 (fun k hk => (okb.lt k hk).2) dk7.symm
    have dj181 : Dj G0 (Bl v173) := Dj.step hm177 (fun k hk => (hr.lt k hk).2) dk9.symm
    have dj182 : Dj Ga (Bl v173) := Dj.step hm177 (fun k hk => (hKa.lt k hk).2) dk18.symm
    have dj183 : Dj G1 (Bl v173) := Dj.step hm177 (fun k hk => (hkq1.lt k hk).2) dk28.symm
    have dj184 : Dj G2 (Bl v173) := Dj.step hm177 (fun k hk => (hkq2.lt k hk).2) dk38.symm
    have z_w174 := E175.size
    have hx := hx.keepO hP178 E175 (by decide)
    have ok := ok.keepD E175 dk3
    have oc := oc.keepT hP178 E175 (by decide)
    have ks : ∀ x9 ∈ K, Own w174 0 5 1 x9.1 x9.2.length (x9.2.map u8v) := fun x9 hx9 => (ks x9 hx9).keepT hP178 E175 (by decide)
    have hxa := hxa.keepO hP178 E175 (by decide)
    have hxb := hxb.keepO hP178 E175 (by decide)
    have okb := okb.keepD E175 dk7.symm
    have oca := oca.keepT hP178 E175 (by decide)
    have ocb := ocb.keepT hP178 E175 (by decide)
    have kas : ∀ x9 ∈ Ka, Own w174 0 5 1 x9.1 x9.2.length (x9.2.map u8v) := fun x9 hx9 => (kas x9 hx9).keepT hP178 E175 (by decide)
    have kbs : ∀ x9 ∈ Kb, Own w174 0 5 1 x9.1 x9.2.length (x9.2.map u8v) := fun x9 hx9 => (kbs x9 hx9).keepT hP178 E175 (by decide)
    have hr := hr.keepG (Gr.of E175) dk9.symm (NoK.ofOwn hP178 (by decide))
    have hKa := hKa.keepG (Gr.of E175) dk18.symm (NoK.ofOwn hP178 (by decide))
    have hkq1 := hkq1.keepG (Gr.of E175) dk28.symm (NoK.ofOwn hP178 (by decide))
    have hkq2 := hkq2.keepG (Gr.of E175) dk38.symm (NoK.ofOwn hP178 (by decide))
    have hB156 := hB156.keepO hP178 E175 (by decide)
    have hB166 := hB166.keep E175 (fun hh => ne_b164_ka hh.symm)
    have hb := hb.stepL E175 (fun k _ h => hNd.wg k (hfs k (hA.wk k h)))
    have hO176 : Own w174 0 27 1 v173 (Ka.length + 1) ((Ka.flatMap cK ++ [(K.getD i default).1])) := by simpa [u8v, sv] using hO176
    have ne_b164_v173 : v173.ownBlock ≠ some b164 := ne_step (w1 := w172) ⟨E175, hm177⟩ (by omega) ne_b164_ka
    refine ktk_end (G := fun t9 w' => 29 ∈ t9 → (Own w' 0 27 1 kv K.length (K.flatMap cK) ∧ Own w' 0 69 1 cb Pb.length (Pb.flatMap cN) ∧ Bx w' (P.getD i default) 115 [(Value.slice none 0 0), ka, ca] ∧ Bx w' p 115 [(Value.slice none 0 0), kv, cv] ∧ Bx w' (P.getD (i + 1) default) 115 [(Value.slice none 0 0), kb, cb])) (todo := [14, 26, 29]) (i := 14) rfl (fun _ => ⟨ok, ocb, hxa, hx, hxb⟩) ?_
    refine ktk_step (rs := [26]) (by kernel_rfl) ?_
    refine one_mem ?_
    intro w186 E186 _ a186 hN186 hbs186 hdp186 o_ ho_; obtain rfl := Option.some.inj ho_
    have z_w186 := E186.size
    have hx := hx.keep0 E186
    have ok := ok.keep0 E186
    have oc := oc.keep0 E186
    have ks : ∀ x9 ∈ K, Own w186 0 5 1 x9.1 x9.2.length (x9.2.map u8v) := fun x9 hx9 => (ks x9 hx9).keep0 E186
    have hxa := hxa.keep0 E186
    have hxb := hxb.keep0 E186
    have okb := okb.keep0 E186
    have oca := oca.keep0 E186
    have ocb := ocb.keep0 E186
    have kas : ∀ x9 ∈ Ka, Own w186 0 5 1 x9.1 x9.2.length (x9.2.map u8v) := fun x9 hx9 => (kas x9 hx9).keep0 E186
    have kbs : ∀ x9 ∈ Kb, Own w186 0 5 1 x9.1 x9.2.length (x9.2.map u8v) := fun x9 hx9 => (kbs x9 hx9).keep0 E186
    have hr := hr.keepG (Gr.of0 E186 NoB) (fun _ _ h => h) (NoK.no _)
    have hKa := hKa.keepG (Gr.of0 E186 NoB) (fun _ _ h => h) (NoK.no _)
    have hkq1 := hkq1.keepG (Gr.of0 E186 NoB) (fun _ _ h => h) (NoK.no _)
    have hkq2 := hkq2.keepG (Gr.of0 E186 NoB) (fun _ _ h => h) (NoK.no _)
    have hB156 := hB156.keep0 E186
    have hB166 := hB166.keep0 E186
    have hO176 := hO176.keep0 E186
    have hb := hb.step0 E186
    have q186_213 : Sl a186 213 ca := (hdp186 18 _ 213 (by kernel_rfl) rfl rfl).2 rfl
    have q186_220 : Sl a186 220 (Value.slice (some ⟨b154, 0, none⟩) 1 1) := (Option.some.inj ((hdp186 25 _ 220 (by kernel_rfl) rfl rfl).1 rfl)).symm
    have hP192 := oca
    refine op_append slt113 (ev_base hN186 rfl q186_213) hP192 (ev_base hN186 rfl q186_220) (Src.ofRd Try.underlying113 (by decide) (RdC.ofBx (sz := 1) (n := 1) hB156 rfl (by decide)) (one_pn [Pb.getD 0 default])) (by unfold maxLen; omega) (by omega) (Nat.le_trans (by assumption) hb.size) ?_
    intro v187 w188 hO190 E189 hm191
    have dj193 : DJ cv v187 := DJ.step hm191 (fun k hk => (oc.lt k hk).2) dk5
    have dj194 : DJ cb v187 := DJ.step hm191 (fun k hk => (ocb.lt k hk).2) dk8.symm
    have dj195 : Dj G0 (Bl v187) := Dj.step hm191 (fun k hk => (hr.lt k hk).2) dk10.symm
    have dj196 : Dj Ga (Bl v187) := Dj.step hm191 (fun k hk => (hKa.lt k hk).2) dk19.symm
    have dj197 : Dj G1 (Bl v187) := Dj.step hm191 (fun k hk => (hkq1.lt k hk).2) dk29.symm
    have dj198 : Dj G2 (Bl v187) := Dj.step hm191 (fun k hk => (hkq2.lt k hk).2) dk39.symm
    have z_w188 := E189.size
    have hx := hx.keepO hP192 E189 (by decide)
    have ok := ok.keepT hP192 E189 (by decide)
    have oc := oc.keepD E189 dk5
    have ks : ∀ x9 ∈ K, Own w188 0 5 1 x9.1 x9.2.length (x9.2.map u8v) := fun x9 hx9 => (ks x9 hx9).keepT hP192 E189 (by decide)
    have hxa := hxa.keepO hP192 E189 (by decide)
    have hxb := hxb.keepO hP192 E189 (by decide)
    have okb := okb.keepT hP192 E189 (by decide)
    have ocb := ocb.keepD E189 dk8.symm
    have kas : ∀ x9 ∈ Ka, Own w188 0 5 1 x9.1 x9.2.length (x9.2.map u8v) := fun x9 hx9 => (kas x9 hx9).keepT hP192 E189 (by decide)
    have kbs : ∀ x9 ∈ Kb, Own w188 0 5 1 x9.1 x9.2.length (x9.2.map u8v) := fun x9 hx9 => (kbs x9 hx9).keepT hP192 E189 (by decide)
    have hr := hr.keepG (Gr.of E189) dk10.symm (NoK.ofOwn hP192 (by decide))
    have hKa := hKa.keepG (Gr.of E189) dk19.symm (NoK.ofOwn hP192 (by decide))
    have hkq1 := hkq1.keepG (Gr.of E189) dk29.symm (NoK.ofOwn hP192 (by decide))
    have hkq2 := hkq2.keepG (Gr.of E189) dk39.symm (NoK.ofOwn hP192 (by decide))
    have hB156 := hB156.keep E189 (fun hh => ne_b154_ca hh.symm)
    have hB166 := hB166.keepO hP192 E189 (by decide)
    have hO176 := hO176.keepT hP192 E189 (by decide)
    have hb := hb.stepL E189 (fun k _ h => hNd.wg k (hfs k (hA.wc k h)))
    have hO190 : Own w188 0 69 1 v187 (Pa.length + 1) ((Pa.flatMap cN ++ [(ptr (Pb.getD 0 default) 0)])) := by simpa [u8v, sv] using hO190
    have ne_b154_v187 : v187.ownBlock ≠ some b154 := ne_step (w1 := w186) ⟨E189, hm191⟩ (by omega) ne_b154_ca
    refine ktk_end (G := fun t9 w' => 29 ∈ t9 → (Own w' 0 27 1 kv K.length (K.flatMap cK) ∧ Own w' 0 69 1 cb Pb.length (Pb.flatMap cN) ∧ Bx w' (P.getD i default) 115 [(Value.slice none 0 0), ka, ca] ∧ Bx w' p 115 [(Value.slice none 0 0), kv, cv] ∧ Bx w' (P.getD (i + 1) default) 115 [(Value.slice none 0 0), kb, cb])) (todo := [26, 29]) (i := 26) rfl (fun _ => ⟨ok, ocb, hxa, hx, hxb⟩) ?_
    refine ktk_step (rs := [29]) (by kernel_rfl) ?_
    refine one_mem ?_
    intro w200 E200 _ a200 hN200 hbs200 hdp200 o_ ho_; obtain rfl := Option.some.inj ho_
    have z_w200 := E200.size
    have hx := hx.keep0 E200
    have ok := ok.keep0 E200
    have oc := oc.keep0 E200
    have ks : ∀ x9 ∈ K, Own w200 0 5 1 x9.1 x9.2.length (x9.2.map u8v) := fun x9 hx9 => (ks x9 hx9).keep0 E200
    have hxa := hxa.keep0 E200
    have hxb := hxb.keep0 E200
    have okb := okb.keep0 E200
    have ocb := ocb.keep0 E200
    have kas : ∀ x9 ∈ Ka, Own w200 0 5 1 x9.1 x9.2.length (x9.2.map u8v) := fun x9 hx9 => (kas x9 hx9).keep0 E200
    have kbs : ∀ x9 ∈ Kb, Own w200 0 5 1 x9.1 x9.2.length (x9.2.map u8v) := fun x9 hx9 => (kbs x9 hx9).keep0 E200
    have hr := hr.keepG (Gr.of0 E200 NoB) (fun _ _ h => h) (NoK.no _)
    have hKa := hKa.keepG (Gr.of0 E200 NoB) (fun _ _ h => h) (NoK.no _)
    have hkq1 := hkq1.keepG (Gr.of0 E200 NoB) (fun _ _ h => h) (NoK.no _)
    have hkq2 := hkq2.keepG (Gr.of0 E200 NoB) (fun _ _ h => h) (NoK.no _)
    have hB156 := hB156.keep0 E200
    have hB166 := hB166.keep0 E200
    have hO176 := hO176.keep0 E200
    have hO190 := hO190.keep0 E200
    have hb := hb.step0 E200
    have q200_223 : Sl a200 223 (ptr (P.getD i default) 1) := (hdp200 28 _ 223 (by kernel_rfl) rfl rfl).2 rfl
    have q200_209 : Sl a200 209 v173 := (Option.some.inj ((hdp200 14 _ 209 (by kernel_rfl) rfl rfl).1 rfl)).symm
    have hxa_old := hxa
    refine op_store (vs := [v173]) (cs' := [(Value.slice none 0 0), v173, ca]) size90 (ev_base hN200 rfl q200_223) (ev_base hN200 rfl q200_209) hO176.cl rfl (by simp only [List.all_cons, List.all_nil, Bool.true_and, Bool.and_true, hO176.one]; try rfl) hxa (Nat.le_of_ble_eq_true rfl) rfl ?_
    intro w203 hxa E204
    have z_w203 := E204.size
    have hx := hx.keep E204 (by simp only [ne_eq, Option.some.injEq]; omega)
    have ok := ok.keepX hxa_old E204 (by decide)
    have oc := oc.keepX hxa_old E204 (by decide)
    have ks : ∀ x9 ∈ K, Own w203 0 5 1 x9.1 x9.2.length (x9.2.map u8v) := fun x9 hx9 => (ks x9 hx9).keepX hxa_old E204 (by decide)
    have hxb := hxb.keep E204 (by simp only [ne_eq, Option.some.injEq]; omega)
    have okb := okb.keepX hxa_old E204 (by decide)
    have ocb := ocb.keepX hxa_old E204 (by decide)
    have kas : ∀ x9 ∈ Ka, Own w203 0 5 1 x9.1 x9.2.length (x9.2.map u8v) := fun x9 hx9 => (kas x9 hx9).keepX hxa_old E204 (by decide)
    have kbs : ∀ x9 ∈ Kb, Own w203 0 5 1 x9.1 x9.2.length (x9.2.map u8v) := fun x9 hx9 => (kbs x9 hx9).keepX hxa_old E204 (by decide)
    have hr := hr.keepG (Gr.of E204) (Dj.one dk13) (NoK.ofBx hxa_old (by decide))
    have hKa := hKa.keepG (Gr.of E204) (Dj.one dk22) (NoK.ofBx hxa_old (by decide))
    have hkq1 := hkq1.keepG (Gr.of E204) (Dj.one dk32) (NoK.ofBx hxa_old (by decide))
    have hkq2 := hkq2.keepG (Gr.of E204) (Dj.one dk42) (NoK.ofBx hxa_old (by decide))
    have hB156 := hB156.keep E204 (fun hh => hB156.ne hxa_old (by decide) (Option.some.inj hh))
    have hB166 := hB166.keep E204 (fun hh => hB166.ne hxa_old (by decide) (Option.some.inj hh))
    have hO176 := hO176.keepX hxa_old E204 (by decide)
    have hO190 := hO190.keepX hxa_old E204 (by decide)
    have hb := hb.stepB E204 (hNd.wg _ (hfs _ hA.wp))
    refine ktk_end0 (G := fun t9 w' => 29 ∈ t9 → (Own w' 0 27 1 kv K.length (K.flatMap cK) ∧ Own w' 0 69 1 cb Pb.length (Pb.flatMap cN) ∧ Bx w' (P.getD i default) 115 [(Value.slice none 0 0), ka, ca] ∧ Bx w' p 115 [(Value.slice none 0 0), kv, cv] ∧ Bx w' (P.getD (i + 1) default) 115 [(Value.slice none 0 0), kb, cb])) (todo := [29]) (i := 29) rfl (fun h => absurd h (by decide)) ?_
    intro w205 E205 a205 hN205 hd205 hbs205 hph205
    have hd205 := hd205.trans ((by simp only [putsL_defers] : _ = _).trans hd)
    have z_w205 := E205.size
    have hx := hx.keep0 E205
    have ok := ok.keep0 E205
    have oc := oc.keep0 E205
    have ks : ∀ x9 ∈ K, Own w205 0 5 1 x9.1 x9.2.length (x9.2.map u8v) := fun x9 hx9 => (ks x9 hx9).keep0 E205
    have hxb := hxb.keep0 E205
    have okb := okb.keep0 E205
    have ocb := ocb.keep0 E205
    have kas : ∀ x9 ∈ Ka, Own w205 0 5 1 x9.1 x9.2.length (x9.2.map u8v) := fun x9 hx9 => (kas x9 hx9).keep0 E205
    have kbs : ∀ x9 ∈ Kb, Own w205 0 5 1 x9.1 x9.2.length (x9.2.map u8v) := fun x9 hx9 => (kbs x9 hx9).keep0 E205
    have hr := hr.keepG (Gr.of0 E205 NoB) (fun _ _ h => h) (NoK.no _)
    have hKa := hKa.keepG (Gr.of0 E205 NoB) (fun _ _ h => h) (NoK.no _)
    have hkq1 := hkq1.keepG (Gr.of0 E205 NoB) (fun _ _ h => h) (NoK.no _)
    have hkq2 := hkq2.keepG (Gr.of0 E205 NoB) (fun _ _ h => h) (NoK.no _)
    have hB156 := hB156.keep0 E205
    have hB166 := hB166.keep0 E205
    have hO176 := hO176.keep0 E205
    have hO190 := hO190.keep0 E205
    have hxa := hxa.keep0 E205
    have hb := hb.step0 E205
    have s205_0 := (hbs205 0 rfl).trans (sl_base hN rfl s0)
    have s205_1 := (hbs205 1 rfl).trans (sl_base hN rfl s1)
    have s205_6 := (hbs205 6 rfl).trans (sl_hit hN rfl)
    have s205_8 := (hbs205 8 rfl).trans (sl_hit hN rfl)
    have s205_196 : Sl a205 196 (ptr (P.getD i default) 0) := (hph205 1 _ 196 rfl rfl).2 rfl
    have s205_221 : Sl a205 221 v187 := (Option.some.inj ((hph205 26 _ 221 rfl rfl).1 rfl)).symm
    refine split_end ?_
    refine from_seq (tl := [_, _, _]) (by decide) (by kernel_rfl) rfl ?_
    refine op_nil (ev_base hN205 rfl s205_196) ?_
    refine op_field fld115_2 (ev_hit hN205 rfl) ?_
    have hxa_old := hxa
    refine op_store (vs := [v187]) (cs' := [(Value.slice none 0 0), v173, v187]) size113 (ev_hit hN205 rfl) (ev_base hN205 rfl s205_221) hO190.cl rfl (by simp only [List.all_cons, List.all_nil, Bool.true_and, Bool.and_true, hO190.one]; try rfl) hxa (Nat.le_of_ble_eq_true rfl) rfl ?_
    intro w208 hxa E209
    have z_w208 := E209.size
    have hx := hx.keep E209 (by simp only [ne_eq, Option.some.injEq]; omega)
    have ok := ok.keepX hxa_old E209 (by decide)
    have oc := oc.keepX hxa_old E209 (by decide)
    have ks : ∀ x9 ∈ K, Own w208 0 5 1 x9.1 x9.2.length (x9.2.map u8v) := fun x9 hx9 => (ks x9 hx9).keepX hxa_old E209 (by decide)
    have hxb := hxb.keep E209 (by simp only [ne_eq, Option.some.injEq]; omega)
    have okb := okb.keepX hxa_old E209 (by decide)
    have ocb := ocb.keepX hxa_old E209 (by decide)
    have kas : ∀ x9 ∈ Ka, Own w208 0 5 1 x9.1 x9.2.length (x9.2.map u8v) := fun x9 hx9 => (kas x9 hx9).keepX hxa_old E209 (by decide)
    have kbs : ∀ x9 ∈ Kb, Own w208 0 5 1 x9.1 x9.2.length (x9.2.map u8v) := fun x9 hx9 => (kbs x9 hx9).keepX hxa_old E209 (by decide)
    have hr := hr.keepG (Gr.of E209) (Dj.one dk13) (NoK.ofBx hxa_old (by decide))
    have hKa := hKa.keepG (Gr.of E209) (Dj.one dk22) (NoK.ofBx hxa_old (by decide))
    have hkq1 := hkq1.keepG (Gr.of E209) (Dj.one dk32) (NoK.ofBx hxa_old (by decide))
    have hkq2 := hkq2.keepG (Gr.of E209) (Dj.one dk42) (NoK.ofBx hxa_old (by decide))
    have hB156 := hB156.keep E209 (fun hh => hB156.ne hxa_old (by decide) (Option.some.inj hh))
    have hB166 := hB166.keep E209 (fun hh => hB166.ne hxa_old (by decide) (Option.some.inj hh))
    have hO176 := hO176.keepX hxa_old E209 (by decide)
    have hO190 := hO190.keepX hxa_old E209 (by decide)
    have hb := hb.stepB E209 (hNd.wg _ (hfs _ hA.wp))
    refine reg_nil ?_
    refine hK38 _ _ ?_
    exact hJ35 _ _ _ hN205 hd205 ⟨v173, v187, (sl_base hN205 rfl s205_0), (sl_base hN205 rfl s205_1), (sl_base hN205 rfl s205_6), (sl_base hN205 rfl s205_8), dj179, dj180, dj181.symm, dj182.symm, dj183.symm, dj184.symm, (inF_step (n := w.heap.size) hm177 (by omega) (fun k _ h => hNd.wg k (hfs k (hA.wk k h)))), dj193, dj194, dj195.symm, dj196.symm, dj197.symm, dj198.symm, (inF_step (n := w.heap.size) hm191 (by omega) (fun k _ h => hNd.wg k (hfs k (hA.wc k h)))), hb, (by omega), hx, ok, oc, ks, hxb, okb, ocb, kas, kbs, hr, hKa, hkq1, hkq2, (hO176.cast (n' := (Ka ++ [K.getD i default]).length) (cs' := (Ka ++ [K.getD i default]).flatMap cK) (by first | rfl | (simp; done) | (simp only [List.length_append, List.length_cons, List.length_nil]; omega)) (by first | rfl | simp [cK, cN, cI])), (hO190.cast (n' := (Pa ++ [Pb.getD 0 default]).length) (cs' := (Pa ++ [Pb.getD 0 default]).flatMap cN) (by first | rfl | (simp; done) | (simp only [List.length_append, List.length_cons, List.length_nil]; omega)) (by first | rfl | simp [cK, cN, cI])), hxa⟩
  ·
   rintro a35 w35 hN35 hd35 ⟨vk, vc, s35_0, s35_1, s35_6, s35_8, dj20, dj21, dj22, dj23, dj24, dj25, hin26, dj27, dj28, dj29, dj30, dj31, dj32, hin33, hb, zl_w35, hx, ok, oc, ks, hxb, okb, ocb, kas, kbs, hr, hKa, hkq1, hkq2, hO36, hO37, hbj34⟩
   have z_w35 := hb.size
   refine seq_any fun K210 hK210 => ?_
   refine reg_from mixed ?_
   intro w212 E211
   have z_w212 := E211.size
   have hx := hx.keep0 E211
   have ok := ok.keep0 E211
   have oc := oc.keep0 E211
   have ks : ∀ x9 ∈ K, Own w212 0 5 1 x9.1 x9.2.length (x9.2.map u8v) := fun x9 hx9 => (ks x9 hx9).keep0 E211
   have hxb := hxb.keep0 E211
   have okb := okb.keep0 E211
   have ocb := ocb.keep0 E211
   have kas : ∀ x9 ∈ Ka, Own w212 0 5 1 x9.1 x9.2.length (x9.2.map u8v) := fun x9 hx9 => (kas x9 hx9).keep0 E211
   have kbs : ∀ x9 ∈ Kb, Own w212 0 5 1 x9.1 x9.2.length (x9.2.map u8v) := fun x9 hx9 => (kbs x9 hx9).keep0 E211
   have hr := hr.keepG (Gr.of0 E211 NoB) (fun _ _ h => h) (NoK.no _)
   have hKa := hKa.keepG (Gr.of0 E211 NoB) (fun _ _ h => h) (NoK.no _)
   have hkq1 := hkq1.keepG (Gr.of0 E211 NoB) (fun _ _ h => h) (NoK.no _)
   have hkq2 := hkq2.keepG (Gr.of0 E211 NoB) (fun _ _ h => h) (NoK.no _)
   have hO36 := hO36.keep0 E211
   have hO37 := hO37.keep0 E211
   have hbj34 := hbj34.keep0 E211
   have hb := hb.step0 E211
   refine from_still (m := 12) 12 (hd := [_, _, _, _, _, _, _, _, _, _, _, _]) (by kernel_rfl) rfl rfl ?_
   refine st_step rfl (fun _ h9 => op_move (ev_base hN35 rfl s35_0) h9) ?_
   refine st_step rfl (fun _ h9 => op_nil (ev_hit hN35 rfl) h9) ?_
   refine st_step rfl (fun _ h9 => op_field fld115_1 (ev_hit hN35 rfl) h9) ?_
   refine st_step rfl (fun _ h9 => op_load1 (v := kv) one90 (ev_hit hN35 rfl) (hx.cell rfl) h9) ?_
   refine st_step rfl (fun _ h9 => op_move (ev_base hN35 rfl s35_1) h9) ?_
   refine st_step rfl (fun _ h9 => op_move (ev_base hN35 rfl s35_8) h9) ?_
   refine st_step rfl (fun _ h9 => op_nil (ev_hit hN35 rfl) h9) ?_
   refine st_step rfl (fun _ h9 => op_field fld115_1 (ev_hit hN35 rfl) h9) ?_
   refine st_step rfl (fun _ h9 => op_load1 (v := kb) one90 (ev_hit hN35 rfl) (hxb.cell rfl) h9) ?_
   refine st_index_rd slt90 (ev_hit hN35 rfl) okb.rdw rfl (by omega) (by omega) ?_
   intro b213 o214 h0b213 h1b213 hc215
   refine st_step rfl (fun _ h9 => op_load1 (v := (Kb.getD 0 default).1) one27 (ev_hit hN35 rfl) (by have := hc215 0 (Kb.getD 0 default).1 (by decide) (el_kd (i := 0) (by omega) (by first | omega | (simp only [List.length_drop, List.length_take]; omega))); simpa using this) h9) ?_
   refine st_index_own (i := i) slt90 (ev_hit hN35 rfl) ok (ev_hit hN35 rfl) (by omega) (by omega) ?_
   intro b216 o217 lo_b216 hA218
   have hA218 : AtV kv (i) b216 o217 := by simpa using hA218
   refine st_nil ?_
   refine from_seq (tl := [_]) (by decide) (by kernel_rfl) rfl ?_
   have hP221 := ok
   refine op_store_own (vs := [(Kb.getD 0 default).1]) size27 (ev_hit hN35 rfl) (ev_hit hN35 rfl) (own_cl (show Own _ _ _ _ (Kb.getD 0 default).1 (Kb.getD 0 default).2.length ((Kb.getD 0 default).2.map u8v) from kbs (Kb.getD 0 default) (getD_mem (by first | omega | (simp only [List.length_drop, List.length_take]; omega))))) rfl (by simp only [List.all_cons, List.all_nil, Bool.true_and, Bool.and_true, (own_one (show Own _ _ _ _ (Kb.getD 0 default).1 (Kb.getD 0 default).2.length ((Kb.getD 0 default).2.map u8v) from kbs (Kb.getD 0 default) (getD_mem (by first | omega | (simp only [List.length_drop, List.length_take]; omega)))))]; try rfl) hP221 hA218 (by rw [hP221.1]; simp only [List.length_cons, List.length_nil]; omega) ?_
   intro w219 hO222 E220
   have z_w219 := E220.size
   have hx := hx.keepO hP221 E220 (by decide)
   have oc := oc.keepT hP221 E220 (by decide)
   have ks : ∀ x9 ∈ K, Own w219 0 5 1 x9.1 x9.2.length (x9.2.map u8v) := fun x9 hx9 => (ks x9 hx9).keepT hP221 E220 (by decide)
   have hxb := hxb.keepO hP221 E220 (by decide)
   have okb := okb.keepD E220 dk4.symm
   have ocb := ocb.keepT hP221 E220 (by decide)
   have kas : ∀ x9 ∈ Ka, Own w219 0 5 1 x9.1 x9.2.length (x9.2.map u8v) := fun x9 hx9 => (kas x9 hx9).keepT hP221 E220 (by decide)
   have kbs : ∀ x9 ∈ Kb, Own w219 0 5 1 x9.1 x9.2.length (x9.2.map u8v) := fun x9 hx9 => (kbs x9 hx9).keepT hP221 E220 (by decide)
   have hr := hr.keepG (Gr.of E220) djkG.symm (NoK.ofOwn hP221 (by decide))
   have hKa := hKa.keepG (Gr.of E220) dk15.symm (NoK.ofOwn hP221 (by decide))
   have hkq1 := hkq1.keepG (Gr.of E220) dk25.symm (NoK.ofOwn hP221 (by decide))
   have hkq2 := hkq2.keepG (Gr.of E220) dk35.symm (NoK.ofOwn hP221 (by decide))
   have hO36 := hO36.keepD E220 dj20.symm
   have hO37 := hO37.keepT hP221 E220 (by decide)
   have hbj34 := hbj34.keepO hP221 E220 (by decide)
   have hb := hb.stepL E220 (fun k _ h => hNd.wk k h)
   have hO222 : Own w219 0 27 1 kv K.length (((K.set i (Kb.getD 0 default))).flatMap cK) := by exact hO222.cast rfl (set_K (d := Kb.getD 0 default) (by omega))
   refine reg_nil ?_
   refine hK210 _ _ ?_
   refine reg_split (hd := [_, _, _, _, _, _, _, _, _, _, _, _, _, _, _]) (tl := _) 15 mixed (by kernel_rfl) rfl rfl ?_
   refine any_envk (φ := phiV [(fun uz => uz = (ptr (P.getD (i + 1) default) 0)), (fun uz => uz = (ptr (P.getD (i + 1) default) 0)), (fun uz => uz = (ptr (P.getD (i + 1) default) 0)), (fun uz => uz = (ptr (P.getD (i + 1) default) 0)), (fun uz => uz = (ptr (P.getD (i + 1) default) 1)), (fun uz => uz = kb), (fun uz => uz = (cutS 1 kb 1)), (fun uz => uz = (ptr (P.getD (i + 1) default) 0)), (fun uz => uz = (ptr (P.getD (i + 1) default) 0)), (fun uz => uz = (ptr (P.getD (i + 1) default) 2)), (fun uz => uz = cb), (fun uz => uz = (cutS 1 cb 1)), (fun uz => uz = (ptr (P.getD (i + 1) default) 0)), (fun uz => uz = (ptr (P.getD (i + 1) default) 1)), (fun _ => True)]) (G := fun c9 w' => c9 ≤ 0 → (Bx w' (P.getD (i + 1) default) 115 [(Value.slice none 0 0), kb, cb])) [14] (by kernel_rfl) (by kernel_rfl) (by kernel_rfl) (by kernel_rfl) hN35 (fun _ w1 w2 E h hc9 => (h hc9).keep0 E) (fun _ => hxb) (ObKs.cons ?_ (ObKs.cons ?_ (ObKs.cons ?_ (ObKs.cons ?_ (ObKs.cons ?_ (ObKs.cons ?_ (ObKs.cons ?_ (ObKs.cons ?_ (ObKs.cons ?_ (ObKs.cons ?_ (ObKs.cons ?_ (ObKs.cons ?_ (ObKs.cons ?_ (ObKs.cons ?_ (ObKs.pass rfl (ObKs.nil)))))))))))))))) (by simp only [putsL_defers]) ?_
   ·
    intro eA aA wA hNA hckA hGA hbsA hdpA
    have qA_8 := (hbsA 8 rfl).trans (sl_base hN35 rfl s35_8)
    refine op_move (ev_base hNA rfl qA_8) ?_
    exact obK_end rfl rfl rfl
   ·
    intro eA aA wA hNA hckA hGA hbsA hdpA
    have qA_8 := (hbsA 8 rfl).trans (sl_base hN35 rfl s35_8)
    refine op_move (ev_base hNA rfl qA_8) ?_
    exact obK_end rfl rfl rfl
   ·
    intro eA aA wA hNA hckA hGA hbsA hdpA
    have qA_8 := (hbsA 8 rfl).trans (sl_base hN35 rfl s35_8)
    refine op_move (ev_base hNA rfl qA_8) ?_
    exact obK_end rfl rfl rfl
   ·
    intro eA aA wA hNA hckA hGA hbsA hdpA
    have qA_240 : Sl aA 240 (ptr (P.getD (i + 1) default) 0) := (hdpA 2 _ 240 (by kernel_rfl) rfl rfl).2 rfl
    refine op_nil (ev_base hNA rfl qA_240) ?_
    exact obK_end rfl rfl rfl
   ·
    intro eA aA wA hNA hckA hGA hbsA hdpA
    have qA_241 : Sl aA 241 (ptr (P.getD (i + 1) default) 0) := (hdpA 3 _ 241 (by kernel_rfl) rfl rfl).2 rfl
    refine op_field fld115_1 (ev_base hNA rfl qA_241) ?_
    exact obK_end rfl rfl rfl
   ·
    intro eA aA wA hNA hckA hGA hbsA hdpA
    have qA_242 : Sl aA 242 (ptr (P.getD (i + 1) default) 1) := (hdpA 4 _ 242 (by kernel_rfl) rfl rfl).2 rfl
    have hGA := hGA (hckA 0 14 rfl (by kernel_rfl))
    refine op_load1 (v := kb) one90 (ev_base hNA rfl qA_242) (hGA.cell rfl) ?_
    exact obK_end rfl rfl rfl
   ·
    intro eA aA wA hNA hckA hGA hbsA hdpA
    have qA_243 : Sl aA 243 kb := (hdpA 5 _ 243 (by kernel_rfl) rfl rfl).2 rfl
    refine op_slice_cutS (k := 1) slt90 (ev_base hNA rfl qA_243) okb rfl (by omega) (by omega) ?_
    exact obK_end rfl rfl rfl
   ·
    intro eA aA wA hNA hckA hGA hbsA hdpA
    have qA_8 := (hbsA 8 rfl).trans (sl_base hN35 rfl s35_8)
    refine op_move (ev_base hNA rfl qA_8) ?_
    exact obK_end rfl rfl rfl
   ·
    intro eA aA wA hNA hckA hGA hbsA hdpA
    have qA_245 : Sl aA 245 (ptr (P.getD (i + 1) default) 0) := (hdpA 7 _ 245 (by kernel_rfl) rfl rfl).2 rfl
    refine op_nil (ev_base hNA rfl qA_245) ?_
    exact obK_end rfl rfl rfl
   ·
    intro eA aA wA hNA hckA hGA hbsA hdpA
    have qA_246 : Sl aA 246 (ptr (P.getD (i + 1) default) 0) := (hdpA 8 _ 246 (by kernel_rfl) rfl rfl).2 rfl
    refine op_field fld115_2 (ev_base hNA rfl qA_246) ?_
    exact obK_end rfl rfl rfl
   ·
    intro eA aA wA hNA hckA hGA hbsA hdpA
    have qA_247 : Sl aA 247 (ptr (P.getD (i + 1) default) 2) := (hdpA 9 _ 247 (by kernel_rfl) rfl rfl).2 rfl
    have hGA := hGA (hckA 0 14 rfl (by kernel_rfl))
    refine op_load1 (v := cb) one113 (ev_base hNA rfl qA_247) (hGA.cell rfl) ?_
    exact obK_end rfl rfl rfl
   ·
    intro eA aA wA hNA hckA hGA hbsA hdpA
    have qA_248 : Sl aA 248 cb := (hdpA 10 _ 248 (by kernel_rfl) rfl rfl).2 rfl
    refine op_slice_cutS (k := 1) slt113 (ev_base hNA rfl qA_248) ocb rfl (by omega) (by omega) ?_
    exact obK_end rfl rfl rfl
   ·
    intro eA aA wA hNA hckA hGA hbsA hdpA
    have qA_238 : Sl aA 238 (ptr (P.getD (i + 1) default) 0) := (hdpA 0 _ 238 (by kernel_rfl) rfl rfl).2 rfl
    refine op_nil (ev_base hNA rfl qA_238) ?_
    exact obK_end rfl rfl rfl
   ·
    intro eA aA wA hNA hckA hGA hbsA hdpA
    have qA_250 : Sl aA 250 (ptr (P.getD (i + 1) default) 0) := (hdpA 12 _ 250 (by kernel_rfl) rfl rfl).2 rfl
    refine op_field fld115_1 (ev_base hNA rfl qA_250) ?_
    exact obK_end rfl rfl rfl
   ·
    intro w223 E223 _ a223 hN223 hbs223 hdp223 o_ ho_; obtain rfl := Option.some.inj ho_
    have z_w223 := E223.size
    have hx := hx.keep0 E223
    have oc := oc.keep0 E223
    have ks : ∀ x9 ∈ K, Own w223 0 5 1 x9.1 x9.2.length (x9.2.map u8v) := fun x9 hx9 => (ks x9 hx9).keep0 E223
    have hxb := hxb.keep0 E223
    have okb := okb.keep0 E223
    have ocb := ocb.keep0 E223
    have kas : ∀ x9 ∈ Ka, Own w223 0 5 1 x9.1 x9.2.length (x9.2.map u8v) := fun x9 hx9 => (kas x9 hx9).keep0 E223
    have kbs : ∀ x9 ∈ Kb, Own w223 0 5 1 x9.1 x9.2.length (x9.2.map u8v) := fun x9 hx9 => (kbs x9 hx9).keep0 E223
    have hr := hr.keepG (Gr.of0 E223 NoB) (fun _ _ h => h) (NoK.no _)
    have hKa := hKa.keepG (Gr.of0 E223 NoB) (fun _ _ h => h) (NoK.no _)
    have hkq1 := hkq1.keepG (Gr.of0 E223 NoB) (fun _ _ h => h) (NoK.no _)
    have hkq2 := hkq2.keepG (Gr.of0 E223 NoB) (fun _ _ h => h) (NoK.no _)
    have hO36 := hO36.keep0 E223
    have hO37 := hO37.keep0 E223
    have hbj34 := hbj34.keep0 E223
    have hO222 := hO222.keep0 E223
    have hb := hb.step0 E223
    have q223_251 : Sl a223 251 (ptr (P.getD (i + 1) default) 1) := (hdp223 13 _ 251 (by kernel_rfl) rfl rfl).2 rfl
    have q223_244 : Sl a223 244 (cutS 1 kb 1) := (hdp223 6 _ 244 (by kernel_rfl) rfl rfl).2 rfl
    have hxb_old := hxb
    refine op_store (vs := [(cutS 1 kb 1)]) (cs' := [(Value.slice none 0 0), (cutS 1 kb 1), cb]) size90 (ev_base hN223 rfl q223_251) (ev_base hN223 rfl q223_244) (own_cl (okb.cutO (k := 1) (by omega))) rfl (by simp only [List.all_cons, List.all_nil, Bool.true_and, Bool.and_true, (own_one (okb.cutO (k := 1) (by omega)))]; try rfl) hxb (Nat.le_of_ble_eq_true rfl) rfl ?_
    intro w226 hxb E227
    have z_w226 := E227.size
    have hx := hx.keep E227 (by simp only [ne_eq, Option.some.injEq]; omega)
    have oc := oc.keepX hxb_old E227 (by decide)
    have ks : ∀ x9 ∈ K, Own w226 0 5 1 x9.1 x9.2.length (x9.2.map u8v) := fun x9 hx9 => (ks x9 hx9).keepX hxb_old E227 (by decide)
    have okb := okb.keepX hxb_old E227 (by decide)
    have ocb := ocb.keepX hxb_old E227 (by decide)
    have kas : ∀ x9 ∈ Ka, Own w226 0 5 1 x9.1 x9.2.length (x9.2.map u8v) := fun x9 hx9 => (kas x9 hx9).keepX hxb_old E227 (by decide)
    have kbs : ∀ x9 ∈ Kb, Own w226 0 5 1 x9.1 x9.2.length (x9.2.map u8v) := fun x9 hx9 => (kbs x9 hx9).keepX hxb_old E227 (by decide)
    have hr := hr.keepG (Gr.of E227) (Dj.one dk14) (NoK.ofBx hxb_old (by decide))
    have hKa := hKa.keepG (Gr.of E227) (Dj.one dk23) (NoK.ofBx hxb_old (by decide))
    have hkq1 := hkq1.keepG (Gr.of E227) (Dj.one dk33) (NoK.ofBx hxb_old (by decide))
    have hkq2 := hkq2.keepG (Gr.of E227) (Dj.one dk43) (NoK.ofBx hxb_old (by decide))
    have hO36 := hO36.keepX hxb_old E227 (by decide)
    have hO37 := hO37.keepX hxb_old E227 (by decide)
    have hbj34 := hbj34.keep E227 (by simp only [ne_eq, Option.some.injEq]; omega)
    have hO222 := hO222.keepX hxb_old E227 (by decide)
    have hb := hb.stepB E227 (hNd.wg _ (hgs _ hB.wp))
    refine kk_end0 rfl (fun h => absurd h (by simp)) ?_
    intro w228 E228 a228 hN228 hd228 hbs228 hph228
    have hd228 := hd228.trans ((by simp only [putsL_defers] : _ = _).trans hd35)
    have z_w228 := E228.size
    have hx := hx.keep0 E228
    have oc := oc.keep0 E228
    have ks : ∀ x9 ∈ K, Own w228 0 5 1 x9.1 x9.2.length (x9.2.map u8v) := fun x9 hx9 => (ks x9 hx9).keep0 E228
    have okb := okb.keep0 E228
    have ocb := ocb.keep0 E228
    have kas : ∀ x9 ∈ Ka, Own w228 0 5 1 x9.1 x9.2.length (x9.2.map u8v) := fun x9 hx9 => (kas x9 hx9).keep0 E228
    have kbs : ∀ x9 ∈ Kb, Own w228 0 5 1 x9.1 x9.2.length (x9.2.map u8v) := fun x9 hx9 => (kbs x9 hx9).keep0 E228
    have hr := hr.keepG (Gr.of0 E228 NoB) (fun _ _ h => h) (NoK.no _)
    have hKa := hKa.keepG (Gr.of0 E228 NoB) (fun _ _ h => h) (NoK.no _)
    have hkq1 := hkq1.keepG (Gr.of0 E228 NoB) (fun _ _ h => h) (NoK.no _)
    have hkq2 := hkq2.keepG (Gr.of0 E228 NoB) (fun _ _ h => h) (NoK.no _)
    have hO36 := hO36.keep0 E228
    have hO37 := hO37.keep0 E228
    have hbj34 := hbj34.keep0 E228
    have hO222 := hO222.keep0 E228
    have hxb := hxb.keep0 E228
    have hb := hb.step0 E228
    have s228_6 := (hbs228 6 rfl).trans (sl_base hN35 rfl s35_6)
    have s228_239 : Sl a228 239 (ptr (P.getD (i + 1) default) 0) := (hph228 1 _ 239 rfl rfl).2 rfl
    have s228_249 : Sl a228 249 (cutS 1 cb 1) := (hph228 11 _ 249 rfl rfl).2 rfl
    refine split_end ?_
    refine from_seq (tl := [_, _, _]) (by decide) (by kernel_rfl) rfl ?_
    refine op_nil (ev_base hN228 rfl s228_239) ?_
    refine op_field fld115_2 (ev_hit hN228 rfl) ?_
    have hxb_old := hxb
    refine op_store (vs := [(cutS 1 cb 1)]) (cs' := [(Value.slice none 0 0), (cutS 1 kb 1), (cutS 1 cb 1)]) size113 (ev_hit hN228 rfl) (ev_base hN228 rfl s228_249) (own_cl (ocb.cutO (k := 1) (by omega))) rfl (by simp only [List.all_cons, List.all_nil, Bool.true_and, Bool.and_true, (own_one (ocb.cutO (k := 1) (by omega)))]; try rfl) hxb (Nat.le_of_ble_eq_true rfl) rfl ?_
    intro w231 hxb E232
    have z_w231 := E232.size
    have hx := hx.keep E232 (by simp only [ne_eq, Option.some.injEq]; omega)
    have oc := oc.keepX hxb_old E232 (by decide)
    have ks : ∀ x9 ∈ K, Own w231 0 5 1 x9.1 x9.2.length (x9.2.map u8v) := fun x9 hx9 => (ks x9 hx9).keepX hxb_old E232 (by decide)
    have okb := okb.keepX hxb_old E232 (by decide)
    have ocb := ocb.keepX hxb_old E232 (by decide)
    have kas : ∀ x9 ∈ Ka, Own w231 0 5 1 x9.1 x9.2.length (x9.2.map u8v) := fun x9 hx9 => (kas x9 hx9).keepX hxb_old E232 (by decide)
    have kbs : ∀ x9 ∈ Kb, Own w231 0 5 1 x9.1 x9.2.length (x9.2.map u8v) := fun x9 hx9 => (kbs x9 hx9).keepX hxb_old E232 (by decide)
    have hr := hr.keepG (Gr.of E232) (Dj.one dk14) (NoK.ofBx hxb_old (by decide))
    have hKa := hKa.keepG (Gr.of E232) (Dj.one dk23) (NoK.ofBx hxb_old (by decide))
    have hkq1 := hkq1.keepG (Gr.of E232) (Dj.one dk33) (NoK.ofBx hxb_old (by decide))
    have hkq2 := hkq2.keepG (Gr.of E232) (Dj.one dk43) (NoK.ofBx hxb_old (by decide))
    have hO36 := hO36.keepX hxb_old E232 (by decide)
    have hO37 := hO37.keepX hxb_old E232 (by decide)
    have hbj34 := hbj34.keep E232 (by simp only [ne_eq, Option.some.injEq]; omega)
    have hO222 := hO222.keepX hxb_old E232 (by decide)
    have hb := hb.stepB E232 (hNd.wg _ (hgs _ hB.wp))
    refine reg_nil ?_
    refine hK16 _ _ ?_
    refine seq_any fun K233 hK233 => ?_
    refine one_reg ?_
    refine op_assign rfl ?_
    refine reg_nil ?_
    refine hK233 _ _ ?_
    refine wp_ret ?_
    refine ret1 rfl hd228 (ev_hit hN228 rfl) ⟨_, rfl, ?_⟩
    -- path 32F
    have hcv234 : Own w231 0 27 1 (cutS 1 kb 1) (Kb.drop 1).length ((Kb.drop 1).flatMap cK) := (okb.cutO (k := 1) (by omega)).cast (by simp) (flat_drop cK_len _ _)
    have dj235 : Dj G0 (Bl (cutS 1 kb 1)) := fun k hk hg => dk11.symm k hk (okb.cut_ob.symm.trans hg)
    have dj236 : Dj Ga (Bl (cutS 1 kb 1)) := fun k hk hg => dk20.symm k hk (okb.cut_ob.symm.trans hg)
    have dj237 : Dj G1 (Bl (cutS 1 kb 1)) := fun k hk hg => dk30.symm k hk (okb.cut_ob.symm.trans hg)
    have dj238 : Dj G2 (Bl (cutS 1 kb 1)) := fun k hk hg => dk40.symm k hk (okb.cut_ob.symm.trans hg)
    have dj239 : DJ vk (cutS 1 kb 1) := fun k hk hg => dj21.symm k hk (okb.cut_ob.symm.trans hg)
    have dj240 : DJ kv (cutS 1 kb 1) := fun k hk hg => dk4 k hk (okb.cut_ob.symm.trans hg)
    have hcv241 : Own w231 0 69 1 (cutS 1 cb 1) (Pb.drop 1).length ((Pb.drop 1).flatMap cN) := (ocb.cutO (k := 1) (by omega)).cast (by simp) (flat_drop cN_len _ _)
    have dj242 : DJ cv (cutS 1 cb 1) := fun k hk hg => dk6 k hk (ocb.cut_ob.symm.trans hg)
    have dj243 : Dj G0 (Bl (cutS 1 cb 1)) := fun k hk hg => dk12.symm k hk (ocb.cut_ob.symm.trans hg)
    have dj244 : Dj Ga (Bl (cutS 1 cb 1)) := fun k hk hg => dk21.symm k hk (ocb.cut_ob.symm.trans hg)
    have dj245 : Dj G1 (Bl (cutS 1 cb 1)) := fun k hk hg => dk31.symm k hk (ocb.cut_ob.symm.trans hg)
    have dj246 : Dj G2 (Bl (cutS 1 cb 1)) := fun k hk hg => dk41.symm k hk (ocb.cut_ob.symm.trans hg)
    have dj247 : DJ vc (cutS 1 cb 1) := fun k hk hg => dj28.symm k hk (ocb.cut_ob.symm.trans hg)
    obtain ⟨G3, hkq3, hG3⟩ := Kids.app hKa hkq1 dk45
    rw [take1 (d := default) (show 0 < Pb.length by omega), take1 (d := default) (show 0 < tb.length by omega)] at hkq3
    have hTA := (mkNode (κ := kI) (K := (Ka ++ [K.getD i default])) (P := (Pa ++ [Pb.getD 0 default])) hbj34 (hO36.cast (n' := (Ka ++ [K.getD i default]).length) (cs' := (Ka ++ [K.getD i default]).flatMap cK) (by simp) (by simp [cK])) (hO37.cast (n' := (Pa ++ [Pb.getD 0 default]).length) (cs' := (Pa ++ [Pb.getD 0 default]).flatMap cN) (by simp) (by simp [cN])) (kks_app kas (kks_one (ks _ (getD_mem (l := K) (i := i) (by omega))))) (kks_app hA.kr (kks_one (hNd.kr _ (getD_mem (l := K) (i := i) (by omega))))) hkq3 (fun h1 => ((hG3 _ h1)).elim (fun y0 => dk22 y0) (fun z0 => dk32 z0)) (fun j h1 h2 => ((hG3 _ h2)).elim (fun y20 => dj23 _ h1 y20) (fun z20 => dj24 _ h1 z20)) (fun j h1 h2 => ((hG3 _ h2)).elim (fun y20 => dj30 _ h1 y20) (fun z20 => dj31 _ h1 z20)))
    have hTB := (mkNode (κ := kI) (K := (Kb.drop 1)) (P := (Pb.drop 1)) hxb hcv234 hcv241 (kks_sub kbs (fun _ h => List.mem_of_mem_drop h)) (kks_sub hB.kr (fun _ h => List.mem_of_mem_drop h)) hkq2 (fun h1 => dk43 h1) (fun j h1 h2 => dj238.symm _ h1 h2) (fun j h1 h2 => dj246.symm _ h1 h2))
    have hT9 := mkNode (κ := kI) (K := (K.set i (Kb.getD 0 default))) hx (hO222.cast (by simp) rfl) oc (kks_set ks (kbs _ (getD_mem (l := Kb) (i := 0) (by omega)))) (kks_set hNd.kr (hB.kr _ (getD_mem (l := Kb) (i := 0) (by omega)))) (Kids.back2 hr hPc (by omega) hTA hTB (fun j h1 h2 => (h1).elim (fun y0 => (h2).elim (fun y20 => hab (y0.symm.trans y20)) (fun z20 => (z20).elim (fun y21 => bx_own_ne hbj34 hcv234 (by decide) (y0 ▸ y21)) (fun z21 => (z21).elim (fun y22 => bx_own_ne hbj34 hcv241 (by decide) (y0 ▸ y22)) (fun z22 => dk42 (y0 ▸ z22))))) (fun z0 => (z0).elim (fun y1 => (h2).elim (fun y20 => bx_own_ne hxb hO36 (by decide) (y20 ▸ y1)) (fun z20 => (z20).elim (fun y21 => dj239 _ y1 y21) (fun z21 => (z21).elim (fun y22 => own_own_dj hO36 hcv241 (by decide) _ y1 y22) (fun z22 => dj25 _ y1 z22)))) (fun z1 => (z1).elim (fun y2 => (h2).elim (fun y20 => bx_own_ne hxb hO37 (by decide) (y20 ▸ y2)) (fun z20 => (z20).elim (fun y21 => own_own_dj hO37 hcv234 (by decide) _ y2 y21) (fun z21 => (z21).elim (fun y22 => dj247 _ y2 y22) (fun z22 => dj32 _ y2 z22)))) (fun z2 => ((hG3 _ z2)).elim (fun y3 => (h2).elim (fun y20 => dk23 (y20 ▸ y3)) (fun z20 => (z20).elim (fun y21 => dj236.symm _ y21 y3) (fun z21 => (z21).elim (fun y22 => dj244.symm _ y22 y3) (fun z22 => dk46 _ y3 z22)))) (fun z3 => (h2).elim (fun y20 => dk33 (y20 ▸ z3)) (fun z20 => (z20).elim (fun y21 => dj237.symm _ y21 z3) (fun z21 => (z21).elim (fun y22 => dj245.symm _ y22 z3) (fun z22 => d12 _ z3 z22)))))))) (fun j h1 h2 => (h1).elim (fun y0 => dk13 (y0 ▸ h2)) (fun z0 => (z0).elim (fun y1 => dj22 _ y1 h2) (fun z1 => (z1).elim (fun y2 => dj29 _ y2 h2) (fun z2 => ((hG3 _ z2)).elim (fun y3 => dk24 _ y3 h2) (fun z3 => dk34 _ z3 h2))))) (fun j h1 h2 => (h1).elim (fun y0 => dk14 (y0 ▸ h2)) (fun z0 => (z0).elim (fun y1 => dj235.symm _ y1 h2) (fun z1 => (z1).elim (fun y2 => dj243.symm _ y2 h2) (fun z2 => dk44 _ z2 h2))))) (fun h1 => (h1).elim (fun y0 => (y0).elim (fun y1 => hpa y1) (fun z1 => (z1).elim (fun y2 => bx_own_ne hx hO36 (by decide) y2) (fun z2 => (z2).elim (fun y3 => bx_own_ne hx hO37 (by decide) y3) (fun z3 => ((hG3 _ z3)).elim (fun y4 => dk17 y4) (fun z4 => dk27 z4))))) (fun z0 => (z0).elim (fun y1 => (y1).elim (fun y2 => hpb y2) (fun z2 => (z2).elim (fun y3 => bx_own_ne hx hcv234 (by decide) y3) (fun z3 => (z3).elim (fun y4 => bx_own_ne hx hcv241 (by decide) y4) (fun z4 => dk37 z4)))) (fun z1 => djpG z1))) (fun j h1 h2 => (h2).elim (fun y20 => (y20).elim (fun y21 => bx_own_ne hbj34 hO222 (by decide) (y21 ▸ h1)) (fun z21 => (z21).elim (fun y22 => dj20 _ h1 y22) (fun z22 => (z22).elim (fun y23 => own_own_dj hO222 hO37 (by decide) _ h1 y23) (fun z23 => ((hG3 _ z23)).elim (fun y24 => dk15 _ h1 y24) (fun z24 => dk25 _ h1 z24))))) (fun z20 => (z20).elim (fun y21 => (y21).elim (fun y22 => bx_own_ne hxb hO222 (by decide) (y22 ▸ h1)) (fun z22 => (z22).elim (fun y23 => dj240 _ h1 y23) (fun z23 => (z23).elim (fun y24 => own_own_dj hO222 hcv241 (by decide) _ h1 y24) (fun z24 => dk35 _ h1 z24)))) (fun z21 => djkG _ h1 z21))) (fun j h1 h2 => (h2).elim (fun y20 => (y20).elim (fun y21 => bx_own_ne hbj34 oc (by decide) (y21 ▸ h1)) (fun z21 => (z21).elim (fun y22 => own_own_dj oc hO36 (by decide) _ h1 y22) (fun z22 => (z22).elim (fun y23 => dj27 _ h1 y23) (fun z23 => ((hG3 _ z23)).elim (fun y24 => dk16 _ h1 y24) (fun z24 => dk26 _ h1 z24))))) (fun z20 => (z20).elim (fun y21 => (y21).elim (fun y22 => bx_own_ne hxb oc (by decide) (y22 ▸ h1)) (fun z22 => (z22).elim (fun y23 => own_own_dj oc hcv234 (by decide) _ h1 y23) (fun z23 => (z23).elim (fun y24 => dj242 _ h1 y24) (fun z24 => dk36 _ h1 z24)))) (fun z21 => djcG _ h1 z21)))
    rw [lend_NL ha hb9 hi (by omega) (by omega)]
    exact ⟨hb, rfl, _, hT9, (newF_in (fun j hj h1 => (h1).elim (fun y0 => (y0 ▸ hNd.wp)) (fun z0 => (z0).elim (fun y1 => (fun k _ h => hNd.wk k h) j hj y1) (fun z1 => (z1).elim (fun y2 => (fun k _ h => hNd.wc k h) j hj y2) (fun z2 => (z2).elim (fun y3 => (y3).elim (fun y4 => (y4 ▸ (hNd.wg _ (hfs _ hA.wp)))) (fun z4 => (z4).elim (fun y5 => hin26 j hj y5) (fun z5 => (z5).elim (fun y6 => hin33 j hj y6) (fun z6 => ((hG3 _ z6)).elim (fun y7 => (fun j q => hNd.wg j (hfs j (hA.wg j q))) j y7) (fun z7 => (fun j q => hNd.wg j (hgs j (hB.wg j (su1 j q)))) j z7))))) (fun z3 => (z3).elim (fun y4 => (y4).elim (fun y5 => (y5 ▸ (hNd.wg _ (hgs _ hB.wp)))) (fun z5 => (z5).elim (fun y6 => (fun k hk h => (fun k _ h => hNd.wg k (hgs k (hB.wk k h))) k hk (okb.cut_ob.symm.trans h)) j hj y6) (fun z6 => (z6).elim (fun y7 => (fun k hk h => (fun k _ h => hNd.wg k (hgs k (hB.wc k h))) k hk (ocb.cut_ob.symm.trans h)) j hj y7) (fun z7 => (fun j q => hNd.wg j (hgs j (hB.wg j (su2 j q)))) j z7)))) (fun z4 => (fun j q => hNd.wg j (hGs j q)) j z4)))))))⟩

end Go.Proofs.Ytcpfdfejojghbaa
