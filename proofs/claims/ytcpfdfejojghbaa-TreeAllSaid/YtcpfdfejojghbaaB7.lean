/- Walks, written by a program: what each function of the translation hands back. -/
import Derived.Test.YtcpfdfejojghbaaProg
import Derived.KernelRfl
import Derived.Test.YtcpfdfejojghbaaB6
set_option linter.unusedVariables false
set_option linter.unusedSimpArgs false

namespace Go.Proofs.Ytcpfdfejojghbaa
open Go.Gx Go.RowKit
attribute [local irreducible] wpList wpStill Code.wp Calls
open Go.Bt
set_option maxHeartbeats 1000000 in
theorem pairsPut0 {x : Int} {ks : List Ky} {vs : List Int} {kv vv : Value} {p B0 : Nat} {k : List UInt8} {w : World} (hp : Bx w p 58 [kv, vv]) (ok : Own w B0 9 1 kv ks.length (ks.map sv)) (ov : Own w B0 3 1 vv vs.length (vs.map (Value.int .i64))) (hs : Sorted ks) (hn : ks.length ≤ 10000) (hlen : vs.length = ks.length) (hkl : ∀ x ∈ ks, x.length ≤ 1000000000) (hkk : k.length ≤ 1000000000) (hB0 : B0 ≤ w.heap.size) : Ret Try.prog 27 #[(ptr p 0), (Value.string (bs k)), (Value.int .i64 x)] w (fun v' w' => Gr w w' (fun y => y = p ∨ Bl kv y ∨ Bl vv y) ∧ v' = .bool (ks.contains k) ∧ ∃ kv' vv', Bx w' p 58 [kv', vv'] ∧ (ks.contains k = true → kv' = kv ∧ vv' = vv ∧ Own w' B0 9 1 kv' ks.length (ks.map sv) ∧ Own w' B0 3 1 vv' (vs.set (pos ks k) x).length ((vs.set (pos ks k) x).map (Value.int .i64))) ∧ (ks.contains k = false → Own w' w.heap.size 9 1 kv' (ks.take (pos ks k) ++ [k] ++ ks.drop (pos ks k)).length ((ks.take (pos ks k) ++ [k] ++ ks.drop (pos ks k)).map sv) ∧ Own w' w.heap.size 3 1 vv' (vs.take (pos ks k) ++ [x] ++ vs.drop (pos ks k)).length ((vs.take (pos ks k) ++ [x] ++ vs.drop (pos ks k)).map (Value.int .i64)))) := by
 have hpl := pos_le ks k
 have hl_1 : (ks.take (pos ks k)).length = (pos ks k) := by rw [List.length_take]; omega
 have hl_2 : (ks.drop (pos ks k)).length = ks.length - (pos ks k) := List.length_drop
 have hl_3 : (vs.take (pos ks k)).length = (pos ks k) := by rw [List.length_take]; omega
 have hl_4 : (vs.drop (pos ks k)).length = vs.length - (pos ks k) := List.length_drop
 have hi_p := hp.lt
 obtain ⟨c1, hc11, hc12, hc13⟩ := ok.cap
 obtain ⟨c2, hc21, hc22, hc23⟩ := ov.cap
 have hb := Gr.refl w (fun y => y = p ∨ Bl kv y ∨ Bl vv y)
 refine enter (N := 65) Try.func27 rfl rfl (by simp) fun a0 hN hd hA => ?_
 have s0 : a0.tmps.getD 0 undef = (ptr p 0) := hA 0 (by simp)
 have s1 : a0.tmps.getD 1 undef = (Value.string (bs k)) := hA 1 (by simp)
 have s2 : a0.tmps.getD 2 undef = (Value.int .i64 x) := hA 2 (by simp)
 clear hA
 refine seq_any fun K1 hK1 => one_reg (op_assign rfl ?_)
 refine reg_nil (hK1 _ _ (seq_any fun K2 hK2 => one_reg (op_move (ev_base hN rfl s0) (op_move (ev_base hN rfl s1) (op_fn (vs := [(ptr p 0), (Value.string (bs k))]) ok31 ⟨(ev_hit hN rfl), ⟨(ev_hit hN rfl), trivial⟩⟩ (pairsAt hp ok ov hs hn hlen hkl hkk) ?_)))))
 rintro _ w3 ⟨E4, rfl⟩
 have E4 := grown_of_below E4
 have z_w3 := E4.size
 have hp := hp.keep0 E4
 have ok := ok.keep0 E4
 have ov := ov.keep0 E4
 have hb := hb.step0 E4
 refine op_move (ev_hit hN rfl) (op_extract (ev_hit hN rfl) rfl ?_)
 refine op_extract (ev_hit hN rfl) rfl ?_
 refine op_assign (ev_hit hN rfl) ?_
 rcases Bool.eq_false_or_eq_true ((ks.contains k)) with c8 | c8
 ·
  rw [c8]
  refine op_assign (ev_hit hN rfl) (reg_nil (hK2 _ _ (seq_any fun K5 hK5 => seq_any fun K6 hK6 => ?_)))
  refine one_reg (op_move (ev_hit hN rfl) (reg_nil (hK6 _ _ (wp_cond_true (ev_hit hN rfl) (seq_any fun K7 hK7 => one_reg ?_)))))
  have hpl2 := pos_lt9 hs c8
  refine op_move (ev_base hN rfl s0) (op_nil (ev_hit hN rfl) (op_field fld58_1 (ev_hit hN rfl) (op_load1 (v := vv) one30 (ev_hit hN rfl) (hp.cell rfl) (op_move (ev_hit hN rfl) (op_move (ev_base hN rfl s2) (op_index_own (i := ((pos ks k))) slt30 (ev_hit hN rfl) ov (ev_hit hN rfl) (by omega) (by omega) ?_))))))
  intro b8 o9 lo_b8 hA10
  have hA10 : AtV vv (((pos ks k))) b8 o9 := by simpa using hA10
  have hP13 := ov
  refine op_store_own (vs := [(Value.int .i64 x)]) size3 (ev_hit hN rfl) (ev_hit hN rfl) rfl rfl rfl hP13 hA10 (by rw [hP13.1]; simp only [List.length_cons, List.length_nil]; omega) ?_
  intro w11 hO14 E12
  have z_w11 := E12.size
  have hp := hp.keepO hP13 E12 (by decide)
  have ok := ok.keepT hP13 E12 (by decide)
  have hb := hb.stepL E12 (fun _ _ h => .inr (.inr h))
  have hO14 : Own w11 B0 3 1 vv vs.length (((vs.set (pos ks k) x)).map (Value.int .i64)) := by exact hO14.cast rfl (set_ints9 (by omega))
  refine reg_nil ?_
  refine hK7 _ _ (seq_any fun K15 hK15 => one_reg (op_assign rfl (reg_nil (hK15 _ _ (wp_ret (then_ret ( ?_)))))))
  refine ret1 rfl hd (ev_hit hN rfl) ⟨_, rfl, ?_⟩
  exact ⟨hb, congrArg Value.bool c8.symm, kv, vv, hp, fun _ => ⟨rfl, rfl, ok, hO14.cast (by simp) rfl⟩, fun h => by rw [c8] at h; cases h⟩
 ·
  rw [c8]
  refine op_assign (ev_hit hN rfl) (reg_nil (hK2 _ _ (seq_any fun K16 hK16 => seq_any fun K17 hK17 => ?_)))
  refine one_reg (op_move (ev_hit hN rfl) (reg_nil (hK17 _ _ (wp_cond_false (ev_hit hN rfl) (wp_skip (hK16 _ _ ?_))))))
  refine seq_join1 (N := 65) (fun az_ w' => ∃ (vk : Value), (az_.tmps.getD 0 undef = (ptr p 0)) ∧ (az_.tmps.getD 2 undef = (Value.int .i64 x)) ∧ (az_.tmps.getD 6 undef = (Value.bool false)) ∧ (az_.tmps.getD 7 undef = (Value.int .i64 (((pos ks k) : Nat) : Int))) ∧ (Gr w w' (fun y => y = p ∨ Bl kv y ∨ Bl vv y)) ∧ (w3.heap.size ≤ w'.heap.size) ∧ (Own w' B0 3 1 vv vs.length (vs.map (Value.int .i64))) ∧ (Own w' w.heap.size 9 1 vk (ks.take (pos ks k) ++ [k] ++ ks.drop (pos ks k)).length ((ks.take (pos ks k) ++ [k] ++ ks.drop (pos ks k)).map sv)) ∧ (Bx w' p 58 [vk, vv])) (fun hJ19 => ?_) ?_
  ·
   refine seq_any fun K21 hK21 => reg_split (hd := [_, _, _, _, _, _, _, _, _, _, _, _, _, _, _, _, _, _, _]) (tl := _) 19 mixed (by kernel_rfl) rfl rfl ?_
   refine any_tree (φ := phiV [(fun uz => uz = (ptr p 0)), (fun _ => True), (fun uz => uz = (ptr p 0)), (fun uz => uz = (ptr p 0)), (fun uz => uz = (ptr p 0)), (fun uz => uz = kv), (fun uz => uz = (Value.int .i64 (((pos ks k) : Nat) : Int))), (fun uz => uz = (hiV kv (pos ks k))), (fun _ => True), (fun uz => uz = (Value.string (bs k))), (fun _ => True), (fun _ => True), (fun uz => uz = (ptr p 0)), (fun uz => uz = (ptr p 0)), (fun uz => uz = (ptr p 0)), (fun uz => uz = kv), (fun uz => uz = (Value.int .i64 (((pos ks k) : Nat) : Int))), (fun uz => uz = (cutS 1 kv (pos ks k))), (fun _ => True)]) (G := fun w' => Bx w' p 58 [kv, vv]) [1, 8, 10, 11, 18] (by kernel_rfl) (by kernel_rfl) (by kernel_rfl) (by kernel_rfl) (by kernel_rfl) hN (fun w1 w2 E h => h.keep0 E) hp (ObRs9.cons ?_ (ObRs9.pass rfl (ObRs9.cons ?_ (ObRs9.cons ?_ (ObRs9.cons ?_ (ObRs9.cons ?_ (ObRs9.cons ?_ (ObRs9.cons ?_ (ObRs9.pass rfl (ObRs9.cons ?_ (ObRs9.pass rfl (ObRs9.pass rfl (ObRs9.cons ?_ (ObRs9.cons ?_ (ObRs9.cons ?_ (ObRs9.cons ?_ (ObRs9.cons ?_ (ObRs9.cons ?_ (ObRs9.pass rfl (ObRs9.nil)))))))))))))))))))) (by simp only [putsL_defers]) ?_
   ·
    intro eA aA wA hNA hGA hbsA hdpA
    have qA_0 := (hbsA 0 rfl).trans (sl_base hN rfl s0)
    refine op_move (ev_base hNA rfl qA_0) ?_
    exact obT_end rfl rfl
   ·
    intro eA aA wA hNA hGA hbsA hdpA
    have qA_0 := (hbsA 0 rfl).trans (sl_base hN rfl s0)
    refine op_move (ev_base hNA rfl qA_0) ?_
    exact obT_end rfl rfl
   ·
    intro eA aA wA hNA hGA hbsA hdpA
    have qA_25 : Sl aA 25 (ptr p 0) := (hdpA 2 _ 25 (by kernel_rfl) rfl rfl).2 rfl
    refine op_nil (ev_base hNA rfl qA_25) ?_
    exact obT_end rfl rfl
   ·
    intro eA aA wA hNA hGA hbsA hdpA
    have qA_26 : Sl aA 26 (ptr p 0) := (hdpA 3 _ 26 (by kernel_rfl) rfl rfl).2 rfl
    refine op_field fld58_0 (ev_base hNA rfl qA_26) ?_
    exact obT_end rfl rfl
   ·
    intro eA aA wA hNA hGA hbsA hdpA
    have qA_27 : Sl aA 27 (ptr p 0) := (hdpA 4 _ 27 (by kernel_rfl) rfl rfl).2 rfl
    refine op_load1 (v := kv) one56 (ev_base hNA rfl qA_27) (hGA.cell rfl) ?_
    exact obT_end rfl rfl
   ·
    intro eA aA wA hNA hGA hbsA hdpA
    have qA_7 := (hbsA 7 rfl).trans (sl_hit hN rfl)
    refine op_move (ev_base hNA rfl qA_7) ?_
    exact obT_end rfl rfl
   ·
    intro eA aA wA hNA hGA hbsA hdpA
    have qA_28 : Sl aA 28 kv := (hdpA 5 _ 28 (by kernel_rfl) rfl rfl).2 rfl
    have qA_29 : Sl aA 29 (Value.int .i64 (((pos ks k) : Nat) : Int)) := (hdpA 6 _ 29 (by kernel_rfl) rfl rfl).2 rfl
    refine op_slice_hiC (m := (pos ks k)) slt56 (ev_base hNA rfl qA_28) hc13 (ev_base hNA rfl qA_29) (by omega) (by omega) ?_
    exact obT_end rfl rfl
   ·
    intro eA aA wA hNA hGA hbsA hdpA
    have qA_1 := (hbsA 1 rfl).trans (sl_base hN rfl s1)
    refine op_move (ev_base hNA rfl qA_1) ?_
    exact obT_end rfl rfl
   ·
    intro eA aA wA hNA hGA hbsA hdpA
    have qA_0 := (hbsA 0 rfl).trans (sl_base hN rfl s0)
    refine op_move (ev_base hNA rfl qA_0) ?_
    exact obT_end rfl rfl
   ·
    intro eA aA wA hNA hGA hbsA hdpA
    have qA_35 : Sl aA 35 (ptr p 0) := (hdpA 12 _ 35 (by kernel_rfl) rfl rfl).2 rfl
    refine op_nil (ev_base hNA rfl qA_35) ?_
    exact obT_end rfl rfl
   ·
    intro eA aA wA hNA hGA hbsA hdpA
    have qA_36 : Sl aA 36 (ptr p 0) := (hdpA 13 _ 36 (by kernel_rfl) rfl rfl).2 rfl
    refine op_field fld58_0 (ev_base hNA rfl qA_36) ?_
    exact obT_end rfl rfl
   ·
    intro eA aA wA hNA hGA hbsA hdpA
    have qA_37 : Sl aA 37 (ptr p 0) := (hdpA 14 _ 37 (by kernel_rfl) rfl rfl).2 rfl
    refine op_load1 (v := kv) one56 (ev_base hNA rfl qA_37) (hGA.cell rfl) ?_
    exact obT_end rfl rfl
   ·
    intro eA aA wA hNA hGA hbsA hdpA
    have qA_7 := (hbsA 7 rfl).trans (sl_hit hN rfl)
    refine op_move (ev_base hNA rfl qA_7) ?_
    exact obT_end rfl rfl
   ·
    intro eA aA wA hNA hGA hbsA hdpA
    have qA_38 : Sl aA 38 kv := (hdpA 15 _ 38 (by kernel_rfl) rfl rfl).2 rfl
    have qA_39 : Sl aA 39 (Value.int .i64 (((pos ks k) : Nat) : Int)) := (hdpA 16 _ 39 (by kernel_rfl) rfl rfl).2 rfl
    refine op_slice_cutS (k := (pos ks k)) slt56 (ev_base hNA rfl qA_38) ok (ev_base hNA rfl qA_39) (by omega) (by omega) ?_
    exact obT_end rfl rfl
   ·
    refine kt_step (rs := [1, 10]) (by kernel_rfl) ?_
    refine more_mem ?_ ?_
    ·
     intro w23 E23 _ a23 hN23 hbs23 hdp23 o_ ho_; obtain rfl := Option.some.inj ho_
     have z_w23 := E23.size
     have hp := hp.keep0 E23
     have ok := ok.keep0 E23
     have ov := ov.keep0 E23
     have hb := hb.step0 E23
     refine op_bslice (e := 9) (pv := []) (cs := []) trivial (by kernel_rfl) ?_
     intro w24 b25 lo_b25 hi_b25 hB27 E26
     have ne_b25_kv : kv.ownBlock ≠ some b25 := fun hh => by have := (ok.lt _ hh).2; omega
     have z_w24 := E26.size
     have hp := hp.keep0 E26
     have ok := ok.keep0 E26
     have ov := ov.keep0 E26
     have hb := hb.step0 E26
     refine kt_end rfl hp ?_
     refine kt_step (rs := [8, 10]) (by kernel_rfl) ?_
     refine more_mem ?_ ?_
     ·
      intro w29 E29 _ a29 hN29 hbs29 hdp29 o_ ho_; obtain rfl := Option.some.inj ho_
      have z_w29 := E29.size
      have hp := hp.keep0 E29
      have ok := ok.keep0 E29
      have ov := ov.keep0 E29
      have hB27 := hB27.keep0 E29
      have hb := hb.step0 E29
      have q29_24 : Sl a29 24 (Value.slice (some ⟨b25, 0, none⟩) 0 0) := (Option.some.inj ((hdp29 1 _ 24 (by kernel_rfl) rfl rfl).1 rfl)).symm
      have q29_30 : Sl a29 30 (hiV kv (pos ks k)) := (hdp29 7 _ 30 (by kernel_rfl) rfl rfl).2 rfl
      have hP35 := (Own.ofBx (base := w.heap.size) (sz := 1) (n := 0) hB27 rfl (by decide) (by omega))
      refine op_append slt56 (ev_base hN29 rfl q29_24) hP35 (ev_base hN29 rfl q29_30) (Src.ofRd Try.underlying56 (by decide) ((ok.hiCut (k := (pos ks k)) (by omega)).cast (n' := (ks.take (pos ks k)).length) (cs' := (ks.take (pos ks k)).map sv) (by rw [List.length_take]; omega) (by rw [Nat.mul_one, List.map_take])).rdw (one_sv _)) (by unfold maxLen; omega) (by omega) hb.size ?_
      intro v30 w31 hO33 E32 hm34
      have dj36 : DJ kv (Value.slice (some ⟨b25, 0, none⟩) 0 0) := fun k hk hg => by simp [Value.ownBlock] at hg; subst hg; exact ne_b25_kv hk
      have dj37 : DJ kv v30 := DJ.step hm34 (fun k hk => (ok.lt k hk).2) dj36
      have z_w31 := E32.size
      have hp := hp.keep E32 (by simp [Value.ownBlock]; try omega)
      have ok := ok.keepD E32 dj36
      have ov := ov.keepT hP35 E32 (by decide)
      have hb := hb.stepO hP35 E32 (by omega)
      have hO33 : Own w31 w.heap.size 9 1 v30 (0 + (ks.take (pos ks k)).length) (((ks.take (pos ks k))).map sv) := by simpa [u8v, sv] using hO33
      refine kt_end rfl hp ?_
      refine kt_step (rs := [10]) (by kernel_rfl) ?_
      refine one_mem ?_
      intro w39 E39 _ a39 hN39 hbs39 hdp39 o_ ho_; obtain rfl := Option.some.inj ho_
      have z_w39 := E39.size
      have hp := hp.keep0 E39
      have ok := ok.keep0 E39
      have ov := ov.keep0 E39
      have hO33 := hO33.keep0 E39
      have hb := hb.step0 E39
      have q39_32 : Sl a39 32 (Value.string (bs k)) := (hdp39 9 _ 32 (by kernel_rfl) rfl rfl).2 rfl
      refine op_bslice (e := 9) (pv := [(0, (Value.string (bs k)))]) (cs := [(Value.string (bs k))]) ⟨rfl, (ev_base hN39 rfl q39_32), trivial⟩ (by kernel_rfl) ?_
      intro w40 b41 lo_b41 hi_b41 hB43 E42
      have z_w40 := E42.size
      have hp := hp.keep0 E42
      have ok := ok.keep0 E42
      have ov := ov.keep0 E42
      have hO33 := hO33.keep0 E42
      have hb := hb.step0 E42
      refine kt_end rfl hp ?_
      refine kt_step (rs := [11]) (by kernel_rfl) ?_
      refine one_mem ?_
      intro w45 E45 _ a45 hN45 hbs45 hdp45 o_ ho_; obtain rfl := Option.some.inj ho_
      have z_w45 := E45.size
      have hp := hp.keep0 E45
      have ok := ok.keep0 E45
      have ov := ov.keep0 E45
      have hO33 := hO33.keep0 E45
      have hB43 := hB43.keep0 E45
      have hb := hb.step0 E45
      have q45_31 : Sl a45 31 v30 := (Option.some.inj ((hdp45 8 _ 31 (by kernel_rfl) rfl rfl).1 rfl)).symm
      have q45_33 : Sl a45 33 (Value.slice (some ⟨b41, 0, none⟩) 1 1) := (Option.some.inj ((hdp45 10 _ 33 (by kernel_rfl) rfl rfl).1 rfl)).symm
      have hP51 := hO33
      refine op_append slt56 (ev_base hN45 rfl q45_31) hP51 (ev_base hN45 rfl q45_33) (Src.ofRd Try.underlying56 (by decide) (RdC.ofBx (sz := 1) (n := 1) hB43 rfl (by decide)) (by simp [Value.oneCell', u8v])) (by unfold maxLen; omega) (by omega) hb.size ?_
      intro v46 w47 hO49 E48 hm50
      have z_w47 := E48.size
      have hp := hp.keepO hP51 E48 (by decide)
      have ok := ok.keepD E48 dj37
      have ov := ov.keepT hP51 E48 (by decide)
      have hb := hb.stepO hP51 E48 (by omega)
      have hO49 : Own w47 w.heap.size 9 1 v46 ((0 + (ks.take (pos ks k)).length) + 1) ((((ks.take (pos ks k)) ++ [k])).map sv) := by simpa [u8v, sv] using hO49
      refine kt_end rfl hp ?_
      refine kt_step (rs := [18]) (by kernel_rfl) ?_
      refine one_mem ?_
      intro w54 E54 _ a54 hN54 hbs54 hdp54 o_ ho_; obtain rfl := Option.some.inj ho_
      have z_w54 := E54.size
      have hp := hp.keep0 E54
      have ok := ok.keep0 E54
      have ov := ov.keep0 E54
      have hO49 := hO49.keep0 E54
      have hb := hb.step0 E54
      have q54_34 : Sl a54 34 v46 := (Option.some.inj ((hdp54 11 _ 34 (by kernel_rfl) rfl rfl).1 rfl)).symm
      have q54_40 : Sl a54 40 (cutS 1 kv (pos ks k)) := (hdp54 17 _ 40 (by kernel_rfl) rfl rfl).2 rfl
      have hP60 := hO49
      refine op_append slt56 (ev_base hN54 rfl q54_34) hP60 (ev_base hN54 rfl q54_40) (Src.ofRd Try.underlying56 (by decide) ((ok.cutO (k := (pos ks k)) (by omega)).cast (n' := (ks.drop (pos ks k)).length) (cs' := (ks.drop (pos ks k)).map sv) (by simp) (by rw [Nat.mul_one, List.map_drop])).rdw (one_sv _)) (by unfold maxLen; omega) (by omega) hb.size ?_
      intro v55 w56 hO58 E57 hm59
      have z_w56 := E57.size
      have hp := hp.keepO hP60 E57 (by decide)
      have ov := ov.keepT hP60 E57 (by decide)
      have hb := hb.stepO hP60 E57 (by omega)
      have hO58 : Own w56 w.heap.size 9 1 v55 (((0 + (ks.take (pos ks k)).length) + 1) + (ks.drop (pos ks k)).length) (((((ks.take (pos ks k)) ++ [k]) ++ (ks.drop (pos ks k)))).map sv) := by simpa [u8v, sv] using hO58
      refine kt_end rfl hp ?_
      intro w62 E62 a62 hN62 hd62 hbs62 hph62
      have hd62 := hd62.trans ((by simp only [putsL_defers] : _ = _).trans hd)
      have z_w62 := E62.size
      have hp := hp.keep0 E62
      have ov := ov.keep0 E62
      have hO58 := hO58.keep0 E62
      have hb := hb.step0 E62
      have s62_0 := (hbs62 0 rfl).trans (sl_base hN rfl s0)
      have s62_2 := (hbs62 2 rfl).trans (sl_base hN rfl s2)
      have s62_6 := (hbs62 6 rfl).trans (sl_hit hN rfl)
      have s62_7 := (hbs62 7 rfl).trans (sl_hit hN rfl)
      have s62_23 : Sl a62 23 (ptr p 0) := (hph62 0 _ 23 rfl rfl).2 rfl
      have s62_41 : Sl a62 41 v55 := (Option.some.inj ((hph62 18 _ 41 rfl rfl).1 rfl)).symm
      refine split_end ?_
      refine from_seq (tl := [_, _, _]) (by decide) (by kernel_rfl) rfl ?_
      refine op_nil (ev_base hN62 rfl s62_23) (op_field fld58_0 (ev_hit hN62 rfl) ?_)
      have hp_old := hp
      refine op_store (vs := [v55]) (cs' := [v55, vv]) size56 (ev_hit hN62 rfl) (ev_base hN62 rfl s62_41) hO58.cl rfl (by simp only [List.all_cons, List.all_nil, Bool.true_and, Bool.and_true, hO58.one]; try rfl) hp (Nat.le_of_ble_eq_true rfl) rfl ?_
      intro w65 hp E66
      have z_w65 := E66.size
      have ov := ov.keepX hp_old E66 (by decide)
      have hO58 := hO58.keepX hp_old E66 (by decide)
      have hb := hb.stepB E66 (.inl rfl)
      refine reg_nil (hK21 _ _ ?_)
      exact hJ19 _ _ _ hN62 hd62 ⟨v55, (sl_base hN62 rfl s62_0), (sl_base hN62 rfl s62_2), (sl_base hN62 rfl s62_6), (sl_base hN62 rfl s62_7), hb, (by omega), ov, (hO58.cast (n' := (ks.take (pos ks k) ++ [k] ++ ks.drop (pos ks k)).length) (cs' := (ks.take (pos ks k) ++ [k] ++ ks.drop (pos ks k)).map sv) (by first | rfl | (simp; done) | (simp only [List.length_append, List.length_cons, List.length_nil]; omega)) (by first | rfl | simp [cK, cN, cI])), hp⟩
     refine one_mem ?_
     intro w67 E67 _ a67 hN67 hbs67 hdp67 o_ ho_; obtain rfl := Option.some.inj ho_
     have z_w67 := E67.size
     have hp := hp.keep0 E67
     have ok := ok.keep0 E67
     have ov := ov.keep0 E67
     have hB27 := hB27.keep0 E67
     have hb := hb.step0 E67
     have q67_32 : Sl a67 32 (Value.string (bs k)) := (hdp67 9 _ 32 (by kernel_rfl) rfl rfl).2 rfl
     refine op_bslice (e := 9) (pv := [(0, (Value.string (bs k)))]) (cs := [(Value.string (bs k))]) ⟨rfl, (ev_base hN67 rfl q67_32), trivial⟩ (by kernel_rfl) ?_
     intro w68 b69 lo_b69 hi_b69 hB71 E70
     have z_w68 := E70.size
     have hp := hp.keep0 E70
     have ok := ok.keep0 E70
     have ov := ov.keep0 E70
     have hB27 := hB27.keep0 E70
     have hb := hb.step0 E70
     refine kt_end rfl hp ?_
     refine kt_step (rs := [8]) (by kernel_rfl) ?_
     refine one_mem ?_
     intro w73 E73 _ a73 hN73 hbs73 hdp73 o_ ho_; obtain rfl := Option.some.inj ho_
     have z_w73 := E73.size
     have hp := hp.keep0 E73
     have ok := ok.keep0 E73
     have ov := ov.keep0 E73
     have hB27 := hB27.keep0 E73
     have hB71 := hB71.keep0 E73
     have hb := hb.step0 E73
     have q73_24 : Sl a73 24 (Value.slice (some ⟨b25, 0, none⟩) 0 0) := (Option.some.inj ((hdp73 1 _ 24 (by kernel_rfl) rfl rfl).1 rfl)).symm
     have q73_30 : Sl a73 30 (hiV kv (pos ks k)) := (hdp73 7 _ 30 (by kernel_rfl) rfl rfl).2 rfl
     have hP79 := (Own.ofBx (base := w.heap.size) (sz := 1) (n := 0) hB27 rfl (by decide) (by omega))
     refine op_append slt56 (ev_base hN73 rfl q73_24) hP79 (ev_base hN73 rfl q73_30) (Src.ofRd Try.underlying56 (by decide) ((ok.hiCut (k := (pos ks k)) (by omega)).cast (n' := (ks.take (pos ks k)).length) (cs' := (ks.take (pos ks k)).map sv) (by rw [List.length_take]; omega) (by rw [Nat.mul_one, List.map_take])).rdw (one_sv _)) (by unfold maxLen; omega) (by omega) hb.size ?_
     intro v74 w75 hO77 E76 hm78
     have dj80 : DJ kv (Value.slice (some ⟨b25, 0, none⟩) 0 0) := fun k hk hg => by simp [Value.ownBlock] at hg; subst hg; exact ne_b25_kv hk
     have dj81 : DJ kv v74 := DJ.step hm78 (fun k hk => (ok.lt k hk).2) dj80
     have z_w75 := E76.size
     have hp := hp.keep E76 (by simp [Value.ownBlock]; try omega)
     have ok := ok.keepD E76 dj80
     have ov := ov.keepT hP79 E76 (by decide)
     have hB71 := hB71.keep E76 (by simp [Value.ownBlock]; try omega)
     have hb := hb.stepO hP79 E76 (by omega)
     have hO77 : Own w75 w.heap.size 9 1 v74 (0 + (ks.take (pos ks k)).length) (((ks.take (pos ks k))).map sv) := by simpa [u8v, sv] using hO77
     refine kt_end rfl hp ?_
     refine kt_step (rs := [11]) (by kernel_rfl) ?_
     refine one_mem ?_
     intro w83 E83 _ a83 hN83 hbs83 hdp83 o_ ho_; obtain rfl := Option.some.inj ho_
     have z_w83 := E83.size
     have hp := hp.keep0 E83
     have ok := ok.keep0 E83
     have ov := ov.keep0 E83
     have hB71 := hB71.keep0 E83
     have hO77 := hO77.keep0 E83
     have hb := hb.step0 E83
     have q83_31 : Sl a83 31 v74 := (Option.some.inj ((hdp83 8 _ 31 (by kernel_rfl) rfl rfl).1 rfl)).symm
     have q83_33 : Sl a83 33 (Value.slice (some ⟨b69, 0, none⟩) 1 1) := (Option.some.inj ((hdp83 10 _ 33 (by kernel_rfl) rfl rfl).1 rfl)).symm
     have hP89 := hO77
     refine op_append slt56 (ev_base hN83 rfl q83_31) hP89 (ev_base hN83 rfl q83_33) (Src.ofRd Try.underlying56 (by decide) (RdC.ofBx (sz := 1) (n := 1) hB71 rfl (by decide)) (by simp [Value.oneCell', u8v])) (by unfold maxLen; omega) (by omega) hb.size ?_
     intro v84 w85 hO87 E86 hm88
     have z_w85 := E86.size
     have hp := hp.keepO hP89 E86 (by decide)
     have ok := ok.keepD E86 dj81
     have ov := ov.keepT hP89 E86 (by decide)
     have hb := hb.stepO hP89 E86 (by omega)
     have hO87 : Own w85 w.heap.size 9 1 v84 ((0 + (ks.take (pos ks k)).length) + 1) ((((ks.take (pos ks k)) ++ [k])).map sv) := by simpa [u8v, sv] using hO87
     refine kt_end rfl hp ?_
     refine kt_step (rs := [18]) (by kernel_rfl) ?_
     refine one_mem ?_
     intro w92 E92 _ a92 hN92 hbs92 hdp92 o_ ho_; obtain rfl := Option.some.inj ho_
     have z_w92 := E92.size
     have hp := hp.keep0 E92
     have ok := ok.keep0 E92
     have ov := ov.keep0 E92
     have hO87 := hO87.keep0 E92
     have hb := hb.step0 E92
     have q92_34 : Sl a92 34 v84 := (Option.some.inj ((hdp92 11 _ 34 (by kernel_rfl) rfl rfl).1 rfl)).symm
     have q92_40 : Sl a92 40 (cutS 1 kv (pos ks k)) := (hdp92 17 _ 40 (by kernel_rfl) rfl rfl).2 rfl
     have hP98 := hO87
     refine op_append slt56 (ev_base hN92 rfl q92_34) hP98 (ev_base hN92 rfl q92_40) (Src.ofRd Try.underlying56 (by decide) ((ok.cutO (k := (pos ks k)) (by omega)).cast (n' := (ks.drop (pos ks k)).length) (cs' := (ks.drop (pos ks k)).map sv) (by simp) (by rw [Nat.mul_one, List.map_drop])).rdw (one_sv _)) (by unfold maxLen; omega) (by omega) hb.size ?_
     intro v93 w94 hO96 E95 hm97
     have z_w94 := E95.size
     have hp := hp.keepO hP98 E95 (by decide)
     have ov := ov.keepT hP98 E95 (by decide)
     have hb := hb.stepO hP98 E95 (by omega)
     have hO96 : Own w94 w.heap.size 9 1 v93 (((0 + (ks.take (pos ks k)).length) + 1) + (ks.drop (pos ks k)).length) (((((ks.take (pos ks k)) ++ [k]) ++ (ks.drop (pos ks k)))).map sv) := by simpa [u8v, sv] using hO96
     refine kt_end rfl hp ?_
     intro w100 E100 a100 hN100 hd100 hbs100 hph100
     have hd100 := hd100.trans ((by simp only [putsL_defers] : _ = _).trans hd)
     have z_w100 := E100.size
     have hp := hp.keep0 E100
     have ov := ov.keep0 E100
     have hO96 := hO96.keep0 E100
     have hb := hb.step0 E100
     have s100_0 := (hbs100 0 rfl).trans (sl_base hN rfl s0)
     have s100_2 := (hbs100 2 rfl).trans (sl_base hN rfl s2)
     have s100_6 := (hbs100 6 rfl).trans (sl_hit hN rfl)
     have s100_7 := (hbs100 7 rfl).trans (sl_hit hN rfl)
     have s100_23 : Sl a100 23 (ptr p 0) := (hph100 0 _ 23 rfl rfl).2 rfl
     have s100_41 : Sl a100 41 v93 := (Option.some.inj ((hph100 18 _ 41 rfl rfl).1 rfl)).symm
     refine split_end ?_
     refine from_seq (tl := [_, _, _]) (by decide) (by kernel_rfl) rfl ?_
     refine op_nil (ev_base hN100 rfl s100_23) (op_field fld58_0 (ev_hit hN100 rfl) ?_)
     have hp_old := hp
     refine op_store (vs := [v93]) (cs' := [v93, vv]) size56 (ev_hit hN100 rfl) (ev_base hN100 rfl s100_41) hO96.cl rfl (by simp only [List.all_cons, List.all_nil, Bool.true_and, Bool.and_true, hO96.one]; try rfl) hp (Nat.le_of_ble_eq_true rfl) rfl ?_
     intro w103 hp E104
     have z_w103 := E104.size
     have ov := ov.keepX hp_old E104 (by decide)
     have hO96 := hO96.keepX hp_old E104 (by decide)
     have hb := hb.stepB E104 (.inl rfl)
     refine reg_nil (hK21 _ _ ?_)
     exact hJ19 _ _ _ hN100 hd100 ⟨v93, (sl_base hN100 rfl s100_0), (sl_base hN100 rfl s100_2), (sl_base hN100 rfl s100_6), (sl_base hN100 rfl s100_7), hb, (by omega), ov, (hO96.cast (n' := (ks.take (pos ks k) ++ [k] ++ ks.drop (pos ks k)).length) (cs' := (ks.take (pos ks k) ++ [k] ++ ks.drop (pos ks k)).map sv) (by first | rfl | (simp; done) | (simp only [List.length_append, List.length_cons, List.length_nil]; omega)) (by first | rfl | simp [cK, cN, cI])), hp⟩
    refine one_mem ?_
    intro w105 E105 _ a105 hN105 hbs105 hdp105 o_ ho_; obtain rfl := Option.some.inj ho_
    have z_w105 := E105.size
    have hp := hp.keep0 E105
    have ok := ok.keep0 E105
    have ov := ov.keep0 E105
    have hb := hb.step0 E105
    have q105_32 : Sl a105 32 (Value.string (bs k)) := (hdp105 9 _ 32 (by kernel_rfl) rfl rfl).2 rfl
    refine op_bslice (e := 9) (pv := [(0, (Value.string (bs k)))]) (cs := [(Value.string (bs k))]) ⟨rfl, (ev_base hN105 rfl q105_32), trivial⟩ (by kernel_rfl) ?_
    intro w106 b107 lo_b107 hi_b107 hB109 E108
    have z_w106 := E108.size
    have hp := hp.keep0 E108
    have ok := ok.keep0 E108
    have ov := ov.keep0 E108
    have hb := hb.step0 E108
    refine kt_end rfl hp ?_
    refine kt_step (rs := [1]) (by kernel_rfl) ?_
    refine one_mem ?_
    intro w111 E111 _ a111 hN111 hbs111 hdp111 o_ ho_; obtain rfl := Option.some.inj ho_
    have z_w111 := E111.size
    have hp := hp.keep0 E111
    have ok := ok.keep0 E111
    have ov := ov.keep0 E111
    have hB109 := hB109.keep0 E111
    have hb := hb.step0 E111
    refine op_bslice (e := 9) (pv := []) (cs := []) trivial (by kernel_rfl) ?_
    intro w112 b113 lo_b113 hi_b113 hB115 E114
    have ne_b113_kv : kv.ownBlock ≠ some b113 := fun hh => by have := (ok.lt _ hh).2; omega
    have z_w112 := E114.size
    have hp := hp.keep0 E114
    have ok := ok.keep0 E114
    have ov := ov.keep0 E114
    have hB109 := hB109.keep0 E114
    have hb := hb.step0 E114
    refine kt_end rfl hp ?_
    refine kt_step (rs := [8]) (by kernel_rfl) ?_
    refine one_mem ?_
    intro w117 E117 _ a117 hN117 hbs117 hdp117 o_ ho_; obtain rfl := Option.some.inj ho_
    have z_w117 := E117.size
    have hp := hp.keep0 E117
    have ok := ok.keep0 E117
    have ov := ov.keep0 E117
    have hB109 := hB109.keep0 E117
    have hB115 := hB115.keep0 E117
    have hb := hb.step0 E117
    have q117_24 : Sl a117 24 (Value.slice (some ⟨b113, 0, none⟩) 0 0) := (Option.some.inj ((hdp117 1 _ 24 (by kernel_rfl) rfl rfl).1 rfl)).symm
    have q117_30 : Sl a117 30 (hiV kv (pos ks k)) := (hdp117 7 _ 30 (by kernel_rfl) rfl rfl).2 rfl
    have hP123 := (Own.ofBx (base := w.heap.size) (sz := 1) (n := 0) hB115 rfl (by decide) (by omega))
    refine op_append slt56 (ev_base hN117 rfl q117_24) hP123 (ev_base hN117 rfl q117_30) (Src.ofRd Try.underlying56 (by decide) ((ok.hiCut (k := (pos ks k)) (by omega)).cast (n' := (ks.take (pos ks k)).length) (cs' := (ks.take (pos ks k)).map sv) (by rw [List.length_take]; omega) (by rw [Nat.mul_one, List.map_take])).rdw (one_sv _)) (by unfold maxLen; omega) (by omega) hb.size ?_
    intro v118 w119 hO121 E120 hm122
    have dj124 : DJ kv (Value.slice (some ⟨b113, 0, none⟩) 0 0) := fun k hk hg => by simp [Value.ownBlock] at hg; subst hg; exact ne_b113_kv hk
    have dj125 : DJ kv v118 := DJ.step hm122 (fun k hk => (ok.lt k hk).2) dj124
    have z_w119 := E120.size
    have hp := hp.keep E120 (by simp [Value.ownBlock]; try omega)
    have ok := ok.keepD E120 dj124
    have ov := ov.keepT hP123 E120 (by decide)
    have hB109 := hB109.keep E120 (by simp [Value.ownBlock]; try omega)
    have hb := hb.stepO hP123 E120 (by omega)
    have hO121 : Own w119 w.heap.size 9 1 v118 (0 + (ks.take (pos ks k)).length) (((ks.take (pos ks k))).map sv) := by simpa [u8v, sv] using hO121
    refine kt_end rfl hp ?_
    refine kt_step (rs := [11]) (by kernel_rfl) ?_
    refine one_mem ?_
    intro w127 E127 _ a127 hN127 hbs127 hdp127 o_ ho_; obtain rfl := Option.some.inj ho_
    have z_w127 := E127.size
    have hp := hp.keep0 E127
    have ok := ok.keep0 E127
    have ov := ov.keep0 E127
    have hB109 := hB109.keep0 E127
    have hO121 := hO121.keep0 E127
    have hb := hb.step0 E127
    have q127_31 : Sl a127 31 v118 := (Option.some.inj ((hdp127 8 _ 31 (by kernel_rfl) rfl rfl).1 rfl)).symm
    have q127_33 : Sl a127 33 (Value.slice (some ⟨b107, 0, none⟩) 1 1) := (Option.some.inj ((hdp127 10 _ 33 (by kernel_rfl) rfl rfl).1 rfl)).symm
    have hP133 := hO121
    refine op_append slt56 (ev_base hN127 rfl q127_31) hP133 (ev_base hN127 rfl q127_33) (Src.ofRd Try.underlying56 (by decide) (RdC.ofBx (sz := 1) (n := 1) hB109 rfl (by decide)) (by simp [Value.oneCell', u8v])) (by unfold maxLen; omega) (by omega) hb.size ?_
    intro v128 w129 hO131 E130 hm132
    have z_w129 := E130.size
    have hp := hp.keepO hP133 E130 (by decide)
    have ok := ok.keepD E130 dj125
    have ov := ov.keepT hP133 E130 (by decide)
    have hb := hb.stepO hP133 E130 (by omega)
    have hO131 : Own w129 w.heap.size 9 1 v128 ((0 + (ks.take (pos ks k)).length) + 1) ((((ks.take (pos ks k)) ++ [k])).map sv) := by simpa [u8v, sv] using hO131
    refine kt_end rfl hp ?_
    refine kt_step (rs := [18]) (by kernel_rfl) ?_
    refine one_mem ?_
    intro w136 E136 _ a136 hN136 hbs136 hdp136 o_ ho_; obtain rfl := Option.some.inj ho_
    have z_w136 := E136.size
    have hp := hp.keep0 E136
    have ok := ok.keep0 E136
    have ov := ov.keep0 E136
    have hO131 := hO131.keep0 E136
    have hb := hb.step0 E136
    have q136_34 : Sl a136 34 v128 := (Option.some.inj ((hdp136 11 _ 34 (by kernel_rfl) rfl rfl).1 rfl)).symm
    have q136_40 : Sl a136 40 (cutS 1 kv (pos ks k)) := (hdp136 17 _ 40 (by kernel_rfl) rfl rfl).2 rfl
    have hP142 := hO131
    refine op_append slt56 (ev_base hN136 rfl q136_34) hP142 (ev_base hN136 rfl q136_40) (Src.ofRd Try.underlying56 (by decide) ((ok.cutO (k := (pos ks k)) (by omega)).cast (n' := (ks.drop (pos ks k)).length) (cs' := (ks.drop (pos ks k)).map sv) (by simp) (by rw [Nat.mul_one, List.map_drop])).rdw (one_sv _)) (by unfold maxLen; omega) (by omega) hb.size ?_
    intro v137 w138 hO140 E139 hm141
    have z_w138 := E139.size
    have hp := hp.keepO hP142 E139 (by decide)
    have ov := ov.keepT hP142 E139 (by decide)
    have hb := hb.stepO hP142 E139 (by omega)
    have hO140 : Own w138 w.heap.size 9 1 v137 (((0 + (ks.take (pos ks k)).length) + 1) + (ks.drop (pos ks k)).length) (((((ks.take (pos ks k)) ++ [k]) ++ (ks.drop (pos ks k)))).map sv) := by simpa [u8v, sv] using hO140
    refine kt_end rfl hp ?_
    intro w144 E144 a144 hN144 hd144 hbs144 hph144
    have hd144 := hd144.trans ((by simp only [putsL_defers] : _ = _).trans hd)
    have z_w144 := E144.size
    have hp := hp.keep0 E144
    have ov := ov.keep0 E144
    have hO140 := hO140.keep0 E144
    have hb := hb.step0 E144
    have s144_0 := (hbs144 0 rfl).trans (sl_base hN rfl s0)
    have s144_2 := (hbs144 2 rfl).trans (sl_base hN rfl s2)
    have s144_6 := (hbs144 6 rfl).trans (sl_hit hN rfl)
    have s144_7 := (hbs144 7 rfl).trans (sl_hit hN rfl)
    have s144_23 : Sl a144 23 (ptr p 0) := (hph144 0 _ 23 rfl rfl).2 rfl
    have s144_41 : Sl a144 41 v137 := (Option.some.inj ((hph144 18 _ 41 rfl rfl).1 rfl)).symm
    refine split_end ?_
    refine from_seq (tl := [_, _, _]) (by decide) (by kernel_rfl) rfl ?_
    refine op_nil (ev_base hN144 rfl s144_23) (op_field fld58_0 (ev_hit hN144 rfl) ?_)
    have hp_old := hp
    refine op_store (vs := [v137]) (cs' := [v137, vv]) size56 (ev_hit hN144 rfl) (ev_base hN144 rfl s144_41) hO140.cl rfl (by simp only [List.all_cons, List.all_nil, Bool.true_and, Bool.and_true, hO140.one]; try rfl) hp (Nat.le_of_ble_eq_true rfl) rfl ?_
    intro w147 hp E148
    have z_w147 := E148.size
    have ov := ov.keepX hp_old E148 (by decide)
    have hO140 := hO140.keepX hp_old E148 (by decide)
    have hb := hb.stepB E148 (.inl rfl)
    refine reg_nil (hK21 _ _ ?_)
    exact hJ19 _ _ _ hN144 hd144 ⟨v137, (sl_base hN144 rfl s144_0), (sl_base hN144 rfl s144_2), (sl_base hN144 rfl s144_6), (sl_base hN144 rfl s144_7), hb, (by omega), ov, (hO140.cast (n' := (ks.take (pos ks k) ++ [k] ++ ks.drop (pos ks k)).length) (cs' := (ks.take (pos ks k) ++ [k] ++ ks.drop (pos ks k)).map sv) (by first | rfl | (simp; done) | (simp only [List.length_append, List.length_cons, List.length_nil]; omega)) (by first | rfl | simp [cK, cN, cI])), hp⟩
  ·
   rintro a19 w19 hN19 hd19 ⟨vk, s19_0, s19_2, s19_6, s19_7, hb, zl_w19, ov, hO20, hbj18⟩
   have z_w19 := hb.size
   refine seq_any fun K149 hK149 => reg_split (hd := [_, _, _, _, _, _, _, _, _, _, _, _, _, _, _, _, _, _, _]) (tl := _) 19 mixed (by kernel_rfl) rfl rfl ?_
   refine any_tree (φ := phiV [(fun uz => uz = (ptr p 0)), (fun _ => True), (fun uz => uz = (ptr p 0)), (fun uz => uz = (ptr p 0)), (fun uz => uz = (ptr p 1)), (fun uz => uz = vv), (fun uz => uz = (Value.int .i64 (((pos ks k) : Nat) : Int))), (fun uz => uz = (hiV vv (pos ks k))), (fun _ => True), (fun uz => uz = (Value.int .i64 x)), (fun _ => True), (fun _ => True), (fun uz => uz = (ptr p 0)), (fun uz => uz = (ptr p 0)), (fun uz => uz = (ptr p 1)), (fun uz => uz = vv), (fun uz => uz = (Value.int .i64 (((pos ks k) : Nat) : Int))), (fun uz => uz = (cutS 1 vv (pos ks k))), (fun _ => True)]) (G := fun w' => Bx w' p 58 [vk, vv]) [1, 8, 10, 11, 18] (by kernel_rfl) (by kernel_rfl) (by kernel_rfl) (by kernel_rfl) (by kernel_rfl) hN19 (fun w1 w2 E h => h.keep0 E) hbj18 (ObRs9.cons ?_ (ObRs9.pass rfl (ObRs9.cons ?_ (ObRs9.cons ?_ (ObRs9.cons ?_ (ObRs9.cons ?_ (ObRs9.cons ?_ (ObRs9.cons ?_ (ObRs9.pass rfl (ObRs9.cons ?_ (ObRs9.pass rfl (ObRs9.pass rfl (ObRs9.cons ?_ (ObRs9.cons ?_ (ObRs9.cons ?_ (ObRs9.cons ?_ (ObRs9.cons ?_ (ObRs9.cons ?_ (ObRs9.pass rfl (ObRs9.nil)))))))))))))))))))) (by simp only [putsL_defers]) ?_
   ·
    intro eA aA wA hNA hGA hbsA hdpA
    have qA_0 := (hbsA 0 rfl).trans (sl_base hN19 rfl s19_0)
    refine op_move (ev_base hNA rfl qA_0) ?_
    exact obT_end rfl rfl
   ·
    intro eA aA wA hNA hGA hbsA hdpA
    have qA_0 := (hbsA 0 rfl).trans (sl_base hN19 rfl s19_0)
    refine op_move (ev_base hNA rfl qA_0) ?_
    exact obT_end rfl rfl
   ·
    intro eA aA wA hNA hGA hbsA hdpA
    have qA_46 : Sl aA 46 (ptr p 0) := (hdpA 2 _ 46 (by kernel_rfl) rfl rfl).2 rfl
    refine op_nil (ev_base hNA rfl qA_46) ?_
    exact obT_end rfl rfl
   ·
    intro eA aA wA hNA hGA hbsA hdpA
    have qA_47 : Sl aA 47 (ptr p 0) := (hdpA 3 _ 47 (by kernel_rfl) rfl rfl).2 rfl
    refine op_field fld58_1 (ev_base hNA rfl qA_47) ?_
    exact obT_end rfl rfl
   ·
    intro eA aA wA hNA hGA hbsA hdpA
    have qA_48 : Sl aA 48 (ptr p 1) := (hdpA 4 _ 48 (by kernel_rfl) rfl rfl).2 rfl
    refine op_load1 (v := vv) one30 (ev_base hNA rfl qA_48) (hGA.cell rfl) ?_
    exact obT_end rfl rfl
   ·
    intro eA aA wA hNA hGA hbsA hdpA
    have qA_7 := (hbsA 7 rfl).trans (sl_base hN19 rfl s19_7)
    refine op_move (ev_base hNA rfl qA_7) ?_
    exact obT_end rfl rfl
   ·
    intro eA aA wA hNA hGA hbsA hdpA
    have qA_49 : Sl aA 49 vv := (hdpA 5 _ 49 (by kernel_rfl) rfl rfl).2 rfl
    have qA_50 : Sl aA 50 (Value.int .i64 (((pos ks k) : Nat) : Int)) := (hdpA 6 _ 50 (by kernel_rfl) rfl rfl).2 rfl
    refine op_slice_hiC (m := (pos ks k)) slt30 (ev_base hNA rfl qA_49) hc23 (ev_base hNA rfl qA_50) (by omega) (by omega) ?_
    exact obT_end rfl rfl
   ·
    intro eA aA wA hNA hGA hbsA hdpA
    have qA_2 := (hbsA 2 rfl).trans (sl_base hN19 rfl s19_2)
    refine op_move (ev_base hNA rfl qA_2) ?_
    exact obT_end rfl rfl
   ·
    intro eA aA wA hNA hGA hbsA hdpA
    have qA_0 := (hbsA 0 rfl).trans (sl_base hN19 rfl s19_0)
    refine op_move (ev_base hNA rfl qA_0) ?_
    exact obT_end rfl rfl
   ·
    intro eA aA wA hNA hGA hbsA hdpA
    have qA_56 : Sl aA 56 (ptr p 0) := (hdpA 12 _ 56 (by kernel_rfl) rfl rfl).2 rfl
    refine op_nil (ev_base hNA rfl qA_56) ?_
    exact obT_end rfl rfl
   ·
    intro eA aA wA hNA hGA hbsA hdpA
    have qA_57 : Sl aA 57 (ptr p 0) := (hdpA 13 _ 57 (by kernel_rfl) rfl rfl).2 rfl
    refine op_field fld58_1 (ev_base hNA rfl qA_57) ?_
    exact obT_end rfl rfl
   ·
    intro eA aA wA hNA hGA hbsA hdpA
    have qA_58 : Sl aA 58 (ptr p 1) := (hdpA 14 _ 58 (by kernel_rfl) rfl rfl).2 rfl
    refine op_load1 (v := vv) one30 (ev_base hNA rfl qA_58) (hGA.cell rfl) ?_
    exact obT_end rfl rfl
   ·
    intro eA aA wA hNA hGA hbsA hdpA
    have qA_7 := (hbsA 7 rfl).trans (sl_base hN19 rfl s19_7)
    refine op_move (ev_base hNA rfl qA_7) ?_
    exact obT_end rfl rfl
   ·
    intro eA aA wA hNA hGA hbsA hdpA
    have qA_59 : Sl aA 59 vv := (hdpA 15 _ 59 (by kernel_rfl) rfl rfl).2 rfl
    have qA_60 : Sl aA 60 (Value.int .i64 (((pos ks k) : Nat) : Int)) := (hdpA 16 _ 60 (by kernel_rfl) rfl rfl).2 rfl
    refine op_slice_cutS (k := (pos ks k)) slt30 (ev_base hNA rfl qA_59) ov (ev_base hNA rfl qA_60) (by omega) (by omega) ?_
    exact obT_end rfl rfl
   ·
    refine kt_step (rs := [1, 10]) (by kernel_rfl) ?_
    refine more_mem ?_ ?_
    ·
     intro w151 E151 _ a151 hN151 hbs151 hdp151 o_ ho_; obtain rfl := Option.some.inj ho_
     have z_w151 := E151.size
     have ov := ov.keep0 E151
     have hO20 := hO20.keep0 E151
     have hbj18 := hbj18.keep0 E151
     have hb := hb.step0 E151
     refine op_bslice (e := 3) (pv := []) (cs := []) trivial (by kernel_rfl) ?_
     intro w152 b153 lo_b153 hi_b153 hB155 E154
     have ne_b153_vv : vv.ownBlock ≠ some b153 := fun hh => by have := (ov.lt _ hh).2; omega
     have z_w152 := E154.size
     have ov := ov.keep0 E154
     have hO20 := hO20.keep0 E154
     have hbj18 := hbj18.keep0 E154
     have hb := hb.step0 E154
     refine kt_end rfl hbj18 ?_
     refine kt_step (rs := [8, 10]) (by kernel_rfl) ?_
     refine more_mem ?_ ?_
     ·
      intro w157 E157 _ a157 hN157 hbs157 hdp157 o_ ho_; obtain rfl := Option.some.inj ho_
      have z_w157 := E157.size
      have ov := ov.keep0 E157
      have hO20 := hO20.keep0 E157
      have hbj18 := hbj18.keep0 E157
      have hB155 := hB155.keep0 E157
      have hb := hb.step0 E157
      have q157_45 : Sl a157 45 (Value.slice (some ⟨b153, 0, none⟩) 0 0) := (Option.some.inj ((hdp157 1 _ 45 (by kernel_rfl) rfl rfl).1 rfl)).symm
      have q157_51 : Sl a157 51 (hiV vv (pos ks k)) := (hdp157 7 _ 51 (by kernel_rfl) rfl rfl).2 rfl
      have hP163 := (Own.ofBx (base := w.heap.size) (sz := 1) (n := 0) hB155 rfl (by decide) (by omega))
      refine op_append slt30 (ev_base hN157 rfl q157_45) hP163 (ev_base hN157 rfl q157_51) (Src.ofRd Try.underlying30 (by decide) ((ov.hiCut (k := (pos ks k)) (by omega)).cast (n' := (vs.take (pos ks k)).length) (cs' := (vs.take (pos ks k)).map (Value.int .i64)) (by rw [List.length_take]; omega) (by rw [Nat.mul_one, List.map_take])).rdw (one_i64 _)) (by unfold maxLen; omega) (by omega) hb.size ?_
      intro v158 w159 hO161 E160 hm162
      have dj164 : DJ vv (Value.slice (some ⟨b153, 0, none⟩) 0 0) := fun k hk hg => by simp [Value.ownBlock] at hg; subst hg; exact ne_b153_vv hk
      have dj165 : DJ vv v158 := DJ.step hm162 (fun k hk => (ov.lt k hk).2) dj164
      have z_w159 := E160.size
      have ov := ov.keepD E160 dj164
      have hO20 := hO20.keepT hP163 E160 (by decide)
      have hbj18 := hbj18.keep E160 (by simp [Value.ownBlock]; try omega)
      have hb := hb.stepO hP163 E160 (by omega)
      have hO161 : Own w159 w.heap.size 3 1 v158 (0 + (vs.take (pos ks k)).length) (((vs.take (pos ks k))).map (Value.int .i64)) := by simpa [u8v, sv] using hO161
      refine kt_end rfl hbj18 ?_
      refine kt_step (rs := [10]) (by kernel_rfl) ?_
      refine one_mem ?_
      intro w167 E167 _ a167 hN167 hbs167 hdp167 o_ ho_; obtain rfl := Option.some.inj ho_
      have z_w167 := E167.size
      have ov := ov.keep0 E167
      have hO20 := hO20.keep0 E167
      have hbj18 := hbj18.keep0 E167
      have hO161 := hO161.keep0 E167
      have hb := hb.step0 E167
      have q167_53 : Sl a167 53 (Value.int .i64 x) := (hdp167 9 _ 53 (by kernel_rfl) rfl rfl).2 rfl
      refine op_bslice (e := 3) (pv := [(0, (Value.int .i64 x))]) (cs := [(Value.int .i64 x)]) ⟨rfl, (ev_base hN167 rfl q167_53), trivial⟩ (by kernel_rfl) ?_
      intro w168 b169 lo_b169 hi_b169 hB171 E170
      have z_w168 := E170.size
      have ov := ov.keep0 E170
      have hO20 := hO20.keep0 E170
      have hbj18 := hbj18.keep0 E170
      have hO161 := hO161.keep0 E170
      have hb := hb.step0 E170
      refine kt_end rfl hbj18 ?_
      refine kt_step (rs := [11]) (by kernel_rfl) ?_
      refine one_mem ?_
      intro w173 E173 _ a173 hN173 hbs173 hdp173 o_ ho_; obtain rfl := Option.some.inj ho_
      have z_w173 := E173.size
      have ov := ov.keep0 E173
      have hO20 := hO20.keep0 E173
      have hbj18 := hbj18.keep0 E173
      have hO161 := hO161.keep0 E173
      have hB171 := hB171.keep0 E173
      have hb := hb.step0 E173
      have q173_52 : Sl a173 52 v158 := (Option.some.inj ((hdp173 8 _ 52 (by kernel_rfl) rfl rfl).1 rfl)).symm
      have q173_54 : Sl a173 54 (Value.slice (some ⟨b169, 0, none⟩) 1 1) := (Option.some.inj ((hdp173 10 _ 54 (by kernel_rfl) rfl rfl).1 rfl)).symm
      have hP179 := hO161
      refine op_append slt30 (ev_base hN173 rfl q173_52) hP179 (ev_base hN173 rfl q173_54) (Src.ofRd Try.underlying30 (by decide) (RdC.ofBx (sz := 1) (n := 1) hB171 rfl (by decide)) (by simp [Value.oneCell', u8v])) (by unfold maxLen; omega) (by omega) hb.size ?_
      intro v174 w175 hO177 E176 hm178
      have z_w175 := E176.size
      have ov := ov.keepD E176 dj165
      have hO20 := hO20.keepT hP179 E176 (by decide)
      have hbj18 := hbj18.keepO hP179 E176 (by decide)
      have hb := hb.stepO hP179 E176 (by omega)
      have hO177 : Own w175 w.heap.size 3 1 v174 ((0 + (vs.take (pos ks k)).length) + 1) ((((vs.take (pos ks k)) ++ [x])).map (Value.int .i64)) := by simpa [u8v, sv] using hO177
      refine kt_end rfl hbj18 ?_
      refine kt_step (rs := [18]) (by kernel_rfl) ?_
      refine one_mem ?_
      intro w182 E182 _ a182 hN182 hbs182 hdp182 o_ ho_; obtain rfl := Option.some.inj ho_
      have z_w182 := E182.size
      have ov := ov.keep0 E182
      have hO20 := hO20.keep0 E182
      have hbj18 := hbj18.keep0 E182
      have hO177 := hO177.keep0 E182
      have hb := hb.step0 E182
      have q182_55 : Sl a182 55 v174 := (Option.some.inj ((hdp182 11 _ 55 (by kernel_rfl) rfl rfl).1 rfl)).symm
      have q182_61 : Sl a182 61 (cutS 1 vv (pos ks k)) := (hdp182 17 _ 61 (by kernel_rfl) rfl rfl).2 rfl
      have hP188 := hO177
      refine op_append slt30 (ev_base hN182 rfl q182_55) hP188 (ev_base hN182 rfl q182_61) (Src.ofRd Try.underlying30 (by decide) ((ov.cutO (k := (pos ks k)) (by omega)).cast (n' := (vs.drop (pos ks k)).length) (cs' := (vs.drop (pos ks k)).map (Value.int .i64)) (by simp) (by rw [Nat.mul_one, List.map_drop])).rdw (one_i64 _)) (by unfold maxLen; omega) (by omega) hb.size ?_
      intro v183 w184 hO186 E185 hm187
      have z_w184 := E185.size
      have hO20 := hO20.keepT hP188 E185 (by decide)
      have hbj18 := hbj18.keepO hP188 E185 (by decide)
      have hb := hb.stepO hP188 E185 (by omega)
      have hO186 : Own w184 w.heap.size 3 1 v183 (((0 + (vs.take (pos ks k)).length) + 1) + (vs.drop (pos ks k)).length) (((((vs.take (pos ks k)) ++ [x]) ++ (vs.drop (pos ks k)))).map (Value.int .i64)) := by simpa [u8v, sv] using hO186
      refine kt_end rfl hbj18 ?_
      intro w190 E190 a190 hN190 hd190 hbs190 hph190
      have hd190 := hd190.trans ((by simp only [putsL_defers] : _ = _).trans hd19)
      have z_w190 := E190.size
      have hO20 := hO20.keep0 E190
      have hbj18 := hbj18.keep0 E190
      have hO186 := hO186.keep0 E190
      have hb := hb.step0 E190
      have s190_44 : Sl a190 44 (ptr p 0) := (hph190 0 _ 44 rfl rfl).2 rfl
      have s190_62 : Sl a190 62 v183 := (Option.some.inj ((hph190 18 _ 62 rfl rfl).1 rfl)).symm
      refine split_end ?_
      refine from_seq (tl := [_, _, _]) (by decide) (by kernel_rfl) rfl ?_
      refine op_nil (ev_base hN190 rfl s190_44) (op_field fld58_1 (ev_hit hN190 rfl) ?_)
      have hbj18_old := hbj18
      refine op_store (vs := [v183]) (cs' := [vk, v183]) size30 (ev_hit hN190 rfl) (ev_base hN190 rfl s190_62) hO186.cl rfl (by simp only [List.all_cons, List.all_nil, Bool.true_and, Bool.and_true, hO186.one]; try rfl) hbj18 (Nat.le_of_ble_eq_true rfl) rfl ?_
      intro w193 hbj18 E194
      have z_w193 := E194.size
      have hO20 := hO20.keepX hbj18_old E194 (by decide)
      have hO186 := hO186.keepX hbj18_old E194 (by decide)
      have hb := hb.stepB E194 (.inl rfl)
      refine reg_nil ?_
      refine hK149 _ _ (seq_any fun K195 hK195 => one_reg (op_assign rfl (reg_nil (hK195 _ _ (wp_ret ?_)))))
      refine ret1 rfl hd190 (ev_hit hN190 rfl) ⟨_, rfl, ?_⟩
      exact ⟨hb, congrArg Value.bool c8.symm, _, _, hbj18, fun h => by rw [c8] at h; (cases h), fun _ => ⟨hO20, hO186.cast (by simp only [List.length_append, List.length_cons, List.length_nil]; omega) rfl⟩⟩
     refine one_mem ?_
     intro w196 E196 _ a196 hN196 hbs196 hdp196 o_ ho_; obtain rfl := Option.some.inj ho_
     have z_w196 := E196.size
     have ov := ov.keep0 E196
     have hO20 := hO20.keep0 E196
     have hbj18 := hbj18.keep0 E196
     have hB155 := hB155.keep0 E196
     have hb := hb.step0 E196
     have q196_53 : Sl a196 53 (Value.int .i64 x) := (hdp196 9 _ 53 (by kernel_rfl) rfl rfl).2 rfl
     refine op_bslice (e := 3) (pv := [(0, (Value.int .i64 x))]) (cs := [(Value.int .i64 x)]) ⟨rfl, (ev_base hN196 rfl q196_53), trivial⟩ (by kernel_rfl) ?_
     intro w197 b198 lo_b198 hi_b198 hB200 E199
     have z_w197 := E199.size
     have ov := ov.keep0 E199
     have hO20 := hO20.keep0 E199
     have hbj18 := hbj18.keep0 E199
     have hB155 := hB155.keep0 E199
     have hb := hb.step0 E199
     refine kt_end rfl hbj18 ?_
     refine kt_step (rs := [8]) (by kernel_rfl) ?_
     refine one_mem ?_
     intro w202 E202 _ a202 hN202 hbs202 hdp202 o_ ho_; obtain rfl := Option.some.inj ho_
     have z_w202 := E202.size
     have ov := ov.keep0 E202
     have hO20 := hO20.keep0 E202
     have hbj18 := hbj18.keep0 E202
     have hB155 := hB155.keep0 E202
     have hB200 := hB200.keep0 E202
     have hb := hb.step0 E202
     have q202_45 : Sl a202 45 (Value.slice (some ⟨b153, 0, none⟩) 0 0) := (Option.some.inj ((hdp202 1 _ 45 (by kernel_rfl) rfl rfl).1 rfl)).symm
     have q202_51 : Sl a202 51 (hiV vv (pos ks k)) := (hdp202 7 _ 51 (by kernel_rfl) rfl rfl).2 rfl
     have hP208 := (Own.ofBx (base := w.heap.size) (sz := 1) (n := 0) hB155 rfl (by decide) (by omega))
     refine op_append slt30 (ev_base hN202 rfl q202_45) hP208 (ev_base hN202 rfl q202_51) (Src.ofRd Try.underlying30 (by decide) ((ov.hiCut (k := (pos ks k)) (by omega)).cast (n' := (vs.take (pos ks k)).length) (cs' := (vs.take (pos ks k)).map (Value.int .i64)) (by rw [List.length_take]; omega) (by rw [Nat.mul_one, List.map_take])).rdw (one_i64 _)) (by unfold maxLen; omega) (by omega) hb.size ?_
     intro v203 w204 hO206 E205 hm207
     have dj209 : DJ vv (Value.slice (some ⟨b153, 0, none⟩) 0 0) := fun k hk hg => by simp [Value.ownBlock] at hg; subst hg; exact ne_b153_vv hk
     have dj210 : DJ vv v203 := DJ.step hm207 (fun k hk => (ov.lt k hk).2) dj209
     have z_w204 := E205.size
     have ov := ov.keepD E205 dj209
     have hO20 := hO20.keepT hP208 E205 (by decide)
     have hbj18 := hbj18.keep E205 (by simp [Value.ownBlock]; try omega)
     have hB200 := hB200.keep E205 (by simp [Value.ownBlock]; try omega)
     have hb := hb.stepO hP208 E205 (by omega)
     have hO206 : Own w204 w.heap.size 3 1 v203 (0 + (vs.take (pos ks k)).length) (((vs.take (pos ks k))).map (Value.int .i64)) := by simpa [u8v, sv] using hO206
     refine kt_end rfl hbj18 ?_
     refine kt_step (rs := [11]) (by kernel_rfl) ?_
     refine one_mem ?_
     intro w212 E212 _ a212 hN212 hbs212 hdp212 o_ ho_; obtain rfl := Option.some.inj ho_
     have z_w212 := E212.size
     have ov := ov.keep0 E212
     have hO20 := hO20.keep0 E212
     have hbj18 := hbj18.keep0 E212
     have hB200 := hB200.keep0 E212
     have hO206 := hO206.keep0 E212
     have hb := hb.step0 E212
     have q212_52 : Sl a212 52 v203 := (Option.some.inj ((hdp212 8 _ 52 (by kernel_rfl) rfl rfl).1 rfl)).symm
     have q212_54 : Sl a212 54 (Value.slice (some ⟨b198, 0, none⟩) 1 1) := (Option.some.inj ((hdp212 10 _ 54 (by kernel_rfl) rfl rfl).1 rfl)).symm
     have hP218 := hO206
     refine op_append slt30 (ev_base hN212 rfl q212_52) hP218 (ev_base hN212 rfl q212_54) (Src.ofRd Try.underlying30 (by decide) (RdC.ofBx (sz := 1) (n := 1) hB200 rfl (by decide)) (by simp [Value.oneCell', u8v])) (by unfold maxLen; omega) (by omega) hb.size ?_
     intro v213 w214 hO216 E215 hm217
     have z_w214 := E215.size
     have ov := ov.keepD E215 dj210
     have hO20 := hO20.keepT hP218 E215 (by decide)
     have hbj18 := hbj18.keepO hP218 E215 (by decide)
     have hb := hb.stepO hP218 E215 (by omega)
     have hO216 : Own w214 w.heap.size 3 1 v213 ((0 + (vs.take (pos ks k)).length) + 1) ((((vs.take (pos ks k)) ++ [x])).map (Value.int .i64)) := by simpa [u8v, sv] using hO216
     refine kt_end rfl hbj18 ?_
     refine kt_step (rs := [18]) (by kernel_rfl) ?_
     refine one_mem ?_
     intro w221 E221 _ a221 hN221 hbs221 hdp221 o_ ho_; obtain rfl := Option.some.inj ho_
     have z_w221 := E221.size
     have ov := ov.keep0 E221
     have hO20 := hO20.keep0 E221
     have hbj18 := hbj18.keep0 E221
     have hO216 := hO216.keep0 E221
     have hb := hb.step0 E221
     have q221_55 : Sl a221 55 v213 := (Option.some.inj ((hdp221 11 _ 55 (by kernel_rfl) rfl rfl).1 rfl)).symm
     have q221_61 : Sl a221 61 (cutS 1 vv (pos ks k)) := (hdp221 17 _ 61 (by kernel_rfl) rfl rfl).2 rfl
     have hP227 := hO216
     refine op_append slt30 (ev_base hN221 rfl q221_55) hP227 (ev_base hN221 rfl q221_61) (Src.ofRd Try.underlying30 (by decide) ((ov.cutO (k := (pos ks k)) (by omega)).cast (n' := (vs.drop (pos ks k)).length) (cs' := (vs.drop (pos ks k)).map (Value.int .i64)) (by simp) (by rw [Nat.mul_one, List.map_drop])).rdw (one_i64 _)) (by unfold maxLen; omega) (by omega) hb.size ?_
     intro v222 w223 hO225 E224 hm226
     have z_w223 := E224.size
     have hO20 := hO20.keepT hP227 E224 (by decide)
     have hbj18 := hbj18.keepO hP227 E224 (by decide)
     have hb := hb.stepO hP227 E224 (by omega)
     have hO225 : Own w223 w.heap.size 3 1 v222 (((0 + (vs.take (pos ks k)).length) + 1) + (vs.drop (pos ks k)).length) (((((vs.take (pos ks k)) ++ [x]) ++ (vs.drop (pos ks k)))).map (Value.int .i64)) := by simpa [u8v, sv] using hO225
     refine kt_end rfl hbj18 ?_
     intro w229 E229 a229 hN229 hd229 hbs229 hph229
     have hd229 := hd229.trans ((by simp only [putsL_defers] : _ = _).trans hd19)
     have z_w229 := E229.size
     have hO20 := hO20.keep0 E229
     have hbj18 := hbj18.keep0 E229
     have hO225 := hO225.keep0 E229
     have hb := hb.step0 E229
     have s229_44 : Sl a229 44 (ptr p 0) := (hph229 0 _ 44 rfl rfl).2 rfl
     have s229_62 : Sl a229 62 v222 := (Option.some.inj ((hph229 18 _ 62 rfl rfl).1 rfl)).symm
     refine split_end ?_
     refine from_seq (tl := [_, _, _]) (by decide) (by kernel_rfl) rfl ?_
     refine op_nil (ev_base hN229 rfl s229_44) (op_field fld58_1 (ev_hit hN229 rfl) ?_)
     have hbj18_old := hbj18
     refine op_store (vs := [v222]) (cs' := [vk, v222]) size30 (ev_hit hN229 rfl) (ev_base hN229 rfl s229_62) hO225.cl rfl (by simp only [List.all_cons, List.all_nil, Bool.true_and, Bool.and_true, hO225.one]; try rfl) hbj18 (Nat.le_of_ble_eq_true rfl) rfl ?_
     intro w232 hbj18 E233
     have z_w232 := E233.size
     have hO20 := hO20.keepX hbj18_old E233 (by decide)
     have hO225 := hO225.keepX hbj18_old E233 (by decide)
     have hb := hb.stepB E233 (.inl rfl)
     refine reg_nil ?_
     refine hK149 _ _ (seq_any fun K234 hK234 => one_reg (op_assign rfl (reg_nil (hK234 _ _ (wp_ret ?_)))))
     refine ret1 rfl hd229 (ev_hit hN229 rfl) ⟨_, rfl, ?_⟩
     exact ⟨hb, congrArg Value.bool c8.symm, _, _, hbj18, fun h => by rw [c8] at h; (cases h), fun _ => ⟨hO20, hO225.cast (by simp only [List.length_append, List.length_cons, List.length_nil]; omega) rfl⟩⟩
    refine one_mem ?_
    intro w235 E235 _ a235 hN235 hbs235 hdp235 o_ ho_; obtain rfl := Option.some.inj ho_
    have z_w235 := E235.size
    have ov := ov.keep0 E235
    have hO20 := hO20.keep0 E235
    have hbj18 := hbj18.keep0 E235
    have hb := hb.step0 E235
    have q235_53 : Sl a235 53 (Value.int .i64 x) := (hdp235 9 _ 53 (by kernel_rfl) rfl rfl).2 rfl
    refine op_bslice (e := 3) (pv := [(0, (Value.int .i64 x))]) (cs := [(Value.int .i64 x)]) ⟨rfl, (ev_base hN235 rfl q235_53), trivial⟩ (by kernel_rfl) ?_
    intro w236 b237 lo_b237 hi_b237 hB239 E238
    have z_w236 := E238.size
    have ov := ov.keep0 E238
    have hO20 := hO20.keep0 E238
    have hbj18 := hbj18.keep0 E238
    have hb := hb.step0 E238
    refine kt_end rfl hbj18 ?_
    refine kt_step (rs := [1]) (by kernel_rfl) ?_
    refine one_mem ?_
    intro w241 E241 _ a241 hN241 hbs241 hdp241 o_ ho_; obtain rfl := Option.some.inj ho_
    have z_w241 := E241.size
    have ov := ov.keep0 E241
    have hO20 := hO20.keep0 E241
    have hbj18 := hbj18.keep0 E241
    have hB239 := hB239.keep0 E241
    have hb := hb.step0 E241
    refine op_bslice (e := 3) (pv := []) (cs := []) trivial (by kernel_rfl) ?_
    intro w242 b243 lo_b243 hi_b243 hB245 E244
    have ne_b243_vv : vv.ownBlock ≠ some b243 := fun hh => by have := (ov.lt _ hh).2; omega
    have z_w242 := E244.size
    have ov := ov.keep0 E244
    have hO20 := hO20.keep0 E244
    have hbj18 := hbj18.keep0 E244
    have hB239 := hB239.keep0 E244
    have hb := hb.step0 E244
    refine kt_end rfl hbj18 ?_
    refine kt_step (rs := [8]) (by kernel_rfl) ?_
    refine one_mem ?_
    intro w247 E247 _ a247 hN247 hbs247 hdp247 o_ ho_; obtain rfl := Option.some.inj ho_
    have z_w247 := E247.size
    have ov := ov.keep0 E247
    have hO20 := hO20.keep0 E247
    have hbj18 := hbj18.keep0 E247
    have hB239 := hB239.keep0 E247
    have hB245 := hB245.keep0 E247
    have hb := hb.step0 E247
    have q247_45 : Sl a247 45 (Value.slice (some ⟨b243, 0, none⟩) 0 0) := (Option.some.inj ((hdp247 1 _ 45 (by kernel_rfl) rfl rfl).1 rfl)).symm
    have q247_51 : Sl a247 51 (hiV vv (pos ks k)) := (hdp247 7 _ 51 (by kernel_rfl) rfl rfl).2 rfl
    have hP253 := (Own.ofBx (base := w.heap.size) (sz := 1) (n := 0) hB245 rfl (by decide) (by omega))
    refine op_append slt30 (ev_base hN247 rfl q247_45) hP253 (ev_base hN247 rfl q247_51) (Src.ofRd Try.underlying30 (by decide) ((ov.hiCut (k := (pos ks k)) (by omega)).cast (n' := (vs.take (pos ks k)).length) (cs' := (vs.take (pos ks k)).map (Value.int .i64)) (by rw [List.length_take]; omega) (by rw [Nat.mul_one, List.map_take])).rdw (one_i64 _)) (by unfold maxLen; omega) (by omega) hb.size ?_
    intro v248 w249 hO251 E250 hm252
    have dj254 : DJ vv (Value.slice (some ⟨b243, 0, none⟩) 0 0) := fun k hk hg => by simp [Value.ownBlock] at hg; subst hg; exact ne_b243_vv hk
    have dj255 : DJ vv v248 := DJ.step hm252 (fun k hk => (ov.lt k hk).2) dj254
    have z_w249 := E250.size
    have ov := ov.keepD E250 dj254
    have hO20 := hO20.keepT hP253 E250 (by decide)
    have hbj18 := hbj18.keep E250 (by simp [Value.ownBlock]; try omega)
    have hB239 := hB239.keep E250 (by simp [Value.ownBlock]; try omega)
    have hb := hb.stepO hP253 E250 (by omega)
    have hO251 : Own w249 w.heap.size 3 1 v248 (0 + (vs.take (pos ks k)).length) (((vs.take (pos ks k))).map (Value.int .i64)) := by simpa [u8v, sv] using hO251
    refine kt_end rfl hbj18 ?_
    refine kt_step (rs := [11]) (by kernel_rfl) ?_
    refine one_mem ?_
    intro w257 E257 _ a257 hN257 hbs257 hdp257 o_ ho_; obtain rfl := Option.some.inj ho_
    have z_w257 := E257.size
    have ov := ov.keep0 E257
    have hO20 := hO20.keep0 E257
    have hbj18 := hbj18.keep0 E257
    have hB239 := hB239.keep0 E257
    have hO251 := hO251.keep0 E257
    have hb := hb.step0 E257
    have q257_52 : Sl a257 52 v248 := (Option.some.inj ((hdp257 8 _ 52 (by kernel_rfl) rfl rfl).1 rfl)).symm
    have q257_54 : Sl a257 54 (Value.slice (some ⟨b237, 0, none⟩) 1 1) := (Option.some.inj ((hdp257 10 _ 54 (by kernel_rfl) rfl rfl).1 rfl)).symm
    have hP263 := hO251
    refine op_append slt30 (ev_base hN257 rfl q257_52) hP263 (ev_base hN257 rfl q257_54) (Src.ofRd Try.underlying30 (by decide) (RdC.ofBx (sz := 1) (n := 1) hB239 rfl (by decide)) (by simp [Value.oneCell', u8v])) (by unfold maxLen; omega) (by omega) hb.size ?_
    intro v258 w259 hO261 E260 hm262
    have z_w259 := E260.size
    have ov := ov.keepD E260 dj255
    have hO20 := hO20.keepT hP263 E260 (by decide)
    have hbj18 := hbj18.keepO hP263 E260 (by decide)
    have hb := hb.stepO hP263 E260 (by omega)
    have hO261 : Own w259 w.heap.size 3 1 v258 ((0 + (vs.take (pos ks k)).length) + 1) ((((vs.take (pos ks k)) ++ [x])).map (Value.int .i64)) := by simpa [u8v, sv] using hO261
    refine kt_end rfl hbj18 ?_
    refine kt_step (rs := [18]) (by kernel_rfl) ?_
    refine one_mem ?_
    intro w266 E266 _ a266 hN266 hbs266 hdp266 o_ ho_; obtain rfl := Option.some.inj ho_
    have z_w266 := E266.size
    have ov := ov.keep0 E266
    have hO20 := hO20.keep0 E266
    have hbj18 := hbj18.keep0 E266
    have hO261 := hO261.keep0 E266
    have hb := hb.step0 E266
    have q266_55 : Sl a266 55 v258 := (Option.some.inj ((hdp266 11 _ 55 (by kernel_rfl) rfl rfl).1 rfl)).symm
    have q266_61 : Sl a266 61 (cutS 1 vv (pos ks k)) := (hdp266 17 _ 61 (by kernel_rfl) rfl rfl).2 rfl
    have hP272 := hO261
    refine op_append slt30 (ev_base hN266 rfl q266_55) hP272 (ev_base hN266 rfl q266_61) (Src.ofRd Try.underlying30 (by decide) ((ov.cutO (k := (pos ks k)) (by omega)).cast (n' := (vs.drop (pos ks k)).length) (cs' := (vs.drop (pos ks k)).map (Value.int .i64)) (by simp) (by rw [Nat.mul_one, List.map_drop])).rdw (one_i64 _)) (by unfold maxLen; omega) (by omega) hb.size ?_
    intro v267 w268 hO270 E269 hm271
    have z_w268 := E269.size
    have hO20 := hO20.keepT hP272 E269 (by decide)
    have hbj18 := hbj18.keepO hP272 E269 (by decide)
    have hb := hb.stepO hP272 E269 (by omega)
    have hO270 : Own w268 w.heap.size 3 1 v267 (((0 + (vs.take (pos ks k)).length) + 1) + (vs.drop (pos ks k)).length) (((((vs.take (pos ks k)) ++ [x]) ++ (vs.drop (pos ks k)))).map (Value.int .i64)) := by simpa [u8v, sv] using hO270
    refine kt_end rfl hbj18 ?_
    intro w274 E274 a274 hN274 hd274 hbs274 hph274
    have hd274 := hd274.trans ((by simp only [putsL_defers] : _ = _).trans hd19)
    have z_w274 := E274.size
    have hO20 := hO20.keep0 E274
    have hbj18 := hbj18.keep0 E274
    have hO270 := hO270.keep0 E274
    have hb := hb.step0 E274
    have s274_44 : Sl a274 44 (ptr p 0) := (hph274 0 _ 44 rfl rfl).2 rfl
    have s274_62 : Sl a274 62 v267 := (Option.some.inj ((hph274 18 _ 62 rfl rfl).1 rfl)).symm
    refine split_end ?_
    refine from_seq (tl := [_, _, _]) (by decide) (by kernel_rfl) rfl ?_
    refine op_nil (ev_base hN274 rfl s274_44) (op_field fld58_1 (ev_hit hN274 rfl) ?_)
    have hbj18_old := hbj18
    refine op_store (vs := [v267]) (cs' := [vk, v267]) size30 (ev_hit hN274 rfl) (ev_base hN274 rfl s274_62) hO270.cl rfl (by simp only [List.all_cons, List.all_nil, Bool.true_and, Bool.and_true, hO270.one]; try rfl) hbj18 (Nat.le_of_ble_eq_true rfl) rfl ?_
    intro w277 hbj18 E278
    have z_w277 := E278.size
    have hO20 := hO20.keepX hbj18_old E278 (by decide)
    have hO270 := hO270.keepX hbj18_old E278 (by decide)
    have hb := hb.stepB E278 (.inl rfl)
    refine reg_nil ?_
    refine hK149 _ _ (seq_any fun K279 hK279 => one_reg (op_assign rfl (reg_nil (hK279 _ _ (wp_ret ?_)))))
    refine ret1 rfl hd274 (ev_hit hN274 rfl) ⟨_, rfl, ?_⟩
    exact ⟨hb, congrArg Value.bool c8.symm, _, _, hbj18, fun h => by rw [c8] at h; (cases h), fun _ => ⟨hO20, hO270.cast (by simp only [List.length_append, List.length_cons, List.length_nil]; omega) rfl⟩⟩

end Go.Proofs.Ytcpfdfejojghbaa

namespace Go.Proofs.Ytcpfdfejojghbaa
open Go.Gx Go.RowKit
attribute [local irreducible] wpList wpStill Code.wp Calls
open Go.Bt
theorem pairsDrop0 {ks : List Ky} {vs : List Int} {kv vv : Value} {p B0 : Nat} {k : List UInt8} {w : World} (hp : Bx w p 58 [kv, vv]) (ok : Own w B0 9 1 kv ks.length (ks.map sv)) (ov : Own w B0 3 1 vv vs.length (vs.map (Value.int .i64))) (hs : Sorted ks) (hn : ks.length ≤ 10000) (hlen : vs.length = ks.length) (hkl : ∀ x ∈ ks, x.length ≤ 1000000000) (hkk : k.length ≤ 1000000000) (hB0 : B0 ≤ w.heap.size) : Ret Try.prog 29 #[(ptr p 0), (Value.string (bs k))] w (fun v' w' => Gr w w' (fun y => y = p ∨ Bl kv y ∨ Bl vv y) ∧ v' = .bool (ks.contains k) ∧ ∃ kv' vv', Bx w' p 58 [kv', vv'] ∧ (ks.contains k = false → kv' = kv ∧ vv' = vv ∧ Own w' B0 9 1 kv' ks.length (ks.map sv) ∧ Own w' B0 3 1 vv' vs.length (vs.map (Value.int .i64))) ∧ (ks.contains k = true → Own w' w.heap.size 9 1 kv' (ks.take (pos ks k) ++ ks.drop ((pos ks k) + 1)).length ((ks.take (pos ks k) ++ ks.drop ((pos ks k) + 1)).map sv) ∧ Own w' w.heap.size 3 1 vv' (vs.take (pos ks k) ++ vs.drop ((pos ks k) + 1)).length ((vs.take (pos ks k) ++ vs.drop ((pos ks k) + 1)).map (Value.int .i64)))) := by
 have hpl := pos_le ks k
 have hl_1 : (ks.take (pos ks k)).length = (pos ks k) := by rw [List.length_take]; omega
 have hl_2 : (ks.drop ((pos ks k) + 1)).length = ks.length - ((pos ks k) + 1) := List.length_drop
 have hl_3 : (vs.take (pos ks k)).length = (pos ks k) := by rw [List.length_take]; omega
 have hl_4 : (vs.drop ((pos ks k) + 1)).length = vs.length - ((pos ks k) + 1) := List.length_drop
 have hi_p := hp.lt
 obtain ⟨c1, hc11, hc12, hc13⟩ := ok.cap
 obtain ⟨c2, hc21, hc22, hc23⟩ := ov.cap
 have hb := Gr.refl w (fun y => y = p ∨ Bl kv y ∨ Bl vv y)
 refine enter (N := 53) Try.func29 rfl rfl (by simp) fun a0 hN hd hA => ?_
 have s0 : a0.tmps.getD 0 undef = (ptr p 0) := hA 0 (by simp)
 have s1 : a0.tmps.getD 1 undef = (Value.string (bs k)) := hA 1 (by simp)
 clear hA
 refine seq_any fun K7 hK7 => one_reg (op_assign rfl ?_)
 refine reg_nil (hK7 _ _ (seq_any fun K10 hK10 => one_reg (op_move (ev_base hN rfl s0) (op_move (ev_base hN rfl s1) (op_fn (vs := [(ptr p 0), (Value.string (bs k))]) ok31 ⟨(ev_hit hN rfl), ⟨(ev_hit hN rfl), trivial⟩⟩ (pairsAt hp ok ov hs hn hlen hkl hkk) ?_)))))
 rintro _ w32 ⟨E50, rfl⟩
 have E50 := grown_of_below E50
 have z_w32 := E50.size
 have hp := hp.keep0 E50
 have ok := ok.keep0 E50
 have ov := ov.keep0 E50
 have hb := hb.step0 E50
 refine op_move (ev_hit hN rfl) (op_extract (ev_hit hN rfl) rfl ?_)
 refine op_extract (ev_hit hN rfl) rfl ?_
 refine op_assign (ev_hit hN rfl) ?_
 rcases Bool.eq_false_or_eq_true ((ks.contains k)) with c6 | c6
 ·
  rw [c6]
  refine op_assign (ev_hit hN rfl) (reg_nil (hK10 _ _ (seq_any fun K51 hK51 => ?_)))
  refine seq_any fun K52 hK52 => one_reg (op_move (ev_hit hN rfl) (reg_nil (hK52 _ _ (wp_cond_true (ev_hit hN rfl) (seq_any fun K53 hK53 => ?_)))))
  have hpl2 := pos_lt9 hs c6
  refine reg_split (hd := [_, _, _, _, _, _, _, _, _, _, _, _, _, _, _, _, _]) (tl := _) 17 mixed (by kernel_rfl) rfl rfl ?_
  refine any_env (φ := phiV [(fun uz => uz = (ptr p 0)), (fun _ => True), (fun uz => uz = (ptr p 0)), (fun uz => uz = (ptr p 0)), (fun uz => uz = (ptr p 0)), (fun uz => uz = kv), (fun uz => uz = (Value.int .i64 (((pos ks k) : Nat) : Int))), (fun uz => uz = (hiV kv (pos ks k))), (fun _ => True), (fun uz => uz = (ptr p 0)), (fun uz => uz = (ptr p 0)), (fun uz => uz = (ptr p 0)), (fun uz => uz = kv), (fun uz => uz = (Value.int .i64 (((pos ks k) : Nat) : Int))), (fun uz => uz = (Value.int .i64 ((((pos ks k) + 1) : Nat) : Int))), (fun uz => uz = (cutS 1 kv ((pos ks k) + 1))), (fun _ => True)]) (G := fun w' => Bx w' p 58 [kv, vv]) [1, 8, 16] (by kernel_rfl) (by kernel_rfl) (by kernel_rfl) (by kernel_rfl) hN (fun w1 w2 E h => h.keep0 E) hp (ObEs.cons ?_ (ObEs.pass rfl (ObEs.cons ?_ (ObEs.cons ?_ (ObEs.cons ?_ (ObEs.cons ?_ (ObEs.cons ?_ (ObEs.cons ?_ (ObEs.pass rfl (ObEs.cons ?_ (ObEs.cons ?_ (ObEs.cons ?_ (ObEs.cons ?_ (ObEs.cons ?_ (ObEs.cons ?_ (ObEs.cons ?_ (ObEs.pass rfl (ObEs.nil)))))))))))))))))) (by simp only [putsL_defers]) ?_
  ·
   intro eA aA wA hNA hGA hbsA hdpA
   have qA_0 := (hbsA 0 rfl).trans (sl_base hN rfl s0)
   refine op_move (ev_base hNA rfl qA_0) ?_
   exact obE_end rfl rfl rfl
  ·
   intro eA aA wA hNA hGA hbsA hdpA
   have qA_0 := (hbsA 0 rfl).trans (sl_base hN rfl s0)
   refine op_move (ev_base hNA rfl qA_0) ?_
   exact obE_end rfl rfl rfl
  ·
   intro eA aA wA hNA hGA hbsA hdpA
   have qA_16 : Sl aA 16 (ptr p 0) := (hdpA 2 _ 16 (by kernel_rfl) rfl rfl).2 rfl
   refine op_nil (ev_base hNA rfl qA_16) ?_
   exact obE_end rfl rfl rfl
  ·
   intro eA aA wA hNA hGA hbsA hdpA
   have qA_17 : Sl aA 17 (ptr p 0) := (hdpA 3 _ 17 (by kernel_rfl) rfl rfl).2 rfl
   refine op_field fld58_0 (ev_base hNA rfl qA_17) ?_
   exact obE_end rfl rfl rfl
  ·
   intro eA aA wA hNA hGA hbsA hdpA
   have qA_18 : Sl aA 18 (ptr p 0) := (hdpA 4 _ 18 (by kernel_rfl) rfl rfl).2 rfl
   refine op_load1 (v := kv) one56 (ev_base hNA rfl qA_18) (hGA.cell rfl) ?_
   exact obE_end rfl rfl rfl
  ·
   intro eA aA wA hNA hGA hbsA hdpA
   have qA_5 := (hbsA 5 rfl).trans (sl_hit hN rfl)
   refine op_move (ev_base hNA rfl qA_5) ?_
   exact obE_end rfl rfl rfl
  ·
   intro eA aA wA hNA hGA hbsA hdpA
   have qA_19 : Sl aA 19 kv := (hdpA 5 _ 19 (by kernel_rfl) rfl rfl).2 rfl
   have qA_20 : Sl aA 20 (Value.int .i64 (((pos ks k) : Nat) : Int)) := (hdpA 6 _ 20 (by kernel_rfl) rfl rfl).2 rfl
   refine op_slice_hiC (m := (pos ks k)) slt56 (ev_base hNA rfl qA_19) hc13 (ev_base hNA rfl qA_20) (by omega) (by omega) ?_
   exact obE_end rfl rfl rfl
  ·
   intro eA aA wA hNA hGA hbsA hdpA
   have qA_0 := (hbsA 0 rfl).trans (sl_base hN rfl s0)
   refine op_move (ev_base hNA rfl qA_0) ?_
   exact obE_end rfl rfl rfl
  ·
   intro eA aA wA hNA hGA hbsA hdpA
   have qA_23 : Sl aA 23 (ptr p 0) := (hdpA 9 _ 23 (by kernel_rfl) rfl rfl).2 rfl
   refine op_nil (ev_base hNA rfl qA_23) ?_
   exact obE_end rfl rfl rfl
  ·
   intro eA aA wA hNA hGA hbsA hdpA
   have qA_24 : Sl aA 24 (ptr p 0) := (hdpA 10 _ 24 (by kernel_rfl) rfl rfl).2 rfl
   refine op_field fld58_0 (ev_base hNA rfl qA_24) ?_
   exact obE_end rfl rfl rfl
  ·
   intro eA aA wA hNA hGA hbsA hdpA
   have qA_25 : Sl aA 25 (ptr p 0) := (hdpA 11 _ 25 (by kernel_rfl) rfl rfl).2 rfl
   refine op_load1 (v := kv) one56 (ev_base hNA rfl qA_25) (hGA.cell rfl) ?_
   exact obE_end rfl rfl rfl
  ·
   intro eA aA wA hNA hGA hbsA hdpA
   have qA_5 := (hbsA 5 rfl).trans (sl_hit hN rfl)
   refine op_move (ev_base hNA rfl qA_5) ?_
   exact obE_end rfl rfl rfl
  ·
   intro eA aA wA hNA hGA hbsA hdpA
   have qA_27 : Sl aA 27 (Value.int .i64 (((pos ks k) : Nat) : Int)) := (hdpA 13 _ 27 (by kernel_rfl) rfl rfl).2 rfl
   refine op_add (r := ((((pos ks k) + 1) : Nat) : Int)) (ev_base hNA rfl qA_27) rfl ((add64 (by omega)).trans (by omega)) ?_
   exact obE_end rfl rfl rfl
  ·
   intro eA aA wA hNA hGA hbsA hdpA
   have qA_26 : Sl aA 26 kv := (hdpA 12 _ 26 (by kernel_rfl) rfl rfl).2 rfl
   have qA_28 : Sl aA 28 (Value.int .i64 ((((pos ks k) + 1) : Nat) : Int)) := (hdpA 14 _ 28 (by kernel_rfl) rfl rfl).2 rfl
   refine op_slice_cutS (k := ((pos ks k) + 1)) slt56 (ev_base hNA rfl qA_26) ok (ev_base hNA rfl qA_28) (by omega) (by omega) ?_
   exact obE_end rfl rfl rfl
  ·
   intro w54 E54 _ a54 hN54 hbs54 hdp54 o_ ho_; obtain rfl := Option.some.inj ho_
   have z_w54 := E54.size
   have hp := hp.keep0 E54
   have ok := ok.keep0 E54
   have ov := ov.keep0 E54
   have hb := hb.step0 E54
   refine op_bslice (e := 9) (pv := []) (cs := []) trivial (by kernel_rfl) ?_
   intro w55 b57 lo_b57 hi_b57 hB60 E59
   have ne_b57_kv : kv.ownBlock ≠ some b57 := fun hh => by have := (ok.lt _ hh).2; omega
   have z_w55 := E59.size
   have hp := hp.keep0 E59
   have ok := ok.keep0 E59
   have ov := ov.keep0 E59
   have hb := hb.step0 E59
   refine ke_end rfl (by decide) rfl hp ?_
   intro w61 E61 _ a61 hN61 hbs61 hdp61 o_ ho_; obtain rfl := Option.some.inj ho_
   have z_w61 := E61.size
   have hp := hp.keep0 E61
   have ok := ok.keep0 E61
   have ov := ov.keep0 E61
   have hB60 := hB60.keep0 E61
   have hb := hb.step0 E61
   have q61_15 : Sl a61 15 (Value.slice (some ⟨b57, 0, none⟩) 0 0) := (Option.some.inj ((hdp61 1 _ 15 (by kernel_rfl) rfl rfl).1 0 rfl)).symm
   have q61_21 : Sl a61 21 (hiV kv (pos ks k)) := (hdp61 7 _ 21 (by kernel_rfl) rfl rfl).2 rfl
   have hP68 := (Own.ofBx (base := w.heap.size) (sz := 1) (n := 0) hB60 rfl (by decide) (by omega))
   refine op_append slt56 (ev_base hN61 rfl q61_15) hP68 (ev_base hN61 rfl q61_21) (Src.ofRd Try.underlying56 (by decide) ((ok.hiCut (k := (pos ks k)) (by omega)).cast (n' := (ks.take (pos ks k)).length) (cs' := (ks.take (pos ks k)).map sv) (by rw [List.length_take]; omega) (by rw [Nat.mul_one, List.map_take])).rdw (one_sv _)) (by unfold maxLen; omega) (by omega) hb.size ?_
   intro v62 w63 hO66 E65 hm67
   have dj69 : DJ kv (Value.slice (some ⟨b57, 0, none⟩) 0 0) := fun k hk hg => by simp [Value.ownBlock] at hg; subst hg; exact ne_b57_kv hk
   have z_w63 := E65.size
   have hp := hp.keep E65 (by simp [Value.ownBlock]; try omega)
   have ok := ok.keepD E65 dj69
   have ov := ov.keepT hP68 E65 (by decide)
   have hb := hb.stepO hP68 E65 (by omega)
   have hO66 : Own w63 w.heap.size 9 1 v62 (0 + (ks.take (pos ks k)).length) (((ks.take (pos ks k))).map sv) := by simpa [u8v, sv] using hO66
   refine ke_end rfl (by decide) rfl hp ?_
   intro w70 E70 _ a70 hN70 hbs70 hdp70 o_ ho_; obtain rfl := Option.some.inj ho_
   have z_w70 := E70.size
   have hp := hp.keep0 E70
   have ok := ok.keep0 E70
   have ov := ov.keep0 E70
   have hO66 := hO66.keep0 E70
   have hb := hb.step0 E70
   have q70_22 : Sl a70 22 v62 := (Option.some.inj ((hdp70 8 _ 22 (by kernel_rfl) rfl rfl).1 1 rfl)).symm
   have q70_29 : Sl a70 29 (cutS 1 kv ((pos ks k) + 1)) := (hdp70 15 _ 29 (by kernel_rfl) rfl rfl).2 rfl
   have hP76 := hO66
   refine op_append slt56 (ev_base hN70 rfl q70_22) hP76 (ev_base hN70 rfl q70_29) (Src.ofRd Try.underlying56 (by decide) ((ok.cutO (k := ((pos ks k) + 1)) (by omega)).cast (n' := (ks.drop ((pos ks k) + 1)).length) (cs' := (ks.drop ((pos ks k) + 1)).map sv) (by simp) (by rw [Nat.mul_one, List.map_drop])).rdw (one_sv _)) (by unfold maxLen; omega) (by omega) hb.size ?_
   intro v71 w72 hO74 E73 hm75
   have z_w72 := E73.size
   have hp := hp.keepO hP76 E73 (by decide)
   have ov := ov.keepT hP76 E73 (by decide)
   have hb := hb.stepO hP76 E73 (by omega)
   have hO74 : Own w72 w.heap.size 9 1 v71 ((0 + (ks.take (pos ks k)).length) + (ks.drop ((pos ks k) + 1)).length) ((((ks.take (pos ks k)) ++ (ks.drop ((pos ks k) + 1)))).map sv) := by simpa [u8v, sv] using hO74
   refine ke_end rfl (by decide) rfl hp ?_
   intro w77 E77 a77 hN77 hd77 hbs77 hph77
   have hd77 := hd77.trans ((by simp only [putsL_defers] : _ = _).trans hd)
   have z_w77 := E77.size
   have hp := hp.keep0 E77
   have ov := ov.keep0 E77
   have hO74 := hO74.keep0 E77
   have hb := hb.step0 E77
   have s77_0 := (hbs77 0 rfl).trans (sl_base hN rfl s0)
   have s77_5 := (hbs77 5 rfl).trans (sl_hit hN rfl)
   have s77_6 := (hbs77 6 rfl).trans (sl_hit hN rfl)
   have s77_14 : Sl a77 14 (ptr p 0) := (hph77 0 _ 14 rfl rfl).2 rfl
   have s77_30 : Sl a77 30 v71 := (Option.some.inj ((hph77 16 _ 30 rfl rfl).1 2 rfl)).symm
   refine split_end ?_
   refine from_seq (tl := [_, _, _]) (by decide) (by kernel_rfl) rfl ?_
   refine op_nil (ev_base hN77 rfl s77_14) (op_field fld58_0 (ev_hit hN77 rfl) ?_)
   have hp_old := hp
   refine op_store (vs := [v71]) (cs' := [v71, vv]) size56 (ev_hit hN77 rfl) (ev_base hN77 rfl s77_30) hO74.cl rfl (by simp only [List.all_cons, List.all_nil, Bool.true_and, Bool.and_true, hO74.one]; try rfl) hp (Nat.le_of_ble_eq_true rfl) rfl ?_
   intro w78 hp E79
   have z_w78 := E79.size
   have ov := ov.keepX hp_old E79 (by decide)
   have hO74 := hO74.keepX hp_old E79 (by decide)
   have hb := hb.stepB E79 (.inl rfl)
   refine reg_nil (hK53 _ _ (reg_split (hd := [_, _, _, _, _, _, _, _, _, _, _, _, _, _, _, _, _]) (tl := _) 17 mixed (by kernel_rfl) rfl rfl ?_))
   refine any_env (φ := phiV [(fun uz => uz = (ptr p 0)), (fun _ => True), (fun uz => uz = (ptr p 0)), (fun uz => uz = (ptr p 0)), (fun uz => uz = (ptr p 1)), (fun uz => uz = vv), (fun uz => uz = (Value.int .i64 (((pos ks k) : Nat) : Int))), (fun uz => uz = (hiV vv (pos ks k))), (fun _ => True), (fun uz => uz = (ptr p 0)), (fun uz => uz = (ptr p 0)), (fun uz => uz = (ptr p 1)), (fun uz => uz = vv), (fun uz => uz = (Value.int .i64 (((pos ks k) : Nat) : Int))), (fun uz => uz = (Value.int .i64 ((((pos ks k) + 1) : Nat) : Int))), (fun uz => uz = (cutS 1 vv ((pos ks k) + 1))), (fun _ => True)]) (G := fun w' => Bx w' p 58 [v71, vv]) [1, 8, 16] (by kernel_rfl) (by kernel_rfl) (by kernel_rfl) (by kernel_rfl) hN77 (fun w1 w2 E h => h.keep0 E) hp (ObEs.cons ?_ (ObEs.pass rfl (ObEs.cons ?_ (ObEs.cons ?_ (ObEs.cons ?_ (ObEs.cons ?_ (ObEs.cons ?_ (ObEs.cons ?_ (ObEs.pass rfl (ObEs.cons ?_ (ObEs.cons ?_ (ObEs.cons ?_ (ObEs.cons ?_ (ObEs.cons ?_ (ObEs.cons ?_ (ObEs.cons ?_ (ObEs.pass rfl (ObEs.nil)))))))))))))))))) (by simp only [putsL_defers]) ?_
   ·
    intro eA aA wA hNA hGA hbsA hdpA
    have qA_0 := (hbsA 0 rfl).trans (sl_base hN77 rfl s77_0)
    refine op_move (ev_base hNA rfl qA_0) ?_
    exact obE_end rfl rfl rfl
   ·
    intro eA aA wA hNA hGA hbsA hdpA
    have qA_0 := (hbsA 0 rfl).trans (sl_base hN77 rfl s77_0)
    refine op_move (ev_base hNA rfl qA_0) ?_
    exact obE_end rfl rfl rfl
   ·
    intro eA aA wA hNA hGA hbsA hdpA
    have qA_35 : Sl aA 35 (ptr p 0) := (hdpA 2 _ 35 (by kernel_rfl) rfl rfl).2 rfl
    refine op_nil (ev_base hNA rfl qA_35) ?_
    exact obE_end rfl rfl rfl
   ·
    intro eA aA wA hNA hGA hbsA hdpA
    have qA_36 : Sl aA 36 (ptr p 0) := (hdpA 3 _ 36 (by kernel_rfl) rfl rfl).2 rfl
    refine op_field fld58_1 (ev_base hNA rfl qA_36) ?_
    exact obE_end rfl rfl rfl
   ·
    intro eA aA wA hNA hGA hbsA hdpA
    have qA_37 : Sl aA 37 (ptr p 1) := (hdpA 4 _ 37 (by kernel_rfl) rfl rfl).2 rfl
    refine op_load1 (v := vv) one30 (ev_base hNA rfl qA_37) (hGA.cell rfl) ?_
    exact obE_end rfl rfl rfl
   ·
    intro eA aA wA hNA hGA hbsA hdpA
    have qA_5 := (hbsA 5 rfl).trans (sl_base hN77 rfl s77_5)
    refine op_move (ev_base hNA rfl qA_5) ?_
    exact obE_end rfl rfl rfl
   ·
    intro eA aA wA hNA hGA hbsA hdpA
    have qA_38 : Sl aA 38 vv := (hdpA 5 _ 38 (by kernel_rfl) rfl rfl).2 rfl
    have qA_39 : Sl aA 39 (Value.int .i64 (((pos ks k) : Nat) : Int)) := (hdpA 6 _ 39 (by kernel_rfl) rfl rfl).2 rfl
    refine op_slice_hiC (m := (pos ks k)) slt30 (ev_base hNA rfl qA_38) hc23 (ev_base hNA rfl qA_39) (by omega) (by omega) ?_
    exact obE_end rfl rfl rfl
   ·
    intro eA aA wA hNA hGA hbsA hdpA
    have qA_0 := (hbsA 0 rfl).trans (sl_base hN77 rfl s77_0)
    refine op_move (ev_base hNA rfl qA_0) ?_
    exact obE_end rfl rfl rfl
   ·
    intro eA aA wA hNA hGA hbsA hdpA
    have qA_42 : Sl aA 42 (ptr p 0) := (hdpA 9 _ 42 (by kernel_rfl) rfl rfl).2 rfl
    refine op_nil (ev_base hNA rfl qA_42) ?_
    exact obE_end rfl rfl rfl
   ·
    intro eA aA wA hNA hGA hbsA hdpA
    have qA_43 : Sl aA 43 (ptr p 0) := (hdpA 10 _ 43 (by kernel_rfl) rfl rfl).2 rfl
    refine op_field fld58_1 (ev_base hNA rfl qA_43) ?_
    exact obE_end rfl rfl rfl
   ·
    intro eA aA wA hNA hGA hbsA hdpA
    have qA_44 : Sl aA 44 (ptr p 1) := (hdpA 11 _ 44 (by kernel_rfl) rfl rfl).2 rfl
    refine op_load1 (v := vv) one30 (ev_base hNA rfl qA_44) (hGA.cell rfl) ?_
    exact obE_end rfl rfl rfl
   ·
    intro eA aA wA hNA hGA hbsA hdpA
    have qA_5 := (hbsA 5 rfl).trans (sl_base hN77 rfl s77_5)
    refine op_move (ev_base hNA rfl qA_5) ?_
    exact obE_end rfl rfl rfl
   ·
    intro eA aA wA hNA hGA hbsA hdpA
    have qA_46 : Sl aA 46 (Value.int .i64 (((pos ks k) : Nat) : Int)) := (hdpA 13 _ 46 (by kernel_rfl) rfl rfl).2 rfl
    refine op_add (r := ((((pos ks k) + 1) : Nat) : Int)) (ev_base hNA rfl qA_46) rfl ((add64 (by omega)).trans (by omega)) ?_
    exact obE_end rfl rfl rfl
   ·
    intro eA aA wA hNA hGA hbsA hdpA
    have qA_45 : Sl aA 45 vv := (hdpA 12 _ 45 (by kernel_rfl) rfl rfl).2 rfl
    have qA_47 : Sl aA 47 (Value.int .i64 ((((pos ks k) + 1) : Nat) : Int)) := (hdpA 14 _ 47 (by kernel_rfl) rfl rfl).2 rfl
    refine op_slice_cutS (k := ((pos ks k) + 1)) slt30 (ev_base hNA rfl qA_45) ov (ev_base hNA rfl qA_47) (by omega) (by omega) ?_
    exact obE_end rfl rfl rfl
   ·
    intro w80 E80 _ a80 hN80 hbs80 hdp80 o_ ho_; obtain rfl := Option.some.inj ho_
    have z_w80 := E80.size
    have ov := ov.keep0 E80
    have hO74 := hO74.keep0 E80
    have hp := hp.keep0 E80
    have hb := hb.step0 E80
    refine op_bslice (e := 3) (pv := []) (cs := []) trivial (by kernel_rfl) ?_
    intro w81 b82 lo_b82 hi_b82 hB84 E83
    have ne_b82_vv : vv.ownBlock ≠ some b82 := fun hh => by have := (ov.lt _ hh).2; omega
    have z_w81 := E83.size
    have ov := ov.keep0 E83
    have hO74 := hO74.keep0 E83
    have hp := hp.keep0 E83
    have hb := hb.step0 E83
    refine ke_end rfl (by decide) rfl hp ?_
    intro w85 E85 _ a85 hN85 hbs85 hdp85 o_ ho_; obtain rfl := Option.some.inj ho_
    have z_w85 := E85.size
    have ov := ov.keep0 E85
    have hO74 := hO74.keep0 E85
    have hp := hp.keep0 E85
    have hB84 := hB84.keep0 E85
    have hb := hb.step0 E85
    have q85_34 : Sl a85 34 (Value.slice (some ⟨b82, 0, none⟩) 0 0) := (Option.some.inj ((hdp85 1 _ 34 (by kernel_rfl) rfl rfl).1 0 rfl)).symm
    have q85_40 : Sl a85 40 (hiV vv (pos ks k)) := (hdp85 7 _ 40 (by kernel_rfl) rfl rfl).2 rfl
    have hP91 := (Own.ofBx (base := w.heap.size) (sz := 1) (n := 0) hB84 rfl (by decide) (by omega))
    refine op_append slt30 (ev_base hN85 rfl q85_34) hP91 (ev_base hN85 rfl q85_40) (Src.ofRd Try.underlying30 (by decide) ((ov.hiCut (k := (pos ks k)) (by omega)).cast (n' := (vs.take (pos ks k)).length) (cs' := (vs.take (pos ks k)).map (Value.int .i64)) (by rw [List.length_take]; omega) (by rw [Nat.mul_one, List.map_take])).rdw (one_i64 _)) (by unfold maxLen; omega) (by omega) hb.size ?_
    intro v86 w87 hO89 E88 hm90
    have dj92 : DJ vv (Value.slice (some ⟨b82, 0, none⟩) 0 0) := fun k hk hg => by simp [Value.ownBlock] at hg; subst hg; exact ne_b82_vv hk
    have z_w87 := E88.size
    have ov := ov.keepD E88 dj92
    have hO74 := hO74.keepT hP91 E88 (by decide)
    have hp := hp.keep E88 (by simp [Value.ownBlock]; try omega)
    have hb := hb.stepO hP91 E88 (by omega)
    have hO89 : Own w87 w.heap.size 3 1 v86 (0 + (vs.take (pos ks k)).length) (((vs.take (pos ks k))).map (Value.int .i64)) := by simpa [u8v, sv] using hO89
    refine ke_end rfl (by decide) rfl hp ?_
    intro w93 E93 _ a93 hN93 hbs93 hdp93 o_ ho_; obtain rfl := Option.some.inj ho_
    have z_w93 := E93.size
    have ov := ov.keep0 E93
    have hO74 := hO74.keep0 E93
    have hp := hp.keep0 E93
    have hO89 := hO89.keep0 E93
    have hb := hb.step0 E93
    have q93_41 : Sl a93 41 v86 := (Option.some.inj ((hdp93 8 _ 41 (by kernel_rfl) rfl rfl).1 1 rfl)).symm
    have q93_48 : Sl a93 48 (cutS 1 vv ((pos ks k) + 1)) := (hdp93 15 _ 48 (by kernel_rfl) rfl rfl).2 rfl
    have hP99 := hO89
    refine op_append slt30 (ev_base hN93 rfl q93_41) hP99 (ev_base hN93 rfl q93_48) (Src.ofRd Try.underlying30 (by decide) ((ov.cutO (k := ((pos ks k) + 1)) (by omega)).cast (n' := (vs.drop ((pos ks k) + 1)).length) (cs' := (vs.drop ((pos ks k) + 1)).map (Value.int .i64)) (by simp) (by rw [Nat.mul_one, List.map_drop])).rdw (one_i64 _)) (by unfold maxLen; omega) (by omega) hb.size ?_
    intro v94 w95 hO97 E96 hm98
    have z_w95 := E96.size
    have hO74 := hO74.keepT hP99 E96 (by decide)
    have hp := hp.keepO hP99 E96 (by decide)
    have hb := hb.stepO hP99 E96 (by omega)
    have hO97 : Own w95 w.heap.size 3 1 v94 ((0 + (vs.take (pos ks k)).length) + (vs.drop ((pos ks k) + 1)).length) ((((vs.take (pos ks k)) ++ (vs.drop ((pos ks k) + 1)))).map (Value.int .i64)) := by simpa [u8v, sv] using hO97
    refine ke_end rfl (by decide) rfl hp ?_
    intro w100 E100 a100 hN100 hd100 hbs100 hph100
    have hd100 := hd100.trans ((by simp only [putsL_defers] : _ = _).trans hd77)
    have z_w100 := E100.size
    have hO74 := hO74.keep0 E100
    have hp := hp.keep0 E100
    have hO97 := hO97.keep0 E100
    have hb := hb.step0 E100
    have s100_6 := (hbs100 6 rfl).trans (sl_base hN77 rfl s77_6)
    have s100_33 : Sl a100 33 (ptr p 0) := (hph100 0 _ 33 rfl rfl).2 rfl
    have s100_49 : Sl a100 49 v94 := (Option.some.inj ((hph100 16 _ 49 rfl rfl).1 2 rfl)).symm
    refine split_end ?_
    refine from_seq (tl := [_, _, _]) (by decide) (by kernel_rfl) rfl ?_
    refine op_nil (ev_base hN100 rfl s100_33) (op_field fld58_1 (ev_hit hN100 rfl) ?_)
    have hp_old := hp
    refine op_store (vs := [v94]) (cs' := [v71, v94]) size30 (ev_hit hN100 rfl) (ev_base hN100 rfl s100_49) hO97.cl rfl (by simp only [List.all_cons, List.all_nil, Bool.true_and, Bool.and_true, hO97.one]; try rfl) hp (Nat.le_of_ble_eq_true rfl) rfl ?_
    intro w101 hp E102
    have z_w101 := E102.size
    have hO74 := hO74.keepX hp_old E102 (by decide)
    have hO97 := hO97.keepX hp_old E102 (by decide)
    have hb := hb.stepB E102 (.inl rfl)
    refine reg_nil (hK51 _ _ ?_)
    refine seq_any fun K103 hK103 => one_reg (op_move (ev_base hN100 rfl s100_6) (op_assign (ev_hit hN100 rfl) (reg_nil (hK103 _ _ (wp_ret ?_)))))
    refine ret1 rfl hd100 (ev_hit hN100 rfl) ⟨_, rfl, ?_⟩
    exact ⟨hb, congrArg Value.bool c6.symm, _, _, hp, fun h => by rw [c6] at h; (cases h), fun _ => ⟨hO74.cast (by simp only [List.length_append]; omega) rfl, hO97.cast (by simp only [List.length_append]; omega) rfl⟩⟩
 ·
  rw [c6]
  refine op_assign (ev_hit hN rfl) (reg_nil (hK10 _ _ (seq_any fun K104 hK104 => seq_any fun K105 hK105 => ?_)))
  refine one_reg (op_move (ev_hit hN rfl) (reg_nil (hK105 _ _ (wp_cond_false (ev_hit hN rfl) (wp_skip (hK104 _ _ ?_))))))
  refine seq_any fun K106 hK106 => one_reg (op_move (ev_hit hN rfl) (op_assign (ev_hit hN rfl) (reg_nil (hK106 _ _ (wp_ret ?_)))))
  refine ret1 rfl hd (ev_hit hN rfl) ⟨_, rfl, ?_⟩
  exact ⟨hb, congrArg Value.bool c6.symm, kv, vv, hp, fun _ => ⟨rfl, rfl, ok, ov⟩, fun h => by rw [c6] at h; cases h⟩

end Go.Proofs.Ytcpfdfejojghbaa

namespace Go.Proofs.Ytcpfdfejojghbaa
open Go.Gx Go.RowKit
attribute [local irreducible] wpList wpStill Code.wp Calls
open Go.Bt
theorem pairsPut {M : List (Ky × Int)} {k : List UInt8} {x : Int} {F : Nat → Prop} {p base : Nat} {w : World} (T : PairsR base w p M F) (hb : base ≤ w.heap.size) (hs : SortedL M) (hn : M.length ≤ 10000) (hkl : ∀ q ∈ M, q.1.length ≤ 1000000000) (hkk : k.length ≤ 1000000000) :
    Ret Try.prog 27 #[ptr p 0, .string (bs k), .int .i64 x] w (fun v' w' => Gr w w' F ∧ v' = .bool ((ks1 M).contains k) ∧ ∃ F', PairsR base w' p (putL k x M) F' ∧ NewF w.heap.size F F') := by
  obtain ⟨kv, vv, hB, h1, h2, hp, hF⟩ := T
  refine (pairsPut0 (x := x) (k := k) hB h1 h2 (show Sorted (ks1 M) from hs) (by simpa using hn) (by simp) (fun q hq => by obtain ⟨r, hr, rfl⟩ := List.mem_map.1 hq; exact hkl r hr) hkk hb).mono fun v' w' h => ?_
  obtain ⟨E, e, kv', vv', hB', hT, hFn⟩ := h
  refine ⟨E.mono fun j _ hj => (hF j).2 hj, e, fun j => j = p ∨ Bl kv' j ∨ Bl vv' j, ?_, ?_⟩
  · rcases Bool.eq_false_or_eq_true ((ks1 M).contains k) with c | c
    · obtain ⟨rfl, rfl, o1, o2⟩ := hT c
      obtain ⟨e1, e2⟩ := putL_old (v := x) hs c
      exact ⟨_, _, hB', by rw [e1]; exact o1, by rw [e2]; exact o2, hp, fun _ => Iff.rfl⟩
    · obtain ⟨o1, o2⟩ := hFn c
      obtain ⟨e1, e2⟩ := putL_new (v := x) hs c
      exact ⟨_, _, hB', by rw [e1]; exact o1.mono hb, by rw [e2]; exact o2.mono hb, hp, fun _ => Iff.rfl⟩
  · intro j hj
    rcases Bool.eq_false_or_eq_true ((ks1 M).contains k) with c | c
    · obtain ⟨rfl, rfl, _, _⟩ := hT c
      exact .inl ((hF j).2 hj)
    · obtain ⟨o1, o2⟩ := hFn c
      rcases hj with hj | hj | hj
      · exact .inl ((hF j).2 (.inl hj))
      · exact .inr (o1.lt j hj).1
      · exact .inr (o2.lt j hj).1
theorem pairsDrop {M : List (Ky × Int)} {k : List UInt8} {F : Nat → Prop} {p base : Nat} {w : World} (T : PairsR base w p M F) (hb : base ≤ w.heap.size) (hs : SortedL M) (hn : M.length ≤ 10000) (hkl : ∀ q ∈ M, q.1.length ≤ 1000000000) (hkk : k.length ≤ 1000000000) :
    Ret Try.prog 29 #[ptr p 0, .string (bs k)] w (fun v' w' => Gr w w' F ∧ v' = .bool ((ks1 M).contains k) ∧ ∃ F', PairsR base w' p (Go.Bt.dropL k M) F' ∧ NewF w.heap.size F F') := by
  obtain ⟨kv, vv, hB, h1, h2, hp, hF⟩ := T
  refine (pairsDrop0 (k := k) hB h1 h2 (show Sorted (ks1 M) from hs) (by simpa using hn) (by simp) (fun q hq => by obtain ⟨r, hr, rfl⟩ := List.mem_map.1 hq; exact hkl r hr) hkk hb).mono fun v' w' h => ?_
  obtain ⟨E, e, kv', vv', hB', hT, hFn⟩ := h
  refine ⟨E.mono fun j _ hj => (hF j).2 hj, e, fun j => j = p ∨ Bl kv' j ∨ Bl vv' j, ?_, ?_⟩
  · rcases Bool.eq_false_or_eq_true ((ks1 M).contains k) with c | c
    · obtain ⟨o1, o2⟩ := hFn c
      obtain ⟨e1, e2⟩ := dropL_old c hs
      exact ⟨_, _, hB', by rw [e1]; exact o1.mono hb, by rw [e2]; exact o2.mono hb, hp, fun _ => Iff.rfl⟩
    · obtain ⟨rfl, rfl, o1, o2⟩ := hT c
      rw [dropL_no c hs]
      exact ⟨_, _, hB', o1, o2, hp, fun _ => Iff.rfl⟩
  · intro j hj
    rcases Bool.eq_false_or_eq_true ((ks1 M).contains k) with c | c
    · obtain ⟨o1, o2⟩ := hFn c
      rcases hj with hj | hj | hj
      · exact .inl ((hF j).2 (.inl hj))
      · exact .inr (o1.lt j hj).1
      · exact .inr (o2.lt j hj).1
    · obtain ⟨rfl, rfl, _, _⟩ := hT c
      exact .inl ((hF j).2 hj)
theorem pairsAtR {M : List (Ky × Int)} {k : List UInt8} {F : Nat → Prop} {p base : Nat} {w : World} (T : PairsR base w p M F) (hs : SortedL M) (hn : M.length ≤ 10000) (hkl : ∀ q ∈ M, q.1.length ≤ 1000000000) (hkk : k.length ≤ 1000000000) :
    Ret Try.prog 31 #[ptr p 0, .string (bs k)] w (fun v' w' => Below w.heap.size w w' ∧ v' = .tuple #[.int .i64 ((pos (ks1 M) k : Nat) : Int), .bool ((ks1 M).contains k)]) := by
  obtain ⟨kv, vv, hB, h1, h2, hp, hF⟩ := T
  exact pairsAt (k := k) hB h1 h2 (show Sorted (ks1 M) from hs) (by simpa using hn) (by simp) (fun q hq => by obtain ⟨r, hr, rfl⟩ := List.mem_map.1 hq; exact hkl r hr) hkk
end Go.Proofs.Ytcpfdfejojghbaa

namespace Go.Proofs.Ytcpfdfejojghbaa
open Go.Gx Go.RowKit
attribute [local irreducible] wpList wpStill Code.wp Calls
open Go.Bt
theorem shapeLs {M : List (Ky × Int)} {F : Nat → Prop} {p base : Nat} {w : World} (hT : TopL kI 71 base w p M F) (hDM : M.length ≤ 100000) : Ret Try.prog 26 #[(ptr p 0)] w (fun v' w' => Below w.heap.size w w' ∧ v' = .bool true) := by
 have hb := Below.refl w.heap.size w
 refine enter (N := 91) Try.func26 rfl rfl (by simp) fun a0 hN hd hA => ?_
 have s0 : a0.tmps.getD 0 undef = (ptr p 0) := hA 0 (by simp)
 clear hA
 refine seq_any fun K7 hK7 => one_reg ?_
 refine op_assign rfl (reg_nil (hK7 _ _ (seq_any fun K11 hK11 => one_reg (op_move (ev_base hN rfl s0) (op_fn (vs := [(ptr p 0)]) ok33 ⟨(ev_hit hN rfl), trivial⟩ (levLsI hT hDM) ?_)))))
 rintro v12 w13 ⟨E14, LL12, LV12, hO12, hA12, hlev12, hLK12⟩
 have E14 := grown_of_below E14
 have z_w13 := E14.size
 have hT := hT.kz E14
 have hb := below_step0 hb E14 hb.size
 have hLn12 := lev_len hlev12
 have hz12 := hLK12.zero
 have hle12 := hLK12.le
 have hO12 := hO12.mono (base' := w.heap.size) (by omega)
 have hA12 : ∀ x9 ∈ LL12, Own w13 w.heap.size 3 1 x9.1 x9.2.length (x9.2.map (Value.int .i64)) := fun x9 h9 => (hA12 x9 h9).mono (by omega)
 refine op_assign (ev_hit hN rfl) ?_
 refine reg_nil (hK11 _ _ (seq_any fun K16 hK16 => seq_any fun K17 hK17 => one_reg (op_move (ev_base hN rfl s0) (op_fn (vs := [(ptr p 0)]) ok25 ⟨(ev_hit hN rfl), trivial⟩ (lenLsI hT hDM) ?_))))
 rintro _ w19 ⟨E20, rfl⟩
 have E20 := grown_of_below E20
 have z_w19 := E20.size
 have hT := hT.kz E20
 have hO12 := hO12.keep0 E20
 have hA12 := all9 hA12 fun _ h => h.keep0 E20
 have hb := below_step0 hb E20 hb.size
 refine op_eql (ev_hit hN rfl) rfl (fun c15 => ?_) (fun c15 => ?_)
 ·
  refine reg_nil (hK17 _ _ (wp_cond_true (ev_hit hN rfl) (seq_any fun K21 hK21 => one_reg (op_move (ev_hit hN rfl) (op_len_rd Try.underlying28 (ev_hit hN rfl) hO12.rdw ?_)))))
  refine op_eql (ev_hit hN rfl) rfl (fun c18 => ?_) (fun c18 => ?_)
  ·
   refine op_assign (ev_hit hN rfl) (reg_nil (hK21 _ _ (wp_ret (then_ret ( ?_)))))
   refine ret1 rfl hd (ev_hit hN rfl) ⟨_, rfl, ?_⟩
   exact ⟨hb, rfl⟩
  ·
   exfalso; omega
 ·
  refine reg_nil (hK17 _ _ (wp_cond_false (ev_hit hN rfl) ?_))
  refine wp_skip (hK16 _ _ (seq_any fun K23 hK23 => one_reg (op_assign rfl (reg_nil (hK23 _ _ ?_)))))
  refine seq_any fun K24 hK24 => seq_any fun K26 hK26 => one_reg (op_assign rfl (reg_nil (hK26 _ _ (wp_block ?_))))
  refine loop_m (fun mz_ az_ w' => ∃ (i : Nat), mz_ = LL12.length - i ∧ (az_.tmps.getD 0 undef = (ptr p 0)) ∧ (az_.tmps.getD 3 undef = v12) ∧ (az_.tmps.getD 5 undef = (Value.int .i64 ((i : Nat) : Int))) ∧ (az_.tmps.getD 4 undef = (Value.int .i64 (((wantL LV12 i) : Nat) : Int))) ∧ (i ≤ LL12.length) ∧ (Below w.heap.size w w') ∧ (w19.heap.size ≤ w'.heap.size) ∧ (TopL kI 71 base w' p M F) ∧ (Own w' w.heap.size 30 1 v12 LL12.length (LL12.flatMap (fun x9 => [x9.1]))) ∧ (∀ x9 ∈ LL12, Own w' w.heap.size 3 1 x9.1 x9.2.length (x9.2.map (Value.int .i64)))) _ hN hd ⟨0, rfl, (sl_base hN rfl s0), (sl_hit hN rfl), (sl_hit hN rfl), (sl_hit hN rfl), (Nat.zero_le _), hb, (Nat.le_refl _), hT, hO12, hA12⟩ ?_
  rintro _ a27 w27 hN27 hd27 ⟨i, rfl, s27_0, s27_3, s27_5, s27_4, hi, hb, zl_w27, hT, hO12, hA12⟩
  have z_w27 := hb.size
  refine seq_any fun K29 hK29 => seq_any fun K32 hK32 => one_reg (op_move (ev_base hN27 rfl s27_5) (op_move (ev_base hN27 rfl s27_3) (op_len_rd Try.underlying28 (ev_hit hN27 rfl) hO12.rdw ?_)))
  refine op_lss (ev_hit hN27 rfl) (ev_hit hN27 rfl) (fun c22 => ?_) (fun c22 => ?_)
  ·
   refine reg_nil (hK32 _ _ (wp_cond_true (ev_hit hN27 rfl) (wp_skip (hK29 _ _ (seq_any fun K34 hK34 => wp_block ?_)))))
   refine seq_any fun K35 hK35 => seq_any fun K36 hK36 => one_reg ?_
   have hat := lev_at hlev12 i
   have hw := (hLK12.at_ i (by omega)).1
   have hlen9 : (LL12.getD i default).2.length = (LV12.getD i []).length := by rw [hat, List.length_map]
   have hall := (hLK12.at_ i (by omega)).2
   have hwle : (LV12.getD i []).length ≤ 700000 := row_len hLK12 (by omega) (by omega)
   refine op_move (ev_base hN27 rfl s27_3) (op_move (ev_base hN27 rfl s27_5) (op_index_rd slt28 (ev_hit hN27 rfl) hO12.rdw (ev_hit hN27 rfl) (by omega) (by omega) ?_))
   intro b37 o39 h0b37 h1b37 hc40
   have hs41 : Own w27 w.heap.size 3 1 (LL12.getD i default).1 (LL12.getD i default).2.length ((LL12.getD i default).2.map (Value.int .i64)) := hA12 _ (getD_mem (by omega))
   refine op_load1 (v := (LL12.getD i default).1) one30 (ev_hit hN27 rfl) (by have := hc40 0 (LL12.getD i default).1 (by decide) (el_ll (i := i) (d := default) (by omega) (by omega)); simpa using this) (op_len_rd Try.underlying30 (ev_hit hN27 rfl) hs41.rdw ?_)
   refine op_move (ev_base hN27 rfl s27_4) (op_neq (ev_hit hN27 rfl) (ev_hit hN27 rfl) (fun c31 => ?_) (fun c31 => ?_))
   ·
    exfalso; omega
   ·
    refine reg_nil (hK36 _ _ ?_)
    refine wp_cond_false (ev_hit hN27 rfl) (wp_skip (hK35 _ _ (seq_any fun K42 hK42 => one_reg (op_assign rfl (reg_nil ?_)))))
    refine hK42 _ _ (seq_any fun K43 hK43 => one_reg (op_assign rfl (reg_nil (hK43 _ _ (wp_block ?_)))))
    refine loop_m (fun mz_ az_ w' => ∃ (k : Nat), mz_ = (LV12.getD i []).length - k ∧ (az_.tmps.getD 0 undef = (ptr p 0)) ∧ (az_.tmps.getD 3 undef = v12) ∧ (az_.tmps.getD 5 undef = (Value.int .i64 ((i : Nat) : Int))) ∧ (az_.tmps.getD 6 undef = (Value.int .i64 ((k : Nat) : Int))) ∧ (az_.tmps.getD 4 undef = (Value.int .i64 (((sumk (LV12.getD i []) k) : Nat) : Int))) ∧ (k ≤ (LV12.getD i []).length) ∧ (Below w.heap.size w w') ∧ (w27.heap.size ≤ w'.heap.size) ∧ (TopL kI 71 base w' p M F) ∧ (Own w' w.heap.size 30 1 v12 LL12.length (LL12.flatMap (fun x9 => [x9.1]))) ∧ (∀ x9 ∈ LL12, Own w' w.heap.size 3 1 x9.1 x9.2.length (x9.2.map (Value.int .i64)))) _ hN27 hd27 ⟨0, rfl, (sl_base hN27 rfl s27_0), (sl_base hN27 rfl s27_3), (sl_base hN27 rfl s27_5), (sl_hit hN27 rfl), (sl_hit hN27 rfl), (Nat.zero_le _), hb, (Nat.le_refl _), hT, hO12, hA12⟩ ?_
    rintro _ a44 w44 hN44 hd44 ⟨k, rfl, s44_0, s44_3, s44_5, s44_6, s44_4, hk, hb, zl_w44, hT, hO12, hA12⟩
    have z_w44 := hb.size
    refine seq_any fun K45 hK45 => seq_any fun K46 hK46 => one_reg (op_move (ev_base hN44 rfl s44_6) (op_move (ev_base hN44 rfl s44_3) (op_move (ev_base hN44 rfl s44_5) (op_index_rd slt28 (ev_hit hN44 rfl) hO12.rdw (ev_hit hN44 rfl) (by omega) (by omega) ?_))))
    intro b47 o48 h0b47 h1b47 hc50
    have hs51 : Own w44 w.heap.size 3 1 (LL12.getD i default).1 (LL12.getD i default).2.length ((LL12.getD i default).2.map (Value.int .i64)) := hA12 _ (getD_mem (by omega))
    refine op_load1 (v := (LL12.getD i default).1) one30 (ev_hit hN44 rfl) (by have := hc50 0 (LL12.getD i default).1 (by decide) (el_ll (i := i) (d := default) (by omega) (by omega)); simpa using this) (op_len_rd Try.underlying30 (ev_hit hN44 rfl) hs51.rdw ?_)
    refine op_lss (ev_hit hN44 rfl) (ev_hit hN44 rfl) (fun c38 => ?_) (fun c38 => ?_)
    ·
     refine reg_nil (hK46 _ _ (wp_cond_true (ev_hit hN44 rfl) (wp_skip (hK45 _ _ (seq_any fun K53 hK53 => wp_block ?_)))))
     refine seq_any fun K54 hK54 => one_reg ?_
     have hnk : (LL12.getD i default).2.getD k 0 = (((LV12.getD i []).getD k 0 : Nat) : Int) := by rw [hat]; exact ints_at
     have hm := hall _ (getD_mem9 (d := 0) (show k < (LV12.getD i []).length by omega))
     have hX := sumk_le (k := k) fun m h => (hall m h).2.1
     refine op_move (ev_base hN44 rfl s44_3) (op_move (ev_base hN44 rfl s44_5) (op_index_rd slt28 (ev_hit hN44 rfl) hO12.rdw (ev_hit hN44 rfl) (by omega) (by omega) ?_))
     intro b55 o57 h0b55 h1b55 hc58
     refine op_load1 (v := (LL12.getD i default).1) one30 (ev_hit hN44 rfl) (by have := hc58 0 (LL12.getD i default).1 (by decide) (el_ll (i := i) (d := default) (by omega) (by omega)); simpa using this) (op_move (ev_base hN44 rfl s44_6) (op_index_rd slt30 (ev_hit hN44 rfl) hs51.rdw (ev_hit hN44 rfl) (by omega) (by omega) ?_))
     intro b60 o61 h0b60 h1b60 hc62
     refine op_load1 (v := (Value.int .i64 ((LL12.getD i default).2.getD k 0))) one3 (ev_hit hN44 rfl) (by have := hc62 0 (Value.int .i64 ((LL12.getD i default).2.getD k 0)) (by decide) (el_i64 (i := k) (by omega) (by omega)); simpa using this) (op_assign (ev_hit hN44 rfl) (reg_nil (hK54 _ _ (seq_any fun K63 hK63 => seq_any fun K65 hK65 => ?_))))
     refine one_reg (op_move (ev_hit hN44 rfl) (op_gtr (ev_hit hN44 rfl) rfl (fun c49 => ?_) (fun c49 => ?_)))
     ·
      exfalso; omega
     ·
      refine op_move (ev_hit hN44 rfl) (g_true (j := 2) (dj := 50) (b := false) rfl rfl rfl (ev_hit hN44 rfl) (op_move (ev_hit hN44 rfl) (g_true (j := 2) (dj := 50) (b := false) rfl rfl rfl (ev_hit hN44 rfl) (op_lss (ev_hit hN44 rfl) rfl (fun c52 => ?_) (fun c52 => ?_)))))
      ·
       exfalso; omega
      ·
       refine op_pick_f (ev_hit hN44 rfl) (ev_hit hN44 rfl) ?_
       refine op_move (ev_hit hN44 rfl) (g_true (j := 6) (dj := 54) (b := false) rfl rfl rfl (ev_hit hN44 rfl) (op_move (ev_base hN44 rfl s44_5) (g_true (j := 6) (dj := 54) (b := false) rfl rfl rfl (ev_hit hN44 rfl) (op_gtr (ev_hit hN44 rfl) rfl (fun c56 => ?_) (fun c56 => ?_)))))
       ·
        refine g_true (j := 6) (dj := 54) (b := false) rfl rfl rfl (ev_hit hN44 rfl) (op_move (ev_hit hN44 rfl) (g_true (j := 9) (dj := 57) (b := true) rfl rfl rfl (ev_hit hN44 rfl) (op_move (ev_hit hN44 rfl) (g_true (j := 9) (dj := 57) (b := true) rfl rfl rfl (ev_hit hN44 rfl) (op_lss (ev_hit hN44 rfl) rfl (fun c59 => ?_) (fun c59 => ?_))))))
        ·
         exfalso; have := hm.2.2 (by omega); omega
        ·
         refine g_true (j := 6) (dj := 54) (b := false) rfl rfl rfl (ev_hit hN44 rfl) (op_pick_t (ev_hit hN44 rfl) (ev_hit hN44 rfl) ?_)
         refine op_pick_f (ev_hit hN44 rfl) (ev_hit hN44 rfl) ?_
         refine reg_nil (hK65 _ _ ?_)
         refine wp_cond_false (ev_hit hN44 rfl) (wp_skip (hK63 _ _ (one_reg (op_move (ev_base hN44 rfl s44_4) (op_move (ev_hit hN44 rfl) (op_add (r := (((sumk (LV12.getD i []) k) + (LV12.getD i []).getD k 0 : Nat) : Int)) (ev_hit hN44 rfl) (ev_hit hN44 rfl) (by rw [hnk]; exact (add64 (by omega)).trans (by omega)) ?_))))))
         refine op_add (r := (((sumk (LV12.getD i []) k) + (LV12.getD i []).getD k 0 + 1 : Nat) : Int)) (ev_hit hN44 rfl) rfl ((add64 (by omega)).trans (by omega)) ?_
         refine op_assign (ev_hit hN44 rfl) (reg_nil (hK53 _ _ (one_reg (op_move (ev_base hN44 rfl s44_6) (op_add (ev_hit hN44 rfl) rfl (add64 (by omega)) ?_)))))
         refine op_assign (ev_hit hN44 rfl) (reg_nil ?_)
         -- round 15F 22T 31F 38T 49F 52F 56T 59F
         exact loop_next _ hN44 hd44 ⟨(k + 1), rfl, (sl_base hN44 rfl s44_0), (sl_base hN44 rfl s44_3), (sl_base hN44 rfl s44_5), (sl_hit hN44 rfl).trans (congrArg (Value.int .i64) (by omega)), (sl_hit hN44 rfl).trans (congrArg (Value.int .i64) (by rw [sumk_suc (by omega)]; omega)), (by omega), hb, (by omega), hT, hO12, hA12⟩ (by omega)
       ·
        refine g_true (j := 6) (dj := 54) (b := false) rfl rfl rfl (ev_hit hN44 rfl) (op_move (ev_hit hN44 rfl) (g_false (j := 9) (dj := 57) (b := true) rfl rfl rfl (ev_hit hN44 rfl) rfl rfl (g_false (j := 9) (dj := 57) (b := true) rfl rfl rfl (ev_hit hN44 rfl) rfl rfl (g_true (j := 6) (dj := 54) (b := false) rfl rfl rfl (ev_hit hN44 rfl) (op_pick_f (ev_hit hN44 rfl) rfl ?_)))))
        refine op_pick_f (ev_hit hN44 rfl) (ev_hit hN44 rfl) ?_
        refine reg_nil (hK65 _ _ ?_)
        refine wp_cond_false (ev_hit hN44 rfl) (wp_skip (hK63 _ _ (one_reg (op_move (ev_base hN44 rfl s44_4) (op_move (ev_hit hN44 rfl) (op_add (r := (((sumk (LV12.getD i []) k) + (LV12.getD i []).getD k 0 : Nat) : Int)) (ev_hit hN44 rfl) (ev_hit hN44 rfl) (by rw [hnk]; exact (add64 (by omega)).trans (by omega)) ?_))))))
        refine op_add (r := (((sumk (LV12.getD i []) k) + (LV12.getD i []).getD k 0 + 1 : Nat) : Int)) (ev_hit hN44 rfl) rfl ((add64 (by omega)).trans (by omega)) ?_
        refine op_assign (ev_hit hN44 rfl) (reg_nil (hK53 _ _ (one_reg (op_move (ev_base hN44 rfl s44_6) (op_add (ev_hit hN44 rfl) rfl (add64 (by omega)) ?_)))))
        refine op_assign (ev_hit hN44 rfl) (reg_nil ?_)
        -- round 15F 22T 31F 38T 49F 52F 56F
        exact loop_next _ hN44 hd44 ⟨(k + 1), rfl, (sl_base hN44 rfl s44_0), (sl_base hN44 rfl s44_3), (sl_base hN44 rfl s44_5), (sl_hit hN44 rfl).trans (congrArg (Value.int .i64) (by omega)), (sl_hit hN44 rfl).trans (congrArg (Value.int .i64) (by rw [sumk_suc (by omega)]; omega)), (by omega), hb, (by omega), hT, hO12, hA12⟩ (by omega)
    ·
     refine reg_nil (hK46 _ _ (wp_cond_false (ev_hit hN44 rfl) (wp_exit (then_exit (then_exit (blk_hit ?_))))))
     refine hK34 _ _ (one_reg (op_move (ev_base hN44 rfl s44_5) (op_add (ev_hit hN44 rfl) rfl (add64 (by omega)) ?_)))
     refine op_assign (ev_hit hN44 rfl) (reg_nil ?_)
     -- round 15F 22T 31F 38F
     exact loop_next _ hN44 hd44 ⟨(i + 1), rfl, (sl_base hN44 rfl s44_0), (sl_base hN44 rfl s44_3), (sl_hit hN44 rfl).trans (congrArg (Value.int .i64) (by omega)), (sl_base hN44 rfl s44_4).trans (congrArg (Value.int .i64) (by rw [show k = (LV12.getD i []).length by omega, sumk_all]; rfl)), (by omega), hb, (by omega), hT, hO12, hA12⟩ (by omega)
  ·
   refine reg_nil (hK32 _ _ (wp_cond_false (ev_hit hN27 rfl) (wp_exit (then_exit (then_exit (blk_hit ?_))))))
   refine hK24 _ _ (seq_any fun K66 hK66 => one_reg (op_assign rfl ?_))
   refine reg_nil (hK66 _ _ (seq_any fun K67 hK67 => seq_any fun K69 hK69 => one_reg (op_move (ev_base hN27 rfl s27_3) (op_len_rd Try.underlying28 (ev_hit hN27 rfl) hO12.rdw ?_))))
   refine op_eql (ev_hit hN27 rfl) rfl (fun c68 => ?_) (fun c68 => ?_)
   ·
    exfalso; omega
   ·
    refine reg_nil (hK69 _ _ (wp_cond_false (ev_hit hN27 rfl) (wp_skip (hK67 _ _ (seq_any fun K70 hK70 => one_reg ?_)))))
    have hLat := lev_at hlev12 (LL12.length - 1)
    have hsum := hLK12.sum
    rw [← hLn12] at hsum
    have hLl : (LL12.getD (LL12.length - 1) default).2.length = (LV12.getD (LL12.length - 1) []).length := by rw [hLat]; simp
    have hrl := row_len hLK12 (i := LL12.length - 1) (by omega) (by omega)
    refine op_move (ev_base hN27 rfl s27_3) (op_move (ev_base hN27 rfl s27_3) (op_len_rd Try.underlying28 (ev_hit hN27 rfl) hO12.rdw ?_))
    refine op_sub (r := ((LL12.length - 1 : Nat) : Int)) (ev_hit hN27 rfl) rfl ((sub64 (by omega)).trans (by omega)) ?_
    refine op_index_rd slt28 (ev_hit hN27 rfl) hO12.rdw (ev_hit hN27 rfl) (by omega) (by omega) ?_
    intro b71 o72 h0b71 h1b71 hc73
    have hs74 : Own w27 w.heap.size 3 1 (LL12.getD (LL12.length - 1) default).1 (LL12.getD (LL12.length - 1) default).2.length ((LL12.getD (LL12.length - 1) default).2.map (Value.int .i64)) := hA12 _ (getD_mem (by omega))
    refine op_load1 (v := (LL12.getD (LL12.length - 1) default).1) one30 (ev_hit hN27 rfl) (by have := hc73 0 (LL12.getD (LL12.length - 1) default).1 (by decide) (el_ll (i := (LL12.length - 1)) (d := default) (by omega) (by omega)); simpa using this) (op_assign (ev_hit hN27 rfl) (reg_nil (hK70 _ _ ?_)))
    refine seq_any fun K75 hK75 => seq_any fun K76 hK76 => one_reg (op_assign rfl (reg_nil (hK76 _ _ (wp_block ?_))))
    refine loop_m (fun mz_ az_ w' => ∃ (i : Nat), mz_ = (LV12.getD (LL12.length - 1) []).length - i ∧ (az_.tmps.getD 0 undef = (ptr p 0)) ∧ (az_.tmps.getD 9 undef = (LL12.getD (LL12.length - 1) default).1) ∧ (az_.tmps.getD 10 undef = (Value.int .i64 ((i : Nat) : Int))) ∧ (az_.tmps.getD 8 undef = (Value.int .i64 (((((LV12.getD (LL12.length - 1) []).take i).sum) : Nat) : Int))) ∧ (i ≤ (LV12.getD (LL12.length - 1) []).length) ∧ (Below w.heap.size w w') ∧ (w27.heap.size ≤ w'.heap.size) ∧ (TopL kI 71 base w' p M F) ∧ (Own w' w.heap.size 30 1 v12 LL12.length (LL12.flatMap (fun x9 => [x9.1]))) ∧ (∀ x9 ∈ LL12, Own w' w.heap.size 3 1 x9.1 x9.2.length (x9.2.map (Value.int .i64))) ∧ (Own w' w.heap.size 3 1 (LL12.getD (LL12.length - 1) default).1 (LL12.getD (LL12.length - 1) default).2.length ((LL12.getD (LL12.length - 1) default).2.map (Value.int .i64)))) _ hN27 hd27 ⟨0, rfl, (sl_base hN27 rfl s27_0), (sl_hit hN27 rfl), (sl_hit hN27 rfl), (sl_hit hN27 rfl), (Nat.zero_le _), hb, (Nat.le_refl _), hT, hO12, hA12, hs74⟩ ?_
    rintro _ a77 w77 hN77 hd77 ⟨i, rfl, s77_0, s77_9, s77_10, s77_8, hi, hb, zl_w77, hT, hO12, hA12, hs74⟩
    have z_w77 := hb.size
    refine seq_any fun K79 hK79 => seq_any fun K80 hK80 => one_reg (op_move (ev_base hN77 rfl s77_10) (op_move (ev_base hN77 rfl s77_9) (op_len_rd Try.underlying30 (ev_hit hN77 rfl) hs74.rdw ?_)))
    refine op_lss (ev_hit hN77 rfl) (ev_hit hN77 rfl) (fun c78 => ?_) (fun c78 => ?_)
    ·
     refine reg_nil (hK80 _ _ (wp_cond_true (ev_hit hN77 rfl) (wp_skip (hK79 _ _ (seq_any fun K81 hK81 => wp_block ?_)))))
     refine one_reg (op_move (ev_base hN77 rfl s77_8) (op_move (ev_base hN77 rfl s77_9) (op_move (ev_base hN77 rfl s77_10) (op_index_rd slt30 (ev_hit hN77 rfl) hs74.rdw (ev_hit hN77 rfl) (by omega) (by omega) ?_))))
     intro b82 o83 h0b82 h1b82 hc84
     refine op_load1 (v := (Value.int .i64 ((LL12.getD (LL12.length - 1) default).2.getD i 0))) one3 (ev_hit hN77 rfl) (by have := hc84 0 (Value.int .i64 ((LL12.getD (LL12.length - 1) default).2.getD i 0)) (by decide) (el_i64 (i := i) (by omega) (by omega)); simpa using this) (op_add (r := ((((LV12.getD (LL12.length - 1) []).take i).sum + (LV12.getD (LL12.length - 1) []).getD i 0 : Nat) : Int)) (ev_hit hN77 rfl) (ev_hit hN77 rfl) (by rw [hLat, ints_at]; have q1 := sum_take9 (L := (LV12.getD (LL12.length - 1) [])) (i := i) (by omega); have q2 := sum_le9 (L := (LV12.getD (LL12.length - 1) [])) (i := i + 1); exact (add64 (by omega)).trans (by omega)) ?_)
     refine op_assign (ev_hit hN77 rfl) (reg_nil (hK81 _ _ (one_reg (op_move (ev_base hN77 rfl s77_10) (op_add (ev_hit hN77 rfl) rfl (add64 (by omega)) ?_)))))
     refine op_assign (ev_hit hN77 rfl) (reg_nil ?_)
     -- round 15F 22F 68F 78T
     exact loop_next _ hN77 hd77 ⟨(i + 1), rfl, (sl_base hN77 rfl s77_0), (sl_base hN77 rfl s77_9), (sl_hit hN77 rfl).trans (congrArg (Value.int .i64) (by omega)), (sl_hit hN77 rfl).trans (congrArg (Value.int .i64) (by rw [sum_take9 (by omega)])), (by omega), hb, (by omega), hT, hO12, hA12, hs74⟩ (by omega)
    ·
     refine reg_nil (hK80 _ _ (wp_cond_false (ev_hit hN77 rfl) (wp_exit (then_exit (then_exit (blk_hit ?_))))))
     refine hK75 _ _ (seq_any fun K85 hK85 => one_reg (op_move (ev_base hN77 rfl s77_8) (op_move (ev_base hN77 rfl s77_0) (op_fn (vs := [(ptr p 0)]) ok25 ⟨(ev_hit hN77 rfl), trivial⟩ (lenLsI hT hDM) ?_))))
     rintro _ w86 ⟨E87, rfl⟩
     have E87 := grown_of_below E87
     have z_w86 := E87.size
     have hb := below_step0 hb E87 hb.size
     refine op_eql (ev_hit hN77 rfl) (ev_hit hN77 rfl) (fun c90 => ?_) (fun c90 => ?_)
     ·
      refine op_assign (ev_hit hN77 rfl) (reg_nil (hK85 _ _ (wp_ret ?_)))
      refine ret1 rfl hd77 (ev_hit hN77 rfl) ⟨_, rfl, ?_⟩
      exact ⟨hb, rfl⟩
     ·
      exfalso; rw [← hsum, show i = (LV12.getD (LL12.length - 1) []).length by omega, List.take_of_length_le (Nat.le_refl _)] at c90; omega

end Go.Proofs.Ytcpfdfejojghbaa

namespace Go.Proofs.Ytcpfdfejojghbaa
open Go.Gx Go.RowKit
attribute [local irreducible] wpList wpStill Code.wp Calls
open Go.Bt
theorem pairsScan0 {M : List (Ky × Int)} {F : Nat → Prop} {kv vv xv : Value} {p q base B0 : Nat} {x : List UInt8} {m : Int} {w : World} (hT : TopL kI 71 base w q M F) (hp : Bx w p 58 [kv, vv]) (ok : Own w B0 9 1 kv (M.map Prod.fst).length ((M.map Prod.fst).map sv)) (ov : Own w B0 3 1 vv (M.map Prod.snd).length ((M.map Prod.snd).map (Value.int .i64))) (hs : SortedL M) (hDM : M.length ≤ 10000) (hkl : ∀ r ∈ M, r.1.length ≤ 1000000000) (hxr : RdC w 0 w.heap.size 1 xv x.length (x.map u8v)) (hxl : x.length ≤ 1000000000) (hm : m ≤ 9223372036854775807) : Ret Try.prog 32 #[(ptr p 0), (ptr q 0), xv, (Value.int .i64 m)] w (fun v' w' => Below w.heap.size w w' ∧ v' = .bool true) := by
 have hMl : (M.map Prod.fst).length = M.length := List.length_map ..
 have hMl2 : (M.map Prod.snd).length = M.length := List.length_map ..
 have hpl : (pos (M.map Prod.fst) x) ≤ M.length := by have := pos_le (M.map Prod.fst) x; simpa using this
 have hb := Below.refl w.heap.size w
 refine enter (N := 98) Try.func32 rfl rfl (by simp) fun a0 hN hd hA => ?_
 have s0 : a0.tmps.getD 0 undef = (ptr p 0) := hA 0 (by simp)
 have s1 : a0.tmps.getD 1 undef = (ptr q 0) := hA 1 (by simp)
 have s2 : a0.tmps.getD 2 undef = xv := hA 2 (by simp)
 have s3 : a0.tmps.getD 3 undef = (Value.int .i64 m) := hA 3 (by simp)
 clear hA
 refine seq_any fun K4 hK4 => one_reg (op_assign rfl (reg_nil ?_))
 refine hK4 _ _ (seq_any fun K6 hK6 => one_reg (op_move (ev_base hN rfl s1) (op_move (ev_base hN rfl s2) (op_move (ev_base hN rfl s3) (op_fn (vs := [(ptr q 0), xv, (Value.int .i64 m)]) ok24 ⟨(ev_hit hN rfl), ⟨(ev_hit hN rfl), ⟨(ev_hit hN rfl), trivial⟩⟩⟩ (scanLsI (m := m) (x := x) hT hkl (hxr.mono (Nat.zero_le _) (by omega)) (by omega) (by omega)) ?_)))))
 rintro v7 w11 ⟨E15, D7, hO7, hks7, hE7, hpw7⟩
 have E15 := grown_of_below E15
 have z_w11 := E15.size
 have hp := hp.keep0 E15
 have ok := ok.keep0 E15
 have ov := ov.keep0 E15
 have hxr := hxr.keep0 E15
 have hb := below_step0 hb E15 hb.size
 have hO7 := hO7.mono (base' := w.heap.size) (by omega)
 have hks7 : ∀ x9 ∈ (D7.map pk), Own w11 w.heap.size 5 1 x9.1 x9.2.length (x9.2.map u8v) := fun x9 h9 => (hks7 x9 h9).mono (by omega)
 refine op_assign (ev_hit hN rfl) (reg_nil (hK6 _ _ (seq_any fun K16 hK16 => one_reg ?_)))
 obtain ⟨hE2, hDl⟩ := scan_len hs hE7
 have hE2 : D7.map Prod.snd = (M.drop (pos (M.map Prod.fst) x)).take m.toNat := hE2
 have hDl : D7.length = min m.toNat (M.length - (pos (M.map Prod.fst) x)) := hDl
 refine op_move (ev_base hN rfl s0) (op_move (ev_base hN rfl s2) (op_str_of (bl := x) Try.underlying27 Try.underlying5 Try.underlying9 (ev_hit hN rfl) hxr ?_))
 refine op_fn (vs := [(ptr p 0), (Value.string (bs x))]) ok31 ⟨(ev_hit hN rfl), ⟨(ev_hit hN rfl), trivial⟩⟩ (pairsAt (k := x) hp ok ov (show Sorted (ks1 M) from hs) (by omega) (by omega) (fun q hq => by obtain ⟨r, hr, rfl⟩ := List.mem_map.1 hq; exact hkl r hr) hxl) ?_
 rintro _ w17 ⟨E18, rfl⟩
 have E18 := grown_of_below E18
 have z_w17 := E18.size
 have hp := hp.keep0 E18
 have ok := ok.keep0 E18
 have ov := ov.keep0 E18
 have hO7 := hO7.keep0 E18
 have hks7 := all9 hks7 fun _ h => h.keep0 E18
 have hb := below_step0 hb E18 hb.size
 refine op_move (ev_hit hN rfl) (op_extract (ev_hit hN rfl) rfl ?_)
 refine op_extract (ev_hit hN rfl) rfl ?_
 refine op_assign (ev_hit hN rfl) (op_assign (ev_hit hN rfl) (reg_nil (hK16 _ _ (seq_any fun K19 hK19 => one_reg ?_))))
 skip
 refine op_move (ev_base hN rfl s3) (op_max (r := ((m.toNat : Nat) : Int)) (ev_hit hN rfl) rfl (by split <;> omega) ?_)
 refine op_move (ev_base hN rfl s0) (op_nil (ev_hit hN rfl) (op_field fld58_0 (ev_hit hN rfl) (op_load1 (v := kv) one56 (ev_hit hN rfl) (hp.cell rfl) (op_len_rd Try.underlying56 (ev_hit hN rfl) ok.rdw ?_))))
 refine op_move (ev_hit hN rfl) (op_sub (r := ((M.length - (pos (M.map Prod.fst) x) : Nat) : Int)) (ev_hit hN rfl) (ev_hit hN rfl) ((sub64 (by omega)).trans (by omega)) ?_)
 refine op_min (r := ((D7.length : Nat) : Int)) (ev_hit hN rfl) (ev_hit hN rfl) (by rw [hDl]; split <;> omega) ?_
 refine op_assign (ev_hit hN rfl) ?_
 refine reg_nil (hK19 _ _ (seq_any fun K20 hK20 => seq_any fun K21 hK21 => one_reg (op_move (ev_hit hN rfl) (op_len_rd Try.underlying48 (ev_hit hN rfl) hO7.rdw ?_))))
 refine op_move (ev_hit hN rfl) (op_neq (ev_hit hN rfl) (ev_hit hN rfl) (fun c39 => ?_) (fun c39 => ?_))
 ·
  exfalso; omega
 ·
  refine reg_nil (hK21 _ _ (wp_cond_false (ev_hit hN rfl) (wp_skip (hK20 _ _ ?_))))
  refine seq_any fun K22 hK22 => seq_any fun K23 hK23 => one_reg (op_assign rfl (reg_nil (hK23 _ _ (wp_block ?_))))
  refine loop_m (fun mz_ az_ w' => ∃ (k : Nat), mz_ = D7.length - k ∧ (az_.tmps.getD 0 undef = (ptr p 0)) ∧ (az_.tmps.getD 9 undef = v7) ∧ (az_.tmps.getD 10 undef = (Value.int .i64 (((pos (M.map Prod.fst) x) : Nat) : Int))) ∧ (az_.tmps.getD 12 undef = (Value.int .i64 ((D7.length : Nat) : Int))) ∧ (az_.tmps.getD 13 undef = (Value.int .i64 ((k : Nat) : Int))) ∧ (k ≤ D7.length) ∧ (Below w.heap.size w w') ∧ (w17.heap.size ≤ w'.heap.size) ∧ (Bx w' p 58 [kv, vv]) ∧ (Own w' B0 9 1 kv (M.map Prod.fst).length ((M.map Prod.fst).map sv)) ∧ (Own w' B0 3 1 vv (M.map Prod.snd).length ((M.map Prod.snd).map (Value.int .i64))) ∧ (Own w' w.heap.size 51 2 v7 D7.length (D7.flatMap cI)) ∧ (∀ x9 ∈ ((D7.drop k).map pk), Own w' w.heap.size 5 1 x9.1 x9.2.length (x9.2.map u8v))) _ hN hd ⟨0, rfl, (sl_base hN rfl s0), (sl_hit hN rfl), (sl_hit hN rfl), (sl_hit hN rfl), (sl_hit hN rfl), (Nat.zero_le _), hb, (Nat.le_refl _), hp, ok, ov, hO7, (by simpa using hks7)⟩ ?_
  rintro _ a25 w25 hN25 hd25 ⟨k, rfl, s25_0, s25_9, s25_10, s25_12, s25_13, hk, hb, zl_w25, hp, ok, ov, hO7, hkk⟩
  have z_w25 := hb.size
  refine seq_any fun K26 hK26 => seq_any fun K28 hK28 => ?_
  refine one_reg (op_move (ev_base hN25 rfl s25_13) (op_move (ev_base hN25 rfl s25_12) (op_lss (ev_hit hN25 rfl) (ev_hit hN25 rfl) (fun c42 => ?_) (fun c42 => ?_))))
  ·
   refine reg_nil (hK28 _ _ (wp_cond_true (ev_hit hN25 rfl) (wp_skip (hK26 _ _ (seq_any fun K29 hK29 => wp_block ?_)))))
   refine seq_any fun K32 hK32 => seq_any fun K33 hK33 => ?_
   have hkey : Own w25 w.heap.size 5 1 (D7.getD k default).1 (D7.getD k default).2.1.length ((D7.getD k default).2.1.map u8v) := hkk _ (drop_mem (by omega))
   have hkk2 : ∀ x9 ∈ ((D7.drop (k + 1)).map pk), Own w25 w.heap.size 5 1 x9.1 x9.2.length (x9.2.map u8v) := fun x9 h9 => hkk x9 (drop_more h9)
   have djk := pw_drop (k := k) hpw7 (by omega)
   obtain ⟨hat, hil⟩ := scan_at (k := k) hE2 (by omega)
   have heq : (D7.getD k default).2.1 = (M.map Prod.fst).getD ((pos (M.map Prod.fst) x) + k) [] := by rw [getD_map9 (d := default) hil, hat]
   have hev : (D7.getD k default).2.2 = (M.map Prod.snd).getD ((pos (M.map Prod.fst) x) + k) 0 := by rw [getD_map9 (d := default) hil, hat]
   have hkl9 : (D7.getD k default).2.1.length ≤ 1000000000 := by rw [hat]; exact hkl _ (getD_mem9 hil)
   refine reg_split (hd := [_, _, _, _, _, _, _, _, _, _, _, _, _, _, _]) (tl := _) 15 mixed (by kernel_rfl) rfl rfl ?_
   refine any_quiet (Φ := phiL [(fun uz _ => uz = v7), (fun uz _ => uz = (Value.int .i64 ((k : Nat) : Int))), (fun uz w' => ∃ (b34 : (Nat)) (o35 : (Nat)), uz = (ptr b34 o35) ∧ PtC w' b34 (b34 + 1) b34 o35 [(D7.getD k default).1, (Value.int .i64 (D7.getD k default).2.2)]), (fun uz w' => ∃ (y34 : (Nat)) (y35 : (Nat)), uz = (ptr y34 (y35 + 0)) ∧ PtC w' y34 (y34 + 1) y34 y35 [(D7.getD k default).1, (Value.int .i64 (D7.getD k default).2.2)]), (fun uz _ => uz = (D7.getD k default).1), (fun uz _ => uz = (Value.string (bs (D7.getD k default).2.1))), (fun uz _ => uz = (ptr p 0)), (fun uz _ => uz = (ptr p 0)), (fun uz _ => uz = (ptr p 0)), (fun uz _ => uz = kv), (fun uz _ => uz = (Value.int .i64 (((pos (M.map Prod.fst) x) : Nat) : Int))), (fun uz _ => uz = (Value.int .i64 ((k : Nat) : Int))), (fun uz _ => uz = (Value.int .i64 (((pos (M.map Prod.fst) x) + k : Nat) : Int))), (fun uz w' => ∃ (b38 : (Nat)) (o40 : (Nat)), uz = (ptr b38 o40) ∧ PtC w' b38 (b38 + 1) b38 o40 [(Value.string (bs ((M.map Prod.fst).getD ((pos (M.map Prod.fst) x) + k) [])))]), (fun uz _ => uz = (Value.string (bs ((M.map Prod.fst).getD ((pos (M.map Prod.fst) x) + k) []))))]) (by kernel_rfl) (by kernel_rfl) (by kernel_rfl) hN25 (StL.get (StL.eq (StL.eq (StL.cons (fun u w1 w2 E h => by obtain ⟨x0, x1, hv, f0⟩ := h; exact ⟨x0, x1, hv, f0.keep0 E⟩) (StL.cons (fun u w1 w2 E h => by obtain ⟨x0, x1, hv, f0⟩ := h; exact ⟨x0, x1, hv, f0.keep0 E⟩) (StL.eq (StL.eq (StL.eq (StL.eq (StL.eq (StL.eq (StL.eq (StL.eq (StL.eq (StL.cons (fun u w1 w2 E h => by obtain ⟨x0, x1, hv, f0⟩ := h; exact ⟨x0, x1, hv, f0.keep0 E⟩) (StL.eq (StL.nil _))))))))))))))))) (ObL.get (s := 15) (ObL.cons ?_ (ObL.cons ?_ (ObL.cons ?_ (ObL.cons ?_ (ObL.cons ?_ (ObL.cons ?_ (ObL.cons ?_ (ObL.cons ?_ (ObL.cons ?_ (ObL.cons ?_ (ObL.cons ?_ (ObL.cons ?_ (ObL.cons ?_ (ObL.cons ?_ (ObL.cons ?_ (ObL.nil)))))))))))))))) rfl) ?_
   ·
    intro aA wA hNA hRA hbsA hdpA
    have qA_9 := (hbsA 9 rfl).trans (sl_base hN25 rfl s25_9)
    refine op_move (ev_base hNA rfl qA_9) ?_
    exact obN_end rfl rfl (grown_refl _ _)
   ·
    intro aA wA hNA hRA hbsA hdpA
    have qA_13 := (hbsA 13 rfl).trans (sl_base hN25 rfl s25_13)
    refine op_move (ev_base hNA rfl qA_13) ?_
    exact obN_end rfl rfl (grown_refl _ _)
   ·
    intro aA wA hNA hRA hbsA hdpA
    have hRA : w25.grownBy wA none := hRA
    have z_wA := hRA.size
    have hO7 := hO7.keep0 hRA
    have qA_45 : Sl aA 45 v7 := hdpA 0 _ 45 (by kernel_rfl) rfl rfl
    have qA_46 : Sl aA 46 (Value.int .i64 ((k : Nat) : Int)) := hdpA 1 _ 46 (by kernel_rfl) rfl rfl
    clear hbsA hdpA
    refine op_index_rd slt48 (ev_base hNA rfl qA_45) hO7.rdw (ev_base hNA rfl qA_46) (by omega) (by omega) ?_
    intro b37 o38 h0b37 h1b37 hc40
    have hp41 : PtC wA b37 (b37 + 1) b37 o38 [(D7.getD k default).1, (Value.int .i64 (D7.getD k default).2.2)] := ⟨by omega, by omega, fun j u hu => hc40 j u (by have := (List.getElem?_eq_some_iff.1 hu).1; simpa using this) ((el_pI (i := k) (by omega) (by first | omega | (simp only [List.length_drop, List.length_take]; omega))) j u hu)⟩
    exact obN_end rfl ⟨b37, o38, rfl, hp41⟩ (grown_refl _ _)
   ·
    intro aA wA hNA hRA hbsA hdpA
    obtain ⟨b34, o35, qA_47, hp37⟩ := hdpA 2 _ 47 (by kernel_rfl) rfl rfl
    have hp37 : PtC wA b34 (b34 + 1) b34 o35 [(D7.getD k default).1, (Value.int .i64 (D7.getD k default).2.2)] := hp37
    refine op_field fld51_0 (ev_base hNA rfl qA_47) ?_
    exact obN_end rfl ⟨b34, o35, rfl, hp37⟩ (grown_refl _ _)
   ·
    intro aA wA hNA hRA hbsA hdpA
    have hRA : w25.grownBy wA none := hRA
    have z_wA := hRA.size
    obtain ⟨y34, y35, qA_48, hy36⟩ := hdpA 3 _ 48 (by kernel_rfl) rfl rfl
    have hy36 : PtC wA y34 (y34 + 1) y34 y35 [(D7.getD k default).1, (Value.int .i64 (D7.getD k default).2.2)] := hy36
    clear hbsA hdpA
    refine op_load1 (v := (D7.getD k default).1) one27 (ev_base hNA rfl qA_48) (hy36.2.2 0 _ rfl) ?_
    exact obN_end rfl rfl (grown_refl _ _)
   ·
    intro aA wA hNA hRA hbsA hdpA
    have hRA : w25.grownBy wA none := hRA
    have z_wA := hRA.size
    have hkey := hkey.keep0 hRA
    have qA_49 : Sl aA 49 (D7.getD k default).1 := hdpA 4 _ 49 (by kernel_rfl) rfl rfl
    clear hbsA hdpA
    refine op_str_of (bl := (D7.getD k default).2.1) Try.underlying27 Try.underlying5 Try.underlying9 (ev_base hNA rfl qA_49) hkey.rdw ?_
    exact obN_end rfl rfl (grown_refl _ _)
   ·
    intro aA wA hNA hRA hbsA hdpA
    have qA_0 := (hbsA 0 rfl).trans (sl_base hN25 rfl s25_0)
    refine op_move (ev_base hNA rfl qA_0) ?_
    exact obN_end rfl rfl (grown_refl _ _)
   ·
    intro aA wA hNA hRA hbsA hdpA
    have qA_51 : Sl aA 51 (ptr p 0) := hdpA 6 _ 51 (by kernel_rfl) rfl rfl
    refine op_nil (ev_base hNA rfl qA_51) ?_
    exact obN_end rfl rfl (grown_refl _ _)
   ·
    intro aA wA hNA hRA hbsA hdpA
    have qA_52 : Sl aA 52 (ptr p 0) := hdpA 7 _ 52 (by kernel_rfl) rfl rfl
    refine op_field fld58_0 (ev_base hNA rfl qA_52) ?_
    exact obN_end rfl rfl (grown_refl _ _)
   ·
    intro aA wA hNA hRA hbsA hdpA
    have hRA : w25.grownBy wA none := hRA
    have z_wA := hRA.size
    have hp := hp.keep0 hRA
    have qA_53 : Sl aA 53 (ptr p 0) := hdpA 8 _ 53 (by kernel_rfl) rfl rfl
    clear hbsA hdpA
    refine op_load1 (v := kv) one56 (ev_base hNA rfl qA_53) (hp.cell rfl) ?_
    exact obN_end rfl rfl (grown_refl _ _)
   ·
    intro aA wA hNA hRA hbsA hdpA
    have qA_10 := (hbsA 10 rfl).trans (sl_base hN25 rfl s25_10)
    refine op_move (ev_base hNA rfl qA_10) ?_
    exact obN_end rfl rfl (grown_refl _ _)
   ·
    intro aA wA hNA hRA hbsA hdpA
    have qA_13 := (hbsA 13 rfl).trans (sl_base hN25 rfl s25_13)
    refine op_move (ev_base hNA rfl qA_13) ?_
    exact obN_end rfl rfl (grown_refl _ _)
   ·
    intro aA wA hNA hRA hbsA hdpA
    have qA_55 : Sl aA 55 (Value.int .i64 (((pos (M.map Prod.fst) x) : Nat) : Int)) := hdpA 10 _ 55 (by kernel_rfl) rfl rfl
    have qA_56 : Sl aA 56 (Value.int .i64 ((k : Nat) : Int)) := hdpA 11 _ 56 (by kernel_rfl) rfl rfl
    refine op_add (r := (((pos (M.map Prod.fst) x) + k : Nat) : Int)) (ev_base hNA rfl qA_55) (ev_base hNA rfl qA_56) ((add64 (by omega)).trans (by omega)) ?_
    exact obN_end rfl rfl (grown_refl _ _)
   ·
    intro aA wA hNA hRA hbsA hdpA
    have hRA : w25.grownBy wA none := hRA
    have z_wA := hRA.size
    have ok := ok.keep0 hRA
    have qA_54 : Sl aA 54 kv := hdpA 9 _ 54 (by kernel_rfl) rfl rfl
    have qA_57 : Sl aA 57 (Value.int .i64 (((pos (M.map Prod.fst) x) + k : Nat) : Int)) := hdpA 12 _ 57 (by kernel_rfl) rfl rfl
    clear hbsA hdpA
    refine op_index_rd slt56 (ev_base hNA rfl qA_54) ok.rdw (ev_base hNA rfl qA_57) (by omega) (by omega) ?_
    intro b43 o44 h0b43 h1b43 hc61
    have hp62 : PtC wA b43 (b43 + 1) b43 o44 [(Value.string (bs ((M.map Prod.fst).getD ((pos (M.map Prod.fst) x) + k) [])))] := ⟨by omega, by omega, fun j u hu => hc61 j u (by have := (List.getElem?_eq_some_iff.1 hu).1; simpa using this) ((fun j u hu => one_at (el_sv (i := ((pos (M.map Prod.fst) x) + k)) (by omega) (by omega)) hu) j u hu)⟩
    exact obN_end rfl ⟨b43, o44, rfl, hp62⟩ (grown_refl _ _)
   ·
    intro aA wA hNA hRA hbsA hdpA
    have hRA : w25.grownBy wA none := hRA
    have z_wA := hRA.size
    obtain ⟨b38, o40, qA_58, hp43⟩ := hdpA 13 _ 58 (by kernel_rfl) rfl rfl
    have hp43 : PtC wA b38 (b38 + 1) b38 o40 [(Value.string (bs ((M.map Prod.fst).getD ((pos (M.map Prod.fst) x) + k) [])))] := hp43
    clear hbsA hdpA
    refine op_load1 (v := (Value.string (bs ((M.map Prod.fst).getD ((pos (M.map Prod.fst) x) + k) [])))) one9 (ev_base hNA rfl qA_58) (hp43.2.2 0 _ rfl) ?_
    exact obN_end rfl rfl (grown_refl _ _)
   ·
    intro a63 w63 hN63 hd63 hbs63 hph63 E63
    have hd63 := hd63.trans hd25
    have s63_0 := (hbs63 0 rfl).trans (sl_base hN25 rfl s25_0)
    have s63_9 := (hbs63 9 rfl).trans (sl_base hN25 rfl s25_9)
    have s63_10 := (hbs63 10 rfl).trans (sl_base hN25 rfl s25_10)
    have s63_12 := (hbs63 12 rfl).trans (sl_base hN25 rfl s25_12)
    have s63_13 := (hbs63 13 rfl).trans (sl_base hN25 rfl s25_13)
    have s63_50 : Sl a63 50 (Value.string (bs (D7.getD k default).2.1)) := hph63 5 _ 50 rfl rfl
    have s63_59 : Sl a63 59 (Value.string (bs ((M.map Prod.fst).getD ((pos (M.map Prod.fst) x) + k) []))) := hph63 14 _ 59 rfl rfl
    clear hbs63 hph63
    have E63 : w25.grownBy w63 none := E63
    have z_w63 := E63.size
    have hp := hp.keep0 E63
    have ok := ok.keep0 E63
    have ov := ov.keep0 E63
    have hO7 := hO7.keep0 E63
    have hkey := hkey.keep0 E63
    have hkk2 := all9 hkk2 fun _ h => h.keep0 E63
    have hb := below_step0 hb E63 hb.size
    refine split_end ?_
    refine from_still (m := 33) 18 (hd := [_, _, _, _, _, _, _, _, _, _, _, _, _, _, _, _, _, _]) (by kernel_rfl) rfl rfl ?_
    by_cases g60 : (D7.getD k default).2.1 ≠ ((M.map Prod.fst).getD ((pos (M.map Prod.fst) x) + k) [])
    ·
     exact absurd heq g60
    ·
     refine st_step rfl (fun _ h9 => op_sneqb (b := false) (ev_base hN63 rfl s63_50) (ev_base hN63 rfl s63_59) (decide_eq_false g60) h9) ?_
     refine st_step rfl (fun _ h9 => op_move (ev_hit hN63 rfl) h9) ?_
     refine st_g_true (j := 16) (dj := 61) (b := false) rfl rfl rfl (ev_hit hN63 rfl) ?_
     refine st_step rfl (fun _ h9 => op_move (ev_base hN63 rfl s63_9) h9) ?_
     refine st_g_true (j := 16) (dj := 61) (b := false) rfl rfl rfl (ev_hit hN63 rfl) ?_
     refine st_step rfl (fun _ h9 => op_move (ev_base hN63 rfl s63_13) h9) ?_
     refine st_g_true (j := 16) (dj := 61) (b := false) rfl rfl rfl (ev_hit hN63 rfl) ?_
     refine st_index_rd slt48 (ev_hit hN63 rfl) hO7.rdw (ev_hit hN63 rfl) (by omega) (by omega) ?_
     intro b65 o66 h0b65 h1b65 hc67
     refine st_g_true (j := 16) (dj := 61) (b := false) rfl rfl rfl (ev_hit hN63 rfl) ?_
     refine st_step rfl (fun _ h9 => op_field fld51_1 (ev_hit hN63 rfl) h9) ?_
     refine st_g_true (j := 16) (dj := 61) (b := false) rfl rfl rfl (ev_hit hN63 rfl) ?_
     refine st_step rfl (fun _ h9 => op_load1 (v := (Value.int .i64 (D7.getD k default).2.2)) one3 (ev_hit hN63 rfl) (hc67 1 ((Value.int .i64 (D7.getD k default).2.2)) (by decide) ((el_pI (i := k) (by omega) (by first | omega | (simp only [List.length_drop, List.length_take]; omega))) 1 ((Value.int .i64 (D7.getD k default).2.2)) rfl)) h9) ?_
     refine st_g_true (j := 16) (dj := 61) (b := false) rfl rfl rfl (ev_hit hN63 rfl) ?_
     refine st_step rfl (fun _ h9 => op_move (ev_base hN63 rfl s63_0) h9) ?_
     refine st_g_true (j := 16) (dj := 61) (b := false) rfl rfl rfl (ev_hit hN63 rfl) ?_
     refine st_step rfl (fun _ h9 => op_nil (ev_hit hN63 rfl) h9) ?_
     refine st_g_true (j := 16) (dj := 61) (b := false) rfl rfl rfl (ev_hit hN63 rfl) ?_
     refine st_step rfl (fun _ h9 => op_field fld58_1 (ev_hit hN63 rfl) h9) ?_
     refine st_g_true (j := 16) (dj := 61) (b := false) rfl rfl rfl (ev_hit hN63 rfl) ?_
     refine st_step rfl (fun _ h9 => op_load1 (v := vv) one30 (ev_hit hN63 rfl) (hp.cell rfl) h9) ?_
     refine st_g_true (j := 16) (dj := 61) (b := false) rfl rfl rfl (ev_hit hN63 rfl) ?_
     refine st_step rfl (fun _ h9 => op_move (ev_base hN63 rfl s63_10) h9) ?_
     refine st_g_true (j := 16) (dj := 61) (b := false) rfl rfl rfl (ev_hit hN63 rfl) ?_
     refine st_step rfl (fun _ h9 => op_move (ev_base hN63 rfl s63_13) h9) ?_
     refine st_g_true (j := 16) (dj := 61) (b := false) rfl rfl rfl (ev_hit hN63 rfl) ?_
     refine st_step rfl (fun _ h9 => op_add (r := (((pos (M.map Prod.fst) x) + k : Nat) : Int)) (ev_hit hN63 rfl) (ev_hit hN63 rfl) ((add64 (by omega)).trans (by omega)) h9) ?_
     refine st_g_true (j := 16) (dj := 61) (b := false) rfl rfl rfl (ev_hit hN63 rfl) ?_
     refine st_index_rd slt30 (ev_hit hN63 rfl) ov.rdw (ev_hit hN63 rfl) (by omega) (by omega) ?_
     intro b68 o69 h0b68 h1b68 hc70
     refine st_g_true (j := 16) (dj := 61) (b := false) rfl rfl rfl (ev_hit hN63 rfl) ?_
     refine st_step rfl (fun _ h9 => op_load1 (v := (Value.int .i64 ((M.map Prod.snd).getD ((pos (M.map Prod.fst) x) + k) 0))) one3 (ev_hit hN63 rfl) (by have := hc70 0 (Value.int .i64 ((M.map Prod.snd).getD ((pos (M.map Prod.fst) x) + k) 0)) (by decide) (el_i64 (i := ((pos (M.map Prod.fst) x) + k)) (by omega) (by omega)); simpa using this) h9) ?_
     refine st_g_true (j := 16) (dj := 61) (b := false) rfl rfl rfl (ev_hit hN63 rfl) ?_
     refine st_step rfl (fun _ h9 => op_cmp (b := (decide ((D7.getD k default).2.2 ≠ ((M.map Prod.snd).getD ((pos (M.map Prod.fst) x) + k) 0)))) (ev_hit hN63 rfl) (ev_hit hN63 rfl) (b_neq rfl) h9) ?_
     refine st_step rfl (fun _ h9 => op_pick_f (ev_hit hN63 rfl) (ev_hit hN63 rfl) h9) ?_
     refine st_nil ?_
     refine from_end ?_ rfl
     refine hK33 _ _ (wp_cond_split (ev_hit hN63 rfl) (fun c77 => ?_) (fun c77 => ?_))
     ·
      have c77 := of_decide_eq_true c77
      exact absurd hev c77
     ·
      have c77 := of_decide_eq_false c77
      refine wp_skip ?_
      refine hK32 _ _ (seq_any fun K71 hK71 => one_reg (op_assign rfl (reg_nil (hK71 _ _ (wp_block ?_)))))
      refine loop_m (fun mz_ az_ w' => ∃ (n9 : Nat) (L9 : List UInt8), mz_ = L9.length - n9 ∧ (az_.tmps.getD 0 undef = (ptr p 0)) ∧ (az_.tmps.getD 9 undef = v7) ∧ (az_.tmps.getD 10 undef = (Value.int .i64 (((pos (M.map Prod.fst) x) : Nat) : Int))) ∧ (az_.tmps.getD 12 undef = (Value.int .i64 ((D7.length : Nat) : Int))) ∧ (az_.tmps.getD 13 undef = (Value.int .i64 ((k : Nat) : Int))) ∧ (az_.tmps.getD 14 undef = (Value.int .i64 ((n9 : Nat) : Int))) ∧ (n9 ≤ L9.length) ∧ (L9.length = (D7.getD k default).2.1.length) ∧ (Below w.heap.size w w') ∧ (w63.heap.size ≤ w'.heap.size) ∧ (Bx w' p 58 [kv, vv]) ∧ (Own w' B0 9 1 kv (M.map Prod.fst).length ((M.map Prod.fst).map sv)) ∧ (Own w' B0 3 1 vv (M.map Prod.snd).length ((M.map Prod.snd).map (Value.int .i64))) ∧ (Own w' w.heap.size 51 2 v7 D7.length (D7.flatMap cI)) ∧ (∀ x9 ∈ ((D7.drop (k + 1)).map pk), Own w' w.heap.size 5 1 x9.1 x9.2.length (x9.2.map u8v)) ∧ (Own w' w.heap.size 5 1 (D7.getD k default).1 L9.length (L9.map u8v))) _ hN63 hd63 ⟨0, (D7.getD k default).2.1, rfl, (sl_base hN63 rfl s63_0), (sl_base hN63 rfl s63_9), (sl_base hN63 rfl s63_10), (sl_base hN63 rfl s63_12), (sl_base hN63 rfl s63_13), (sl_hit hN63 rfl), (Nat.zero_le _), rfl, hb, (Nat.le_refl _), hp, ok, ov, hO7, hkk2, hkey⟩ ?_
      rintro _ a72 w72 hN72 hd72 ⟨n9, L9, rfl, s72_0, s72_9, s72_10, s72_12, s72_13, s72_14, hn9, hL9, hb, zl_w72, hp, ok, ov, hO7, hkk2, hO73⟩
      have z_w72 := hb.size
      refine seq_any fun K74 hK74 => seq_any fun K75 hK75 => one_reg (op_move (ev_base hN72 rfl s72_14) (op_move (ev_base hN72 rfl s72_9) (op_move (ev_base hN72 rfl s72_13) (op_index_rd slt48 (ev_hit hN72 rfl) hO7.rdw (ev_hit hN72 rfl) (by omega) (by omega) ?_))))
      intro b76 o78 h0b76 h1b76 hc79
      refine op_field fld51_0 (ev_hit hN72 rfl) (op_load1 (v := (D7.getD k default).1) one27 (ev_hit hN72 rfl) (hc79 0 ((D7.getD k default).1) (by decide) ((el_pI (i := k) (by omega) (by first | omega | (simp only [List.length_drop, List.length_take]; omega))) 0 ((D7.getD k default).1) rfl)) (op_len_rd Try.underlying27 (ev_hit hN72 rfl) hO73.rdw ?_))
      refine op_lss (ev_hit hN72 rfl) (ev_hit hN72 rfl) (fun c85 => ?_) (fun c85 => ?_)
      ·
       refine reg_nil (hK75 _ _ (wp_cond_true (ev_hit hN72 rfl) (wp_skip (hK74 _ _ (seq_any fun K80 hK80 => wp_block ?_)))))
       refine one_reg (op_move (ev_base hN72 rfl s72_9) (op_move (ev_base hN72 rfl s72_13) (op_index_rd slt48 (ev_hit hN72 rfl) hO7.rdw (ev_hit hN72 rfl) (by omega) (by omega) ?_)))
       intro b81 o82 h0b81 h1b81 hc83
       refine op_field fld51_0 (ev_hit hN72 rfl) (op_load1 (v := (D7.getD k default).1) one27 (ev_hit hN72 rfl) (hc83 0 ((D7.getD k default).1) (by decide) ((el_pI (i := k) (by omega) (by first | omega | (simp only [List.length_drop, List.length_take]; omega))) 0 ((D7.getD k default).1) rfl)) (op_move (ev_base hN72 rfl s72_14) (op_index_rd slt27 (ev_hit hN72 rfl) hO73.rdw (ev_hit hN72 rfl) (by omega) (by omega) ?_)))
       intro b84 o86 h0b84 h1b84 hc87
       refine op_load1 (v := (Value.int .u8 ((L9.getD n9 0).toNat : Int))) one5 (ev_hit hN72 rfl) (by have := hc87 0 (Value.int .u8 ((L9.getD n9 0).toNat : Int)) (by decide) (el_u8 (i := n9) (by omega) (by omega)); simpa using this) (op_xor (r := ((L9.getD n9 0 ^^^ 1).toNat : Int)) (ev_hit hN72 rfl) rfl (xor1 _) ?_)
       refine op_index_own (i := n9) slt27 (ev_hit hN72 rfl) hO73 (ev_hit hN72 rfl) (by omega) (by omega) ?_
       intro b88 o89 lo_b88 hA90
       have hA90 : AtV (D7.getD k default).1 (n9) b88 o89 := by simpa using hA90
       have hP93 := hO73
       refine op_store_own (vs := [(Value.int .u8 ((L9.getD n9 0 ^^^ 1).toNat : Int))]) size5 (ev_hit hN72 rfl) (ev_hit hN72 rfl) rfl rfl rfl hP93 hA90 (by rw [hP93.1]; simp only [List.length_cons, List.length_nil]; omega) ?_
       intro w91 hO94 E92
       have z_w91 := E92.size
       have hp := hp.keepO hP93 E92 (by decide)
       have ok := ok.keepT hP93 E92 (by decide)
       have ov := ov.keepT hP93 E92 (by decide)
       have hO7 := hO7.keepT hP93 E92 (by decide)
       have hkk2 : ∀ x9 ∈ ((D7.drop (k + 1)).map pk), Own w91 w.heap.size 5 1 x9.1 x9.2.length (x9.2.map u8v) := fun x9 hx9 => (hkk2 x9 hx9).keepD E92 (djk x9 hx9)
       have hb := below_stepO hb hP93 E92 hb.size (by omega)
       have hO94 : Own w91 w.heap.size 5 1 (D7.getD k default).1 L9.length (((L9.set n9 (L9.getD n9 0 ^^^ 1))).map u8v) := by exact hO94.cast rfl (set_ints9 (f := u8v) (by omega))
       refine reg_nil (hK80 _ _ (one_reg (op_move (ev_base hN72 rfl s72_14) (op_add (ev_hit hN72 rfl) rfl (add64 (by omega)) ?_))))
       refine op_assign (ev_hit hN72 rfl) (reg_nil ?_)
       -- round 39F 42T 60F 77F 85T
       exact loop_next _ hN72 hd72 ⟨(n9 + 1), (L9.set n9 (L9.getD n9 0 ^^^ 1)), rfl, (sl_base hN72 rfl s72_0), (sl_base hN72 rfl s72_9), (sl_base hN72 rfl s72_10), (sl_base hN72 rfl s72_12), (sl_base hN72 rfl s72_13), (sl_hit hN72 rfl).trans (congrArg (Value.int .i64) (by omega)), (by rw [List.length_set]; omega), (by rw [List.length_set]; exact hL9), hb, (by omega), hp, ok, ov, hO7, hkk2, (hO94.cast (by rw [List.length_set]) rfl)⟩ (by rw [List.length_set]; omega)
      ·
       refine reg_nil (hK75 _ _ (wp_cond_false (ev_hit hN72 rfl) (wp_exit (then_exit (then_exit (blk_hit ?_))))))
       refine hK29 _ _ (one_reg (op_move (ev_base hN72 rfl s72_13) (op_add (ev_hit hN72 rfl) rfl (add64 (by omega)) ?_)))
       refine op_assign (ev_hit hN72 rfl) (reg_nil ?_)
       -- round 39F 42T 60F 77F 85F
       exact loop_next _ hN72 hd72 ⟨(k + 1), rfl, (sl_base hN72 rfl s72_0), (sl_base hN72 rfl s72_9), (sl_base hN72 rfl s72_10), (sl_base hN72 rfl s72_12), (sl_hit hN72 rfl).trans (congrArg (Value.int .i64) (by omega)), (by omega), hb, (by omega), hp, ok, ov, hO7, hkk2⟩ (by omega)
  ·
   refine reg_nil (hK28 _ _ (wp_cond_false (ev_hit hN25 rfl) (wp_exit (then_exit (then_exit (blk_hit ?_))))))
   refine hK22 _ _ (seq_any fun K95 hK95 => one_reg (op_assign rfl (reg_nil (hK95 _ _ (wp_ret ?_)))))
   refine ret1 rfl hd25 (ev_hit hN25 rfl) ⟨_, rfl, ?_⟩
   exact ⟨hb, rfl⟩

end Go.Proofs.Ytcpfdfejojghbaa

namespace Go.Proofs.Ytcpfdfejojghbaa
open Go.Gx Go.RowKit
attribute [local irreducible] wpList wpStill Code.wp Calls
open Go.Bt
theorem putLsE {M M' : List (Ky × Int)} {k : List UInt8} {xv : Value} {x : Int} {c : Bool} {F : Nat → Prop} {p base L B : Nat} {w : World} (hT : TopL kI 71 base w p M F) (hb : base ≤ w.heap.size) (hk : RdC w L B 1 xv k.length (k.map u8v)) (hB : B ≤ w.heap.size) (hap : ∀ j, F j → j < L ∨ B ≤ j) (hkn : k.length ≤ 1000000000) (hM : putL k x M = M') (hc : (ks1 M).contains k = c) :
    Ret Try.prog 23 #[ptr p 0, xv, .int .i64 x] w (fun v' w' => Gr w w' F ∧ v' = .bool c ∧ ∃ F', TopL kI 71 base w' p M' F' ∧ NewF w.heap.size F F') := by
  subst hM; subst hc
  exact putLsI hT hb hk hB hap hkn
theorem getLsE {M : List (Ky × Int)} {F : Nat → Prop} {x : List UInt8} {xv : Value} {p base : Nat} {g : Int} {c : Bool} {w : World} (hT : TopL kI 71 base w p M F) (hkl : ∀ q ∈ M, q.1.length ≤ 1000000000) (hxr : RdC w 0 w.heap.size 1 xv x.length (x.map u8v)) (hDM : M.length ≤ 100000) (hg : (getL x M).getD 0 = g) (hc : (getL x M).isSome = c) : Ret Try.prog 30 #[ptr p 0, xv] w (fun v' w' => Below w.heap.size w w' ∧ v' = .tuple #[.int .i64 g, .bool c]) := by
  subst hg; subst hc
  exact getLsI hT hkl hxr hDM
theorem begun15 {w : World} : Ret Try.prog 11 #[] w (fun v' w' => Below w.heap.size w w' ∧ v' = .bool true) := by
 have hb := Below.refl w.heap.size w
 refine enter (N := 62) Try.func11 rfl rfl (by simp) fun a0 hN hd hA => ?_
 clear hA
 refine seq_any fun K1 hK1 => ?_
 refine one_reg (op_assign rfl (reg_nil (hK1 _ _ (seq_any fun K2 hK2 => one_reg (op_fn (vs := []) ok22 trivial (newLI) ?_)))))
 rintro _ w4 ⟨E5, p3, F3, rfl, hT3⟩
 have E5 := grown_of_below E5
 have z_w4 := E5.size
 have hb := below_step0 hb E5 hb.size
 have hT3 : TopL kI 71 w.heap.size w4 p3 [] F3 := hT3.rebase (by omega)
 refine op_assign (ev_hit hN rfl) (reg_nil (hK2 _ _ (seq_any fun K7 hK7 => one_reg (op_move (ev_hit hN rfl) (op_bslice (e := 5) (pv := [(0, (Value.int .u8 98))]) (cs := [(Value.int .u8 98)]) ⟨rfl, rfl, trivial⟩ (by kernel_rfl) ?_)))))
 intro w8 b9 lo_b9 hi_b9 hB11 E10
 have dj12 : ¬ F3 b9 := fun hf => by have := (hT3.lt _ hf).2; omega
 have z_w8 := E10.size
 have hT3 := hT3.kz E10
 have hb := below_step0 hb E10 hb.size
 refine op_conv_bytes (base := w.heap.size) Try.underlying27 Try.underlying5 (ev_hit hN rfl) hB11 rfl (by decide) (by omega) ?_
 intro w13 hO15 E14
 have z_w13 := E14.size
 have hT3 := hT3.keepG (Gr.of E14) (Dj.one dj12)
 have hb := below_step1 hb E14 hb.size (by omega)
 have dj16 : Dj (Bl (Value.slice (some ⟨b9, 0, none⟩) 1 1)) F3 := (Dj.one dj12).symm
 obtain ⟨L18, B18, hr18, hB18, hq18⟩ := own_at hO15 dj16
 refine op_fn (vs := [(ptr p3 0), (Value.slice (some ⟨b9, 0, none⟩) 1 1), (Value.int .i64 1)]) ok23 ⟨(ev_hit hN rfl), ⟨(ev_hit hN rfl), ⟨rfl, trivial⟩⟩⟩ (putLsE (k := [98]) (x := 1) (M := []) (M' := ([([98], 1)] : List (Ky × Int))) (c := false) hT3 hb.size hr18 hB18 hq18 (by decide) (by decide) (by decide)) ?_
 rintro _ w19 ⟨E20, rfl, F17, hT17, hN17⟩
 have bd21 := hO15.lt
 have hT3_old := hT3
 have z_w19 := E20.size
 have hb := below_stepG hb E20 hb.size (fun k hk => (hT3_old.lt k hk).1)
 refine op_assign (ev_hit hN rfl) (reg_nil (hK7 _ _ (seq_any fun K23 hK23 => one_reg ?_)))
 skip
 refine op_move (ev_hit hN rfl) (op_bslice (e := 5) (pv := [(0, (Value.int .u8 98))]) (cs := [(Value.int .u8 98)]) ⟨rfl, rfl, trivial⟩ (by kernel_rfl) ?_)
 intro w24 b25 lo_b25 hi_b25 hB27 E26
 have dj28 : ¬ F17 b25 := fun hf => by have := (hT17.lt _ hf).2; omega
 have z_w24 := E26.size
 have hT17 := hT17.kz E26
 have hb := below_step0 hb E26 hb.size
 refine op_conv_bytes (base := w.heap.size) Try.underlying27 Try.underlying5 (ev_hit hN rfl) hB27 rfl (by decide) (by omega) ?_
 intro w29 hO31 E30
 have z_w29 := E30.size
 have hT17 := hT17.keepG (Gr.of E30) (Dj.one dj28)
 have hb := below_step1 hb E30 hb.size (by omega)
 have dj32 : Dj (Bl (Value.slice (some ⟨b25, 0, none⟩) 1 1)) F17 := (Dj.one dj28).symm
 obtain ⟨L34, B34, hr34, hB34, hq34⟩ := own_at hO31 dj32
 refine op_fn (vs := [(ptr p3 0), (Value.slice (some ⟨b25, 0, none⟩) 1 1), (Value.int .i64 2)]) ok23 ⟨(ev_hit hN rfl), ⟨(ev_hit hN rfl), ⟨rfl, trivial⟩⟩⟩ (putLsE (k := [98]) (x := 2) (M := ([([98], 1)] : List (Ky × Int))) (M' := ([([98], 2)] : List (Ky × Int))) (c := true) hT17 hb.size hr34 hB34 hq34 (by decide) (by decide) (by decide)) ?_
 rintro _ w35 ⟨E36, rfl, F33, hT33, hN33⟩
 have bd37 := hO31.lt
 have hT17_old := hT17
 have z_w35 := E36.size
 have hb := below_stepG hb E36 hb.size (fun k hk => (hT17_old.lt k hk).1)
 refine op_assign (ev_hit hN rfl) (reg_nil (hK23 _ _ (seq_any fun K39 hK39 => one_reg ?_)))
 skip
 refine op_move (ev_hit hN rfl) (op_bslice (e := 5) (pv := [(0, (Value.int .u8 98))]) (cs := [(Value.int .u8 98)]) ⟨rfl, rfl, trivial⟩ (by kernel_rfl) ?_)
 intro w40 b41 lo_b41 hi_b41 hB43 E42
 have dj44 : ¬ F33 b41 := fun hf => by have := (hT33.lt _ hf).2; omega
 have z_w40 := E42.size
 have hT33 := hT33.kz E42
 have hb := below_step0 hb E42 hb.size
 refine op_conv_bytes (base := w.heap.size) Try.underlying27 Try.underlying5 (ev_hit hN rfl) hB43 rfl (by decide) (by omega) ?_
 intro w45 hO47 E46
 have z_w45 := E46.size
 have hT33 := hT33.keepG (Gr.of E46) (Dj.one dj44)
 have hb := below_step1 hb E46 hb.size (by omega)
 refine op_fn (vs := [(ptr p3 0), (Value.slice (some ⟨b41, 0, none⟩) 1 1)]) ok30 ⟨(ev_hit hN rfl), ⟨(ev_hit hN rfl), trivial⟩⟩ (getLsE (x := [98]) (g := 2) (c := true) hT33 (by decide) (hO47.rdw.mono (Nat.zero_le _) (by omega)) (by decide) (by decide) (by decide)) ?_
 rintro _ w49 ⟨E50, rfl⟩
 have E50 := grown_of_below E50
 have z_w49 := E50.size
 have hT33 := hT33.kz E50
 have hb := below_step0 hb E50 hb.size
 refine op_move (ev_hit hN rfl) (op_extract (ev_hit hN rfl) rfl ?_)
 refine op_extract (ev_hit hN rfl) rfl ?_
 refine op_assign (ev_hit hN rfl) (op_assign (ev_hit hN rfl) (reg_nil (hK39 _ _ (seq_any fun K51 hK51 => one_reg ?_))))
 skip
 refine op_move (ev_hit hN rfl) (op_fn (vs := [(ptr p3 0)]) ok33 ⟨(ev_hit hN rfl), trivial⟩ (levLsI hT33 (by decide)) ?_)
 rintro v52 w53 ⟨E54, LL52, LV52, hO52, hA52, hlev52, hLK52⟩
 have E54 := grown_of_below E54
 have z_w53 := E54.size
 have hT33 := hT33.kz E54
 have hb := below_step0 hb E54 hb.size
 have hLn52 := lev_len hlev52
 have hz52 := hLK52.zero
 have hle52 := hLK52.le
 have hO52 := hO52.mono (base' := w.heap.size) (by omega)
 have hA52 : ∀ x9 ∈ LL52, Own w53 w.heap.size 3 1 x9.1 x9.2.length (x9.2.map (Value.int .i64)) := fun x9 h9 => (hA52 x9 h9).mono (by omega)
 refine op_assign (ev_hit hN rfl) (reg_nil (hK51 _ _ (seq_any fun K56 hK56 => one_reg ?_)))
 have hM1 : ([([98], 2)] : List (Ky × Int)).length = 1 := rfl
 have hLL1 : LL52.length = 1 := by omega
 have hat := lev_at hlev52 0
 have hw : (LV52.getD 0 []).length = 1 := (hLK52.at_ 0 (by omega)).1
 have hlen9 : (LL52.getD 0 default).2.length = 1 := by rw [hat, List.length_map]; exact hw
 have hs9 : (LV52.getD 0 []).sum = 1 := by have := hLK52.sum; rw [show LV52.length - 1 = 0 by omega] at this; exact this
 have h00 : (LL52.getD 0 default).2.getD 0 0 = 1 := by rw [hat, ints_at]; have := one_sum hw hs9; omega
 refine op_move (ev_hit hN rfl) (op_not (ev_hit hN rfl) ?_)
 refine op_move (ev_hit hN rfl) (g_true (j := 2) (dj := 27) (b := true) rfl rfl rfl (ev_hit hN rfl) (op_move (ev_hit hN rfl) (op_pick_t (ev_hit hN rfl) (ev_hit hN rfl) ?_)))
 refine op_move (ev_hit hN rfl) (g_true (j := 5) (dj := 30) (b := true) rfl rfl rfl (ev_hit hN rfl) (op_move (ev_hit hN rfl) (op_pick_t (ev_hit hN rfl) (ev_hit hN rfl) ?_)))
 refine op_move (ev_hit hN rfl) (g_true (j := 8) (dj := 33) (b := true) rfl rfl rfl (ev_hit hN rfl) (op_move (ev_hit hN rfl) (g_true (j := 8) (dj := 33) (b := true) rfl rfl rfl (ev_hit hN rfl) (op_bin (v := .bool true) (ev_hit hN rfl) rfl (by rw [binOp_eql]; rfl) (op_pick_t (ev_hit hN rfl) (ev_hit hN rfl) ?_)))))
 refine op_move (ev_hit hN rfl) (g_true (j := 12) (dj := 37) (b := true) rfl rfl rfl (ev_hit hN rfl) (op_move (ev_hit hN rfl) (g_true (j := 12) (dj := 37) (b := true) rfl rfl rfl (ev_hit hN rfl) (op_fn (vs := [(ptr p3 0)]) ok25 ⟨(ev_hit hN rfl), trivial⟩ (lenLsI hT33 (by decide)) ?_))))
 rintro _ w57 ⟨E58, rfl⟩
 have E58 := grown_of_below E58
 have z_w57 := E58.size
 have hO52 := hO52.keep0 E58
 have hA52 := all9 hA52 fun _ h => h.keep0 E58
 have hb := below_step0 hb E58 hb.size
 refine g_true (j := 12) (dj := 37) (b := true) rfl rfl rfl (ev_hit hN rfl) (op_eql (ev_hit hN rfl) rfl (fun c40 => ?_) (fun c40 => ?_))
 ·
  refine op_pick_t (ev_hit hN rfl) (ev_hit hN rfl) ?_
  refine op_move (ev_hit hN rfl) (g_true (j := 17) (dj := 42) (b := true) rfl rfl rfl (ev_hit hN rfl) (op_move (ev_hit hN rfl) (g_true (j := 17) (dj := 42) (b := true) rfl rfl rfl (ev_hit hN rfl) (op_len_rd Try.underlying28 (ev_hit hN rfl) hO52.rdw ?_))))
  refine g_true (j := 17) (dj := 42) (b := true) rfl rfl rfl (ev_hit hN rfl) (op_eql (ev_hit hN rfl) rfl (fun c45 => ?_) (fun c45 => ?_))
  ·
   refine op_pick_t (ev_hit hN rfl) (ev_hit hN rfl) ?_
   refine op_move (ev_hit hN rfl) (g_true (j := 22) (dj := 47) (b := true) rfl rfl rfl (ev_hit hN rfl) (op_move (ev_hit hN rfl) (g_true (j := 22) (dj := 47) (b := true) rfl rfl rfl (ev_hit hN rfl) (op_index_rd slt28 (ev_hit hN rfl) hO52.rdw rfl (by omega) (by omega) ?_))))
   intro b59 o60 h0b59 h1b59 hc61
   refine g_true (j := 22) (dj := 47) (b := true) rfl rfl rfl (ev_hit hN rfl) ?_
   have hs62 : Own w57 w.heap.size 3 1 (LL52.getD 0 default).1 (LL52.getD 0 default).2.length ((LL52.getD 0 default).2.map (Value.int .i64)) := hA52 _ (getD_mem (by omega))
   refine op_load1 (v := (LL52.getD 0 default).1) one30 (ev_hit hN rfl) (by have := hc61 0 (LL52.getD 0 default).1 (by decide) (el_ll (i := 0) (d := default) (by omega) (by omega)); simpa using this) (g_true (j := 22) (dj := 47) (b := true) rfl rfl rfl (ev_hit hN rfl) (op_len_rd Try.underlying30 (ev_hit hN rfl) hs62.rdw ?_))
   refine g_true (j := 22) (dj := 47) (b := true) rfl rfl rfl (ev_hit hN rfl) (op_eql (ev_hit hN rfl) rfl (fun c52 => ?_) (fun c52 => ?_))
   ·
    refine op_pick_t (ev_hit hN rfl) (ev_hit hN rfl) ?_
    refine op_move (ev_hit hN rfl) (g_true (j := 29) (dj := 54) (b := true) rfl rfl rfl (ev_hit hN rfl) (op_move (ev_hit hN rfl) (g_true (j := 29) (dj := 54) (b := true) rfl rfl rfl (ev_hit hN rfl) (op_index_rd slt28 (ev_hit hN rfl) hO52.rdw rfl (by omega) (by omega) ?_))))
    intro b63 o64 h0b63 h1b63 hc65
    refine g_true (j := 29) (dj := 54) (b := true) rfl rfl rfl (ev_hit hN rfl) (op_load1 (v := (LL52.getD 0 default).1) one30 (ev_hit hN rfl) (by have := hc65 0 (LL52.getD 0 default).1 (by decide) (el_ll (i := 0) (d := default) (by omega) (by omega)); simpa using this) (g_true (j := 29) (dj := 54) (b := true) rfl rfl rfl (ev_hit hN rfl) (op_index_rd slt30 (ev_hit hN rfl) hs62.rdw rfl (by omega) (by omega) ?_)))
    intro b67 o68 h0b67 h1b67 hc69
    refine g_true (j := 29) (dj := 54) (b := true) rfl rfl rfl (ev_hit hN rfl) (op_load1 (v := (Value.int .i64 ((LL52.getD 0 default).2.getD 0 0))) one3 (ev_hit hN rfl) (by have := hc69 0 (Value.int .i64 ((LL52.getD 0 default).2.getD 0 0)) (by decide) (el_i64 (i := 0) (by omega) (by omega)); simpa using this) (g_true (j := 29) (dj := 54) (b := true) rfl rfl rfl (ev_hit hN rfl) (op_eql (ev_hit hN rfl) rfl (fun c60 => ?_) (fun c60 => ?_))))
    ·
     refine op_pick_t (ev_hit hN rfl) (ev_hit hN rfl) ?_
     refine op_assign (ev_hit hN rfl) (reg_nil (hK56 _ _ (wp_ret ?_)))
     refine ret1 rfl hd (ev_hit hN rfl) ⟨_, rfl, ?_⟩
     exact ⟨hb, rfl⟩
    ·
     exfalso; omega
   ·
    exfalso; omega
  ·
   exfalso; omega
 ·
  exfalso; omega

end Go.Proofs.Ytcpfdfejojghbaa

namespace Go.Bt
section
variable {V : Type} {L : List (List Nat)} {n d m i j : Nat} {M : List (Ky × V)} {v : V}
def k2 (k : Nat) : Ky := [UInt8.ofNat (k / 256), UInt8.ofNat k]
end
end Go.Bt
namespace Go.Bt
section
variable {M N : List (Ky × Int)} {i n kk : Nat} {f g : Nat → UInt16}
theorem put_len (H : SortedL M) {k : Ky} {v : Int} (h : M.length ≤ i) : (putL k v M).length ≤ i + 1 := by
  rw [putL_len H]; split <;> omega
end
end Go.Bt
namespace Go.Gx
open Go.Bt
end Go.Gx
namespace Go.Bt
section
variable {M : List (Ky × Int)} {D : List (Ky × Int)} {i n s : Nat} {k : Ky}
end
end Go.Bt
namespace Go.Gx
open Go.Bt
end Go.Gx
namespace Go.Bt
end Go.Bt
namespace Go.Bt
section
variable {V W : Type} {M : List (Ky × V)} {N : List (Ky × W)} {x k : Ky} {v : V} {u : W} {l : List UInt16} {b : UInt8} {i n j : Nat}
def b8 (x : UInt16) : UInt8 := UInt8.ofNat x.toNat
end
end Go.Bt
namespace Go.Bt
section
variable {M : List (Ky × Int)} {k : Ky} {v : Int}
theorem drop_le (H : SortedL M) : (dropL k M).length ≤ M.length := by have := dropL_len (k := k) H; omega
theorem put_short20 (H : ∀ q ∈ M, q.1.length ≤ 20) (hk : k.length ≤ 20) : ∀ q ∈ putL k v M, q.1.length ≤ 20 := fun q hq => by
  rcases mem_putL.1 hq with rfl | ⟨_, h⟩
  · exact hk
  · exact H q h
theorem get_found (H : SortedL M) (hc : (ks1 M).contains k = true) : getL k M = some ((M.map Prod.snd).getD (pos (M.map Prod.fst) k) 0) := by
  obtain ⟨hl, hk⟩ := pos_hit (show Sorted (ks1 M) from H) (List.contains_iff_mem.1 hc)
  have hl' : pos (ks1 M) k < M.length := by simpa using hl
  have e0 : M[pos (ks1 M) k].1 = (ks1 M)[pos (ks1 M) k] := by simp
  have e : M[pos (ks1 M) k].1 = k := e0.trans hk
  rw [getL_some H (List.getElem_mem hl') e]
  congr 1
  rw [List.getD_eq_getElem?_getD, List.getElem?_map, List.getElem?_eq_getElem hl']
  rfl
theorem get_gone (_H : SortedL M) (hc : (ks1 M).contains k = false) : getL k M = none := getL_none fun p hp e => by
  have : (ks1 M).contains k = true := has_iff.2 ⟨p, hp, e⟩
  rw [hc] at this; cases this
end
end Go.Bt

namespace Go.Proofs.Ytcpfdfejojghbaa
open Go.Gx Go.RowKit
attribute [local irreducible] wpList wpStill Code.wp Calls
open Go.Bt
theorem pairsAtE {M : List (Ky × Int)} {k : List UInt8} {F : Nat → Prop} {p base : Nat} {c : Bool} {w : World} (T : PairsR base w p M F) (hs : SortedL M) (hn : M.length ≤ 10000) (hkl : ∀ q ∈ M, q.1.length ≤ 1000000000) (hkk : k.length ≤ 1000000000) (hc : (ks1 M).contains k = c) :
    Ret Try.prog 31 #[ptr p 0, .string (bs k)] w (fun v' w' => Below w.heap.size w w' ∧ v' = .tuple #[.int .i64 ((pos (M.map Prod.fst) k : Nat) : Int), .bool c]) := by
  subst hc
  exact pairsAtR T hs hn hkl hkk
theorem pairsScan {M : List (Ky × Int)} {F F2 : Nat → Prop} {xv : Value} {p q base base2 : Nat} {x : List UInt8} {m : Int} {w : World} (hT : TopL kI 71 base w q M F) (hP : PairsR base2 w p M F2) (hDM : M.length ≤ 10000) (hkl : ∀ r ∈ M, r.1.length ≤ 1000000000) (hxr : RdC w 0 w.heap.size 1 xv x.length (x.map u8v)) (hxl : x.length ≤ 1000000000) (hm : m ≤ 9223372036854775807) :
    Ret Try.prog 32 #[ptr p 0, ptr q 0, xv, .int .i64 m] w (fun v' w' => Below w.heap.size w w' ∧ v' = .bool true) := by
  obtain ⟨kv, vv, hB, h1, h2, hp, hF⟩ := hP
  exact pairsScan0 hT hB h1 h2 hT.sorted hDM hkl hxr hxl hm
theorem TreeAll_ret (L : List (UInt8 × (Value × List UInt8) × Int)) (vl : Value) (w : World) (hl : L.length ≤ 9223372036854775807) (hsz : ∀ x ∈ L, x.2.1.2.length ≤ 9223372036854775807) (hr : RdC w 0 w.heap.size 3 vl L.length (L.flatMap (fun (x9 : UInt8 × (Value × List UInt8) × Int) => [u8v x9.1, x9.2.1.1, .int .i64 x9.2.2]))) (hks : ∀ x9 ∈ L.map (fun o => o.2.1), RdC w 0 w.heap.size 1 x9.1 x9.2.length (x9.2.map u8v)) (hmost : ∀ o ∈ L, o.2.2 ≤ 9223372036854775807) : Ret Try.prog 7 #[vl] w (fun v' w' => Below w.heap.size w w' ∧ v' = .bool true) := by
 have hb := Below.refl w.heap.size w
 refine enter (N := 146) Try.func7 rfl rfl (by simp) fun a0 hN hd hA => ?_
 have s0 : a0.tmps.getD 0 undef = vl := hA 0 (by simp)
 clear hA
 refine seq_any fun K1 hK1 => one_reg ?_
 refine op_assign rfl (reg_nil (hK1 _ _ (seq_any fun K2 hK2 => seq_any fun K3 hK3 => one_reg (op_fn (vs := []) ok11 trivial (begun15) ?_))))
 rintro _ w4 ⟨E5, rfl⟩
 have E5 := grown_of_below E5
 have z_w4 := E5.size
 have hr := hr.keep0 E5
 have hks := all9 hks fun _ h => h.keep0 E5
 have hb := below_step0 hb E5 hb.size
 refine op_not (ev_hit hN rfl) ?_
 refine reg_nil (hK3 _ _ (wp_cond_false (ev_hit hN rfl) ?_))
 refine wp_skip (hK2 _ _ (seq_any fun K6 hK6 => seq_any fun K7 hK7 => one_reg (op_move (ev_base hN rfl s0) (op_len_rd Try.underlying54 (ev_hit hN rfl) hr ?_))))
 refine op_gtr (ev_hit hN rfl) rfl (fun c18 => ?_) (fun c18 => ?_)
 ·
  refine reg_nil (hK7 _ _ ?_)
  refine wp_cond_true (ev_hit hN rfl) (seq_any fun K8 hK8 => one_reg (op_assign rfl (reg_nil (hK8 _ _ (wp_ret (then_ret ( ?_)))))))
  refine ret1 rfl hd (ev_hit hN rfl) ⟨_, rfl, ?_⟩
  exact ⟨hb, rfl⟩
 ·
  refine reg_nil ?_
  refine hK7 _ _ (wp_cond_false (ev_hit hN rfl) (wp_skip (hK6 _ _ (seq_any fun K9 hK9 => one_reg (op_fn (vs := []) ok22 trivial (newLI) ?_)))))
  rintro _ w11 ⟨E12, p10, F10, rfl, hT10⟩
  have E12 := grown_of_below E12
  have z_w11 := E12.size
  have hr := hr.keep0 E12
  have hks := all9 hks fun _ h => h.keep0 E12
  have hb := below_step0 hb E12 hb.size
  have hT10 : TopL kI 71 w.heap.size w11 p10 [] F10 := hT10.rebase (by omega)
  refine op_build (pv := []) (v := (Value.agg #[(Value.slice none 0 0), (Value.slice none 0 0)])) trivial (by kernel_rfl) ?_
  refine op_box (cs := [(Value.slice none 0 0), (Value.slice none 0 0)]) (ev_hit hN rfl) rfl ?_
  intro w14 b15 lo_b15 hi_b15 hB17 E16
  have dj18 : ¬ F10 b15 := fun hf => by have := (hT10.lt _ hf).2; omega
  have z_w14 := E16.size
  have hr := hr.keep0 E16
  have hks := all9 hks fun _ h => h.keep0 E16
  have hT10 := hT10.kz E16
  have hb := below_step0 hb E16 hb.size
  obtain ⟨FP19, hP20, hFP21⟩ : ∃ FP, PairsR w.heap.size w14 b15 [] FP ∧ ∀ k, FP k → k = b15 := ⟨_, ⟨_, _, hB17, Own.nil _ _ _ _, Own.nil _ _ _ _, by omega, fun _ => Iff.rfl⟩, fun k h => h.elim id (fun h => h.elim (fun h => (by cases h)) (fun h => (by cases h)))⟩
  have dj22 : Dj F10 FP19 := fun k h1 h2 => dj18 (hFP21 k h2 ▸ h1)
  refine op_assign (ev_hit hN rfl) (op_assign (ev_hit hN rfl) (reg_nil (hK9 _ _ ?_)))
  refine seq_any fun K23 hK23 => seq_any fun K24 hK24 => one_reg (op_assign rfl (reg_nil (hK24 _ _ (wp_block ?_))))
  refine loop_m (fun mz_ az_ w' => ∃ (i : Nat) (M : List (Ky × Int)) (FT FP : Nat → Prop), mz_ = L.length - i ∧ (az_.tmps.getD 0 undef = vl) ∧ (az_.tmps.getD 3 undef = (ptr p10 0)) ∧ (az_.tmps.getD 4 undef = (ptr b15 0)) ∧ (az_.tmps.getD 5 undef = (Value.int .i64 ((i : Nat) : Int))) ∧ (i ≤ L.length) ∧ (M.length ≤ i) ∧ (∀ q ∈ M, q.1.length ≤ 20) ∧ (Dj FT FP) ∧ (Below w.heap.size w w') ∧ (w14.heap.size ≤ w'.heap.size) ∧ (RdC w' 0 w.heap.size 3 vl L.length (L.flatMap (fun (x9 : UInt8 × (Value × List UInt8) × Int) => [u8v x9.1, x9.2.1.1, .int .i64 x9.2.2]))) ∧ (∀ x9 ∈ (L.map (fun o => o.2.1)), RdC w' 0 w.heap.size 1 x9.1 x9.2.length (x9.2.map u8v)) ∧ (TopL kI 71 w.heap.size w' p10 M FT) ∧ (PairsR w.heap.size w' b15 M FP)) _ hN hd ⟨0, [], F10, FP19, rfl, (sl_base hN rfl s0), (sl_hit hN rfl), (sl_hit hN rfl), (sl_hit hN rfl), (Nat.zero_le _), (Nat.le_refl _), (fun _ h => (by cases h)), dj22, hb, (Nat.le_refl _), hr, hks, hT10, hP20⟩ ?_
  rintro _ a25 w25 hN25 hd25 ⟨i, M, FT, FP, rfl, s25_0, s25_3, s25_4, s25_5, hi, hlM, hsh, hdj, hb, zl_w25, hr, hks, hTM, hPM⟩
  have z_w25 := hb.size
  refine seq_any fun K26 hK26 => seq_any fun K27 hK27 => one_reg (op_move (ev_base hN25 rfl s25_5) (op_move (ev_base hN25 rfl s25_0) (op_len_rd Try.underlying54 (ev_hit hN25 rfl) hr ?_)))
  refine op_lss (ev_hit hN25 rfl) (ev_hit hN25 rfl) (fun c25 => ?_) (fun c25 => ?_)
  ·
   refine reg_nil (hK27 _ _ (wp_cond_true (ev_hit hN25 rfl) (wp_skip (hK26 _ _ (seq_any fun K28 hK28 => wp_block ?_)))))
   refine seq_any fun K29 hK29 => one_reg ?_
   have hkx : RdC w25 0 w.heap.size 1 (L.getD i default).2.1.1 (L.getD i default).2.1.2.length ((L.getD i default).2.1.2.map u8v) := hks _ (List.mem_map.2 ⟨(L.getD i default), getD_mem9 (by omega), rfl⟩)
   have hsM := hTM.sorted
   refine op_move (ev_base hN25 rfl s25_0) (op_move (ev_base hN25 rfl s25_5) (op_index_rd slt54 (ev_hit hN25 rfl) hr (ev_hit hN25 rfl) (by omega) (by omega) ?_))
   intro b30 o31 h0b30 h1b30 hc32
   refine op_loadA (cs := [(Value.int .u8 ((L.getD i default).1.toNat : Int)), (L.getD i default).2.1.1, (Value.int .i64 (L.getD i default).2.2)]) agg60 rfl (ev_hit hN25 rfl) (fun j u hu => hc32 j u (by have := (List.getElem?_eq_some_iff.1 hu).1; simpa using this) ((el_flat9 (f := fun (x9 : UInt8 × (Value × List UInt8) × Int) => [u8v x9.1, x9.2.1.1, .int .i64 x9.2.2]) (sz := 3) (d := default) (e := ((i : Nat) : Int)) (i := i) (by decide) (fun _ _ => rfl) (by omega) (by omega)) j u hu)) ?_
   refine op_alloc (cs := [(Value.int .u8 0), (Value.slice none 0 0), (Value.int .i64 0)]) zero60 rfl ?_
   intro w33 b34 lo_b34 hi_b34 hB36 E35
   have dj37 : ¬ FT b34 := fun hf => by have := (hTM.lt _ hf).2; omega
   have dj38 : ¬ FP b34 := fun hf => by have := (hPM.lt _ hf).2; omega
   have z_w33 := E35.size
   have hr := hr.keep0 E35
   have hks := all9 hks fun _ h => h.keep0 E35
   have hTM := hTM.kz E35
   have hPM := hPM.kz E35
   have hkx := hkx.keep0 E35
   have hb := below_step0 hb E35 hb.size
   refine op_store (vs := [(Value.int .u8 ((L.getD i default).1.toNat : Int)), (L.getD i default).2.1.1, (Value.int .i64 (L.getD i default).2.2)]) (cs' := [(Value.int .u8 ((L.getD i default).1.toNat : Int)), (L.getD i default).2.1.1, (Value.int .i64 (L.getD i default).2.2)]) size60 (ev_hit hN25 rfl) (ev_hit hN25 rfl) rfl rfl (by simp only [List.all_cons, List.all_nil, Bool.true_and, Bool.and_true, hkx.one]; try rfl) hB36 (Nat.le_of_ble_eq_true rfl) rfl ?_
   intro w41 hB36 E42
   have z_w41 := E42.size
   have hr := hr.keep E42 (fun k hk => .inr (by simp at hk; omega))
   have hks := all9 hks fun _ h => h.keep E42 (fun k hk => .inr (by simp at hk; omega))
   have hTM := hTM.keepG (Gr.of E42) (Dj.one dj37)
   have hPM := hPM.keepG (Gr.of E42) (Dj.one dj38)
   have hkx := hkx.keep E42 (fun k hk => .inr (by simp at hk; omega))
   have hb := below_step1 hb E42 hb.size (by omega)
   refine reg_nil (hK29 _ _ (seq_any fun K43 hK43 => seq_any fun K44 hK44 => one_reg ?_))
   have hszi := hsz _ (getD_mem9 (d := default) (show i < L.length by omega))
   have hmi := hmost _ (getD_mem9 (d := default) (show i < L.length by omega))
   refine op_field fld60_1 (ev_hit hN25 rfl) (op_load1 (v := (L.getD i default).2.1.1) one27 (ev_hit hN25 rfl) (hB36.cell rfl) (op_len_rd Try.underlying27 (ev_hit hN25 rfl) hkx ?_))
   refine op_gtr (ev_hit hN25 rfl) rfl (fun c35 => ?_) (fun c35 => ?_)
   ·
    refine reg_nil (hK44 _ _ ?_)
    refine wp_cond_true (ev_hit hN25 rfl) (seq_any fun K45 hK45 => one_reg (op_assign rfl (reg_nil (hK45 _ _ (wp_ret (then_ret (blk_ret (then_ret (then_ret (blk_ret (then_ret ( ?_))))))))))))
    refine ret1 rfl hd25 (ev_hit hN25 rfl) ⟨_, rfl, ?_⟩
    exact ⟨hb, rfl⟩
   ·
    refine reg_nil ?_
    refine hK44 _ _ (wp_cond_false (ev_hit hN25 rfl) (wp_skip (hK43 _ _ (seq_any fun K46 hK46 => one_reg (op_bslice (e := 5) (pv := []) (cs := []) trivial (by kernel_rfl) ?_)))))
    intro w47 b48 lo_b48 hi_b48 hB50 E49
    have dj51 : ¬ FT b48 := fun hf => by have := (hTM.lt _ hf).2; omega
    have dj52 : ¬ FP b48 := fun hf => by have := (hPM.lt _ hf).2; omega
    have z_w47 := E49.size
    have hr := hr.keep0 E49
    have hks := all9 hks fun _ h => h.keep0 E49
    have hTM := hTM.kz E49
    have hPM := hPM.kz E49
    have hkx := hkx.keep0 E49
    have hB36 := hB36.keep0 E49
    have hb := below_step0 hb E49 hb.size
    refine op_field fld60_1 (ev_hit hN25 rfl) (op_load1 (v := (L.getD i default).2.1.1) one27 (ev_hit hN25 rfl) (hB36.cell rfl) ?_)
    have hP58 := (Own.ofBx (base := w.heap.size) (sz := 1) (n := 0) hB50 rfl (by decide) (by omega))
    refine op_append slt27 (ev_hit hN25 rfl) hP58 (ev_hit hN25 rfl) (Src.ofRd Try.underlying27 (by decide) hkx (by simp [Value.oneCell', u8v])) (by unfold maxLen; omega) (by omega) hb.size ?_
    intro v53 w54 hO56 E55 hm57
    have dj59 : Dj FT (Bl v53) := Dj.step hm57 (fun k hk => (hTM.lt k hk).2) (Dj.one dj51)
    have dj60 : Dj FP (Bl v53) := Dj.step hm57 (fun k hk => (hPM.lt k hk).2) (Dj.one dj52)
    have z_w54 := E55.size
    have hr := hr.keepO hP58 E55 (by omega)
    have hks := all9 hks fun _ h => h.keepO hP58 E55 (by omega)
    have hTM := hTM.keepG (Gr.of E55) (Dj.one dj51)
    have hPM := hPM.keepG (Gr.of E55) (Dj.one dj52)
    have hkx := hkx.keepO hP58 E55 (by omega)
    have hB36 := hB36.keep E55 (by simp [Value.ownBlock]; try omega)
    have hb := below_stepO hb hP58 E55 hb.size (by omega)
    have hO56 : Own w54 w.heap.size 5 1 v53 (L.getD i default).2.1.2.length (((L.getD i default).2.1.2).map u8v) := by simpa [u8v, sv] using hO56
    refine op_assign (ev_hit hN25 rfl) (reg_nil (hK46 _ _ ?_))
    refine seq_join1 (N := 146) (fun az_ w' => ∃ (M2 : List (Ky × Int)) (FT2 FP2 : Nat → Prop), (az_.tmps.getD 0 undef = vl) ∧ (az_.tmps.getD 3 undef = (ptr p10 0)) ∧ (az_.tmps.getD 4 undef = (ptr b15 0)) ∧ (az_.tmps.getD 5 undef = (Value.int .i64 ((i : Nat) : Int))) ∧ (az_.tmps.getD 7 undef = v53) ∧ (M2.length ≤ i + 1) ∧ (∀ q ∈ M2, q.1.length ≤ 20) ∧ (Dj FT2 FP2) ∧ (¬ FT2 b34) ∧ (¬ FP2 b34) ∧ (Dj (Bl v53) FT2) ∧ (Dj (Bl v53) FP2) ∧ (Below w.heap.size w w') ∧ (w54.heap.size ≤ w'.heap.size) ∧ (RdC w' 0 w.heap.size 3 vl L.length (L.flatMap (fun (x9 : UInt8 × (Value × List UInt8) × Int) => [u8v x9.1, x9.2.1.1, .int .i64 x9.2.2]))) ∧ (∀ x9 ∈ (L.map (fun o => o.2.1)), RdC w' 0 w.heap.size 1 x9.1 x9.2.length (x9.2.map u8v)) ∧ (RdC w' 0 w.heap.size 1 (L.getD i default).2.1.1 (L.getD i default).2.1.2.length ((L.getD i default).2.1.2.map u8v)) ∧ (Bx w' b34 60 [(Value.int .u8 ((L.getD i default).1.toNat : Int)), (L.getD i default).2.1.1, (Value.int .i64 (L.getD i default).2.2)]) ∧ (Own w' w.heap.size 5 1 v53 (L.getD i default).2.1.2.length (((L.getD i default).2.1.2).map u8v)) ∧ (TopL kI 71 w.heap.size w' p10 M2 FT2) ∧ (PairsR w.heap.size w' b15 M2 FP2)) (fun hJ65 => ?_) ?_
    ·
     refine seq_any fun K66 hK66 => seq_any fun K67 hK67 => one_reg (op_field fld60_0 (ev_hit hN25 rfl) (op_load1 (v := (Value.int .u8 ((L.getD i default).1.toNat : Int))) one5 (ev_hit hN25 rfl) (hB36.cell rfl) (op_rem (r := (((L.getD i default).1.toNat % 10 : Nat) : Int)) (ev_hit hN25 rfl) rfl (by decide) (by rw [Int.tmod_eq_emod_of_nonneg (by omega)]; omega) ?_)))
     refine op_assign (ev_hit hN25 rfl) (reg_nil (hK67 _ _ (wp_block ?_)))
     refine seq_any fun K68 hK68 => ?_
     refine one_reg (op_move (ev_hit hN25 rfl) (op_lss (ev_hit hN25 rfl) rfl (fun c52 => ?_) (fun c52 => ?_)))
     ·
      refine op_assign (ev_hit hN25 rfl) (reg_nil (hK68 _ _ (wp_cond_true (ev_hit hN25 rfl) (seq_any fun K69 hK69 => reg_split (hd := [_, _, _, _, _, _, _, _, _, _]) (tl := _) 10 mixed (by kernel_rfl) rfl rfl ?_))))
      refine any_env (φ := phiV [(fun uz => uz = (ptr p10 0)), (fun uz => uz = v53), (fun uz => uz = (Value.int .i64 ((i : Nat) : Int))), (fun _ => True), (fun uz => uz = (ptr b15 0)), (fun uz => uz = (ptr b34 1)), (fun uz => uz = (L.getD i default).2.1.1), (fun uz => uz = (Value.string (bs (L.getD i default).2.1.2))), (fun uz => uz = (Value.int .i64 ((i : Nat) : Int))), (fun _ => True)]) (G := fun w' => RdC w' 0 w.heap.size 1 (L.getD i default).2.1.1 (L.getD i default).2.1.2.length ((L.getD i default).2.1.2.map u8v) ∧ Bx w' b34 60 [(Value.int .u8 ((L.getD i default).1.toNat : Int)), (L.getD i default).2.1.1, (Value.int .i64 (L.getD i default).2.2)]) [3, 9] (by kernel_rfl) (by kernel_rfl) (by kernel_rfl) (by kernel_rfl) hN25 (fun w1 w2 E h => by obtain ⟨h0, h1⟩ := h; exact ⟨h0.keep0 E, h1.keep0 E⟩) ⟨hkx, hB36⟩ (ObEs.cons ?_ (ObEs.cons ?_ (ObEs.cons ?_ (ObEs.pass rfl (ObEs.cons ?_ (ObEs.cons ?_ (ObEs.cons ?_ (ObEs.cons ?_ (ObEs.cons ?_ (ObEs.pass rfl (ObEs.nil))))))))))) (by simp only [putsL_defers]) ?_
      ·
       intro eA aA wA hNA hGA hbsA hdpA
       have qA_3 := (hbsA 3 rfl).trans (sl_base hN25 rfl s25_3)
       refine op_move (ev_base hNA rfl qA_3) ?_
       exact obE_end rfl rfl rfl
      ·
       intro eA aA wA hNA hGA hbsA hdpA
       have qA_7 := (hbsA 7 rfl).trans (sl_hit hN25 rfl)
       refine op_move (ev_base hNA rfl qA_7) ?_
       exact obE_end rfl rfl rfl
      ·
       intro eA aA wA hNA hGA hbsA hdpA
       have qA_5 := (hbsA 5 rfl).trans (sl_base hN25 rfl s25_5)
       refine op_move (ev_base hNA rfl qA_5) ?_
       exact obE_end rfl rfl rfl
      ·
       intro eA aA wA hNA hGA hbsA hdpA
       have qA_4 := (hbsA 4 rfl).trans (sl_base hN25 rfl s25_4)
       refine op_move (ev_base hNA rfl qA_4) ?_
       exact obE_end rfl rfl rfl
      ·
       intro eA aA wA hNA hGA hbsA hdpA
       have qA_6 := (hbsA 6 rfl).trans (sl_hit hN25 rfl)
       refine op_field fld60_1 (ev_base hNA rfl qA_6) ?_
       exact obE_end rfl rfl rfl
      ·
       intro eA aA wA hNA hGA hbsA hdpA
       have qA_58 : Sl aA 58 (ptr b34 1) := (hdpA 5 _ 58 (by kernel_rfl) rfl rfl).2 rfl
       obtain ⟨hkx, hB36⟩ := hGA
       refine op_load1 (v := (L.getD i default).2.1.1) one27 (ev_base hNA rfl qA_58) (hB36.cell rfl) ?_
       exact obE_end rfl rfl rfl
      ·
       intro eA aA wA hNA hGA hbsA hdpA
       have qA_59 : Sl aA 59 (L.getD i default).2.1.1 := (hdpA 6 _ 59 (by kernel_rfl) rfl rfl).2 rfl
       obtain ⟨hkx, hB36⟩ := hGA
       refine op_str_of (bl := (L.getD i default).2.1.2) Try.underlying27 Try.underlying5 Try.underlying9 (ev_base hNA rfl qA_59) hkx ?_
       exact obE_end rfl rfl rfl
      ·
       intro eA aA wA hNA hGA hbsA hdpA
       have qA_5 := (hbsA 5 rfl).trans (sl_base hN25 rfl s25_5)
       refine op_move (ev_base hNA rfl qA_5) ?_
       exact obE_end rfl rfl rfl
      ·
       intro w70 E70 _ a70 hN70 hbs70 hdp70 o_ ho_; obtain rfl := Option.some.inj ho_
       have z_w70 := E70.size
       have hr := hr.keep0 E70
       have hks := all9 hks fun _ h => h.keep0 E70
       have hTM := hTM.kz E70
       have hPM := hPM.kz E70
       have hkx := hkx.keep0 E70
       have hB36 := hB36.keep0 E70
       have hO56 := hO56.keep0 E70
       have hb := below_step0 hb E70 hb.size
       have q70_53 : Sl a70 53 (ptr p10 0) := (hdp70 0 _ 53 (by kernel_rfl) rfl rfl).2 rfl
       have q70_54 : Sl a70 54 v53 := (hdp70 1 _ 54 (by kernel_rfl) rfl rfl).2 rfl
       have q70_55 : Sl a70 55 (Value.int .i64 ((i : Nat) : Int)) := (hdp70 2 _ 55 (by kernel_rfl) rfl rfl).2 rfl
       obtain ⟨L71, B71, hr71, hB71, hq71⟩ := own_at hO56 dj59.symm
       refine op_fn (vs := [(ptr p10 0), v53, (Value.int .i64 ((i : Nat) : Int))]) ok23 ⟨(ev_base hN70 rfl q70_53), ⟨(ev_base hN70 rfl q70_54), ⟨(ev_base hN70 rfl q70_55), trivial⟩⟩⟩ (putLsI (k := (L.getD i default).2.1.2) (x := ((i : Nat) : Int)) hTM hb.size hr71 hB71 hq71 (by omega)) ?_
       rintro _ w73 ⟨E74, rfl, F72, hT72, hN72⟩
       have bd75 := hPM.lt
       have bd76 := hB36.lt
       have bd77 := hO56.lt
       have hTM_old := hTM
       have z_w73 := E74.size
       have hr := hr.keepG E74 (fun k hk => .inr (by have := hTM_old.lt k hk; omega))
       have hks := all9 hks fun _ h => h.keepG E74 (fun k hk => .inr (by have := hTM_old.lt k hk; omega))
       have hPM := hPM.keepG E74 hdj.symm
       have hkx := hkx.keepG E74 (fun k hk => .inr (by have := hTM_old.lt k hk; omega))
       have hB36 := hB36.keepG E74 dj37
       have hO56 := hO56.keepG E74 dj59.symm
       have hb := below_stepG hb E74 hb.size (fun k hk => (hTM_old.lt k hk).1)
       have dj78 : Dj FP F72 := Dj.stepF hN72 (fun k hk => (bd75 k hk).2) hdj.symm
       have dj79 : ¬ F72 b34 := ne_stepF hN72 bd76 dj37
       have dj80 : Dj (Bl v53) F72 := Dj.stepF hN72 (fun k hk => (bd77 k hk).2) dj59.symm
       refine ke_end rfl (by decide) rfl ⟨hkx, hB36⟩ ?_
       intro w81 E81 _ a81 hN81 hbs81 hdp81 o_ ho_; obtain rfl := Option.some.inj ho_
       have z_w81 := E81.size
       have hr := hr.keep0 E81
       have hks := all9 hks fun _ h => h.keep0 E81
       have hPM := hPM.kz E81
       have hkx := hkx.keep0 E81
       have hB36 := hB36.keep0 E81
       have hO56 := hO56.keep0 E81
       have hT72 := hT72.kz E81
       have hb := below_step0 hb E81 hb.size
       have q81_57 : Sl a81 57 (ptr b15 0) := (hdp81 4 _ 57 (by kernel_rfl) rfl rfl).2 rfl
       have q81_60 : Sl a81 60 (Value.string (bs (L.getD i default).2.1.2)) := (hdp81 7 _ 60 (by kernel_rfl) rfl rfl).2 rfl
       have q81_61 : Sl a81 61 (Value.int .i64 ((i : Nat) : Int)) := (hdp81 8 _ 61 (by kernel_rfl) rfl rfl).2 rfl
       refine op_fn (vs := [(ptr b15 0), (Value.string (bs (L.getD i default).2.1.2)), (Value.int .i64 ((i : Nat) : Int))]) ok27 ⟨(ev_base hN81 rfl q81_57), ⟨(ev_base hN81 rfl q81_60), ⟨(ev_base hN81 rfl q81_61), trivial⟩⟩⟩ (pairsPut (k := (L.getD i default).2.1.2) (x := ((i : Nat) : Int)) hPM hb.size hsM (by omega) (fun q hq => Nat.le_trans (hsh q hq) (by decide)) (by omega)) ?_
       rintro _ w83 ⟨E84, rfl, F82, hP82, hN82⟩
       have bd85 := hB36.lt
       have bd86 := hO56.lt
       have bd87 := hT72.lt
       have hPM_old := hPM
       have z_w83 := E84.size
       have hr := hr.keepG E84 (fun k hk => .inr (by have := hPM_old.lt k hk; omega))
       have hks := all9 hks fun _ h => h.keepG E84 (fun k hk => .inr (by have := hPM_old.lt k hk; omega))
       have hkx := hkx.keepG E84 (fun k hk => .inr (by have := hPM_old.lt k hk; omega))
       have hB36 := hB36.keepG E84 dj38
       have hO56 := hO56.keepG E84 dj60.symm
       have hT72 := hT72.keepG E84 dj78.symm
       have hb := below_stepG hb E84 hb.size (fun k hk => (hPM_old.lt k hk).1)
       have dj88 : ¬ F82 b34 := ne_stepF hN82 bd85 dj38
       have dj89 : Dj (Bl v53) F82 := Dj.stepF hN82 (fun k hk => (bd86 k hk).2) dj60.symm
       have dj90 : Dj F72 F82 := Dj.stepF hN82 (fun k hk => (bd87 k hk).2) dj78.symm
       refine ke_end rfl (by decide) rfl ⟨hkx, hB36⟩ ?_
       intro w91 E91 a91 hN91 hd91 hbs91 hph91
       have hd91 := hd91.trans ((by simp only [putsL_defers] : _ = _).trans hd25)
       have z_w91 := E91.size
       have hr := hr.keep0 E91
       have hks := all9 hks fun _ h => h.keep0 E91
       have hkx := hkx.keep0 E91
       have hB36 := hB36.keep0 E91
       have hO56 := hO56.keep0 E91
       have hT72 := hT72.kz E91
       have hP82 := hP82.kz E91
       have hb := below_step0 hb E91 hb.size
       have s91_0 := (hbs91 0 rfl).trans (sl_base hN25 rfl s25_0)
       have s91_3 := (hbs91 3 rfl).trans (sl_base hN25 rfl s25_3)
       have s91_4 := (hbs91 4 rfl).trans (sl_base hN25 rfl s25_4)
       have s91_5 := (hbs91 5 rfl).trans (sl_base hN25 rfl s25_5)
       have s91_7 := (hbs91 7 rfl).trans (sl_hit hN25 rfl)
       have s91_56 : Sl a91 56 (Value.bool ((ks1 M).contains ((L.getD i default).2.1.2))) := (Option.some.inj ((hph91 3 _ 56 rfl rfl).1 0 rfl)).symm
       have s91_62 : Sl a91 62 (Value.bool ((ks1 M).contains ((L.getD i default).2.1.2))) := (Option.some.inj ((hph91 9 _ 62 rfl rfl).1 1 rfl)).symm
       refine split_end ?_
       refine from_seq (tl := [_]) (by decide) (by kernel_rfl) rfl ?_
       refine op_neb Try.underlying4 (ev_base hN91 rfl s91_56) (ev_base hN91 rfl s91_62) ?_
       refine reg_nil (hK69 _ _ (wp_cond_split (ev_hit hN91 rfl) (fun c63 => ?_) (fun c63 => ?_)))
       ·
        exact absurd c63 (by simp)
       ·
        refine wp_skip (hK66 _ _ ?_)
        exact hJ65 _ _ _ hN91 hd91 ⟨(putL ((L.getD i default).2.1.2) ((i : Nat) : Int) M), F72, F82, (sl_base hN91 rfl s91_0), (sl_base hN91 rfl s91_3), (sl_base hN91 rfl s91_4), (sl_base hN91 rfl s91_5), (sl_base hN91 rfl s91_7), (put_len hsM hlM), (put_short20 hsh (by omega)), dj90, dj79, dj88, dj80, dj89, hb, (by omega), hr, hks, hkx, hB36, hO56, hT72, hP82⟩
     ·
      refine op_assign (ev_hit hN25 rfl) (reg_nil (hK68 _ _ (wp_cond_false (ev_hit hN25 rfl) (seq_any fun K92 hK92 => ?_))))
      refine one_reg (op_move (ev_hit hN25 rfl) (op_lss (ev_hit hN25 rfl) rfl (fun c66 => ?_) (fun c66 => ?_)))
      ·
       refine op_assign (ev_hit hN25 rfl) (reg_nil (hK92 _ _ (wp_cond_true (ev_hit hN25 rfl) (seq_any fun K93 hK93 => reg_split (hd := [_, _, _, _, _, _, _, _]) (tl := _) 8 mixed (by kernel_rfl) rfl rfl ?_))))
       refine any_env (φ := phiV [(fun uz => uz = (ptr p10 0)), (fun uz => uz = v53), (fun _ => True), (fun uz => uz = (ptr b15 0)), (fun uz => uz = (ptr b34 1)), (fun uz => uz = (L.getD i default).2.1.1), (fun uz => uz = (Value.string (bs (L.getD i default).2.1.2))), (fun _ => True)]) (G := fun w' => RdC w' 0 w.heap.size 1 (L.getD i default).2.1.1 (L.getD i default).2.1.2.length ((L.getD i default).2.1.2.map u8v) ∧ Bx w' b34 60 [(Value.int .u8 ((L.getD i default).1.toNat : Int)), (L.getD i default).2.1.1, (Value.int .i64 (L.getD i default).2.2)]) [2, 7] (by kernel_rfl) (by kernel_rfl) (by kernel_rfl) (by kernel_rfl) hN25 (fun w1 w2 E h => by obtain ⟨h0, h1⟩ := h; exact ⟨h0.keep0 E, h1.keep0 E⟩) ⟨hkx, hB36⟩ (ObEs.cons ?_ (ObEs.cons ?_ (ObEs.pass rfl (ObEs.cons ?_ (ObEs.cons ?_ (ObEs.cons ?_ (ObEs.cons ?_ (ObEs.pass rfl (ObEs.nil))))))))) (by simp only [putsL_defers]) ?_
       ·
        intro eA aA wA hNA hGA hbsA hdpA
        have qA_3 := (hbsA 3 rfl).trans (sl_base hN25 rfl s25_3)
        refine op_move (ev_base hNA rfl qA_3) ?_
        exact obE_end rfl rfl rfl
       ·
        intro eA aA wA hNA hGA hbsA hdpA
        have qA_7 := (hbsA 7 rfl).trans (sl_hit hN25 rfl)
        refine op_move (ev_base hNA rfl qA_7) ?_
        exact obE_end rfl rfl rfl
       ·
        intro eA aA wA hNA hGA hbsA hdpA
        have qA_4 := (hbsA 4 rfl).trans (sl_base hN25 rfl s25_4)
        refine op_move (ev_base hNA rfl qA_4) ?_
        exact obE_end rfl rfl rfl
       ·
        intro eA aA wA hNA hGA hbsA hdpA
        have qA_6 := (hbsA 6 rfl).trans (sl_hit hN25 rfl)
        refine op_field fld60_1 (ev_base hNA rfl qA_6) ?_
        exact obE_end rfl rfl rfl
       ·
        intro eA aA wA hNA hGA hbsA hdpA
        have qA_71 : Sl aA 71 (ptr b34 1) := (hdpA 4 _ 71 (by kernel_rfl) rfl rfl).2 rfl
        obtain ⟨hkx, hB36⟩ := hGA
        refine op_load1 (v := (L.getD i default).2.1.1) one27 (ev_base hNA rfl qA_71) (hB36.cell rfl) ?_
        exact obE_end rfl rfl rfl
       ·
        intro eA aA wA hNA hGA hbsA hdpA
        have qA_72 : Sl aA 72 (L.getD i default).2.1.1 := (hdpA 5 _ 72 (by kernel_rfl) rfl rfl).2 rfl
        obtain ⟨hkx, hB36⟩ := hGA
        refine op_str_of (bl := (L.getD i default).2.1.2) Try.underlying27 Try.underlying5 Try.underlying9 (ev_base hNA rfl qA_72) hkx ?_
        exact obE_end rfl rfl rfl
       ·
        intro w94 E94 _ a94 hN94 hbs94 hdp94 o_ ho_; obtain rfl := Option.some.inj ho_
        have z_w94 := E94.size
        have hr := hr.keep0 E94
        have hks := all9 hks fun _ h => h.keep0 E94
        have hTM := hTM.kz E94
        have hPM := hPM.kz E94
        have hkx := hkx.keep0 E94
        have hB36 := hB36.keep0 E94
        have hO56 := hO56.keep0 E94
        have hb := below_step0 hb E94 hb.size
        have q94_67 : Sl a94 67 (ptr p10 0) := (hdp94 0 _ 67 (by kernel_rfl) rfl rfl).2 rfl
        have q94_68 : Sl a94 68 v53 := (hdp94 1 _ 68 (by kernel_rfl) rfl rfl).2 rfl
        refine op_fn (vs := [(ptr p10 0), v53]) ok28 ⟨(ev_base hN94 rfl q94_67), ⟨(ev_base hN94 rfl q94_68), trivial⟩⟩ (dropLs (k := (L.getD i default).2.1.2) hTM hb.size (hO56.rdw.mono (Nat.zero_le _) (by omega))) ?_
        rintro _ w96 ⟨E97, rfl, F95, hT95, hN95⟩
        have bd98 := hPM.lt
        have bd99 := hB36.lt
        have bd100 := hO56.lt
        have hTM_old := hTM
        have z_w96 := E97.size
        have hr := hr.keepG E97 (fun k hk => .inr (by have := hTM_old.lt k hk; omega))
        have hks := all9 hks fun _ h => h.keepG E97 (fun k hk => .inr (by have := hTM_old.lt k hk; omega))
        have hPM := hPM.keepG E97 hdj.symm
        have hkx := hkx.keepG E97 (fun k hk => .inr (by have := hTM_old.lt k hk; omega))
        have hB36 := hB36.keepG E97 dj37
        have hO56 := hO56.keepG E97 dj59.symm
        have hb := below_stepG hb E97 hb.size (fun k hk => (hTM_old.lt k hk).1)
        have dj101 : Dj FP F95 := Dj.stepF hN95 (fun k hk => (bd98 k hk).2) hdj.symm
        have dj102 : ¬ F95 b34 := ne_stepF hN95 bd99 dj37
        have dj103 : Dj (Bl v53) F95 := Dj.stepF hN95 (fun k hk => (bd100 k hk).2) dj59.symm
        refine ke_end rfl (by decide) rfl ⟨hkx, hB36⟩ ?_
        intro w104 E104 _ a104 hN104 hbs104 hdp104 o_ ho_; obtain rfl := Option.some.inj ho_
        have z_w104 := E104.size
        have hr := hr.keep0 E104
        have hks := all9 hks fun _ h => h.keep0 E104
        have hPM := hPM.kz E104
        have hkx := hkx.keep0 E104
        have hB36 := hB36.keep0 E104
        have hO56 := hO56.keep0 E104
        have hT95 := hT95.kz E104
        have hb := below_step0 hb E104 hb.size
        have q104_70 : Sl a104 70 (ptr b15 0) := (hdp104 3 _ 70 (by kernel_rfl) rfl rfl).2 rfl
        have q104_73 : Sl a104 73 (Value.string (bs (L.getD i default).2.1.2)) := (hdp104 6 _ 73 (by kernel_rfl) rfl rfl).2 rfl
        refine op_fn (vs := [(ptr b15 0), (Value.string (bs (L.getD i default).2.1.2))]) ok29 ⟨(ev_base hN104 rfl q104_70), ⟨(ev_base hN104 rfl q104_73), trivial⟩⟩ (pairsDrop (k := (L.getD i default).2.1.2) hPM hb.size hsM (by omega) (fun q hq => Nat.le_trans (hsh q hq) (by decide)) (by omega)) ?_
        rintro _ w106 ⟨E107, rfl, F105, hP105, hN105⟩
        have bd108 := hB36.lt
        have bd109 := hO56.lt
        have bd110 := hT95.lt
        have hPM_old := hPM
        have z_w106 := E107.size
        have hr := hr.keepG E107 (fun k hk => .inr (by have := hPM_old.lt k hk; omega))
        have hks := all9 hks fun _ h => h.keepG E107 (fun k hk => .inr (by have := hPM_old.lt k hk; omega))
        have hkx := hkx.keepG E107 (fun k hk => .inr (by have := hPM_old.lt k hk; omega))
        have hB36 := hB36.keepG E107 dj38
        have hO56 := hO56.keepG E107 dj60.symm
        have hT95 := hT95.keepG E107 dj101.symm
        have hb := below_stepG hb E107 hb.size (fun k hk => (hPM_old.lt k hk).1)
        have dj111 : ¬ F105 b34 := ne_stepF hN105 bd108 dj38
        have dj112 : Dj (Bl v53) F105 := Dj.stepF hN105 (fun k hk => (bd109 k hk).2) dj60.symm
        have dj113 : Dj F95 F105 := Dj.stepF hN105 (fun k hk => (bd110 k hk).2) dj101.symm
        refine ke_end rfl (by decide) rfl ⟨hkx, hB36⟩ ?_
        intro w114 E114 a114 hN114 hd114 hbs114 hph114
        have hd114 := hd114.trans ((by simp only [putsL_defers] : _ = _).trans hd25)
        have z_w114 := E114.size
        have hr := hr.keep0 E114
        have hks := all9 hks fun _ h => h.keep0 E114
        have hkx := hkx.keep0 E114
        have hB36 := hB36.keep0 E114
        have hO56 := hO56.keep0 E114
        have hT95 := hT95.kz E114
        have hP105 := hP105.kz E114
        have hb := below_step0 hb E114 hb.size
        have s114_0 := (hbs114 0 rfl).trans (sl_base hN25 rfl s25_0)
        have s114_3 := (hbs114 3 rfl).trans (sl_base hN25 rfl s25_3)
        have s114_4 := (hbs114 4 rfl).trans (sl_base hN25 rfl s25_4)
        have s114_5 := (hbs114 5 rfl).trans (sl_base hN25 rfl s25_5)
        have s114_7 := (hbs114 7 rfl).trans (sl_hit hN25 rfl)
        have s114_69 : Sl a114 69 (Value.bool ((ks1 M).contains ((L.getD i default).2.1.2))) := (Option.some.inj ((hph114 2 _ 69 rfl rfl).1 0 rfl)).symm
        have s114_74 : Sl a114 74 (Value.bool ((ks1 M).contains ((L.getD i default).2.1.2))) := (Option.some.inj ((hph114 7 _ 74 rfl rfl).1 1 rfl)).symm
        refine split_end ?_
        refine from_seq (tl := [_]) (by decide) (by kernel_rfl) rfl ?_
        refine op_neb Try.underlying4 (ev_base hN114 rfl s114_69) (ev_base hN114 rfl s114_74) ?_
        refine reg_nil (hK93 _ _ (wp_cond_split (ev_hit hN114 rfl) (fun c75 => ?_) (fun c75 => ?_)))
        ·
         exact absurd c75 (by simp)
        ·
         refine wp_skip (hK66 _ _ ?_)
         exact hJ65 _ _ _ hN114 hd114 ⟨(Go.Bt.dropL ((L.getD i default).2.1.2) M), F95, F105, (sl_base hN114 rfl s114_0), (sl_base hN114 rfl s114_3), (sl_base hN114 rfl s114_4), (sl_base hN114 rfl s114_5), (sl_base hN114 rfl s114_7), (Nat.le_trans (drop_le hsM) (Nat.le_succ_of_le hlM)), (fun q hq => hsh q (mem_dropL.1 hq).2), dj113, dj102, dj111, dj103, dj112, hb, (by omega), hr, hks, hkx, hB36, hO56, hT95, hP105⟩
      ·
       refine op_assign (ev_hit hN25 rfl) (reg_nil (hK92 _ _ (wp_cond_false (ev_hit hN25 rfl) (seq_any fun K115 hK115 => ?_))))
       refine one_reg (op_move (ev_hit hN25 rfl) (op_eql (ev_hit hN25 rfl) rfl (fun c78 => ?_) (fun c78 => ?_)))
       ·
        refine op_assign (ev_hit hN25 rfl) ?_
        refine reg_nil (hK115 _ _ (wp_cond_true (ev_hit hN25 rfl) (seq_any fun K116 hK116 => one_reg (op_move (ev_base hN25 rfl s25_3) (op_move (ev_hit hN25 rfl) ?_)))))
        rcases Bool.eq_false_or_eq_true (((ks1 M).contains (L.getD i default).2.1.2)) with k82 | k82
        ·
         refine op_fn (vs := [(ptr p10 0), v53]) ok30 ⟨(ev_hit hN25 rfl), ⟨(ev_hit hN25 rfl), trivial⟩⟩ (getLsE (x := (L.getD i default).2.1.2) (g := ((M.map Prod.snd).getD (pos (M.map Prod.fst) (L.getD i default).2.1.2) 0)) (c := true) hTM (fun q hq => Nat.le_trans (hsh q hq) (by decide)) (hO56.rdw.mono (Nat.zero_le _) (by omega)) (by omega) (by rw [get_found hsM k82]; rfl) (by rw [get_found hsM k82]; rfl)) ?_
         rintro _ w117 ⟨E118, rfl⟩
         have E118 := grown_of_below E118
         have z_w117 := E118.size
         have hr := hr.keep0 E118
         have hks := all9 hks fun _ h => h.keep0 E118
         have hTM := hTM.kz E118
         have hPM := hPM.kz E118
         have hkx := hkx.keep0 E118
         have hB36 := hB36.keep0 E118
         have hO56 := hO56.keep0 E118
         have hb := below_step0 hb E118 hb.size
         refine op_move (ev_hit hN25 rfl) (op_extract (ev_hit hN25 rfl) rfl ?_)
         refine op_extract (ev_hit hN25 rfl) rfl ?_
         refine op_assign (ev_hit hN25 rfl) (op_assign (ev_hit hN25 rfl) (reg_nil ?_))
         refine hK116 _ _ (seq_any fun K119 hK119 => one_reg (op_move (ev_base hN25 rfl s25_4) (op_field fld60_1 (ev_hit hN25 rfl) (op_load1 (v := (L.getD i default).2.1.1) one27 (ev_hit hN25 rfl) (hB36.cell rfl) (op_str_of (bl := (L.getD i default).2.1.2) Try.underlying27 Try.underlying5 Try.underlying9 (ev_hit hN25 rfl) hkx ?_)))))
         refine op_fn (vs := [(ptr b15 0), (Value.string (bs (L.getD i default).2.1.2))]) ok31 ⟨(ev_hit hN25 rfl), ⟨(ev_hit hN25 rfl), trivial⟩⟩ (pairsAtE (k := (L.getD i default).2.1.2) (c := true) hPM hsM (by omega) (fun q hq => Nat.le_trans (hsh q hq) (by decide)) (by omega) k82) ?_
         rintro _ w120 ⟨E121, rfl⟩
         have E121 := grown_of_below E121
         have z_w120 := E121.size
         have hr := hr.keep0 E121
         have hks := all9 hks fun _ h => h.keep0 E121
         have hTM := hTM.kz E121
         have hPM := hPM.kz E121
         have hkx := hkx.keep0 E121
         have hB36 := hB36.keep0 E121
         have hO56 := hO56.keep0 E121
         have hb := below_step0 hb E121 hb.size
         refine op_move (ev_hit hN25 rfl) (op_extract (ev_hit hN25 rfl) rfl ?_)
         refine op_extract (ev_hit hN25 rfl) rfl ?_
         refine op_assign (ev_hit hN25 rfl) (op_assign (ev_hit hN25 rfl) (reg_nil (hK119 _ _ (seq_any fun K122 hK122 => one_reg ?_))))
         obtain ⟨kq123, vq123, hbq123, hko123, hvo123, _, _⟩ := id hPM
         have hkq123 := hko123.rdw
         have hvq123 := hvo123.rdw
         have hml123 : (M.map Prod.fst).length = M.length := List.length_map ..
         have hml39 : (M.map Prod.snd).length = M.length := List.length_map ..
         have hpl9 := pos_lt9 (show Sorted (ks1 M) from hsM) k82
         have hpl9 : pos (M.map Prod.fst) (L.getD i default).2.1.2 < (M.map Prod.snd).length := by simpa using hpl9
         refine op_move (ev_hit hN25 rfl) (op_move (ev_hit hN25 rfl) (op_neb Try.underlying4 (ev_hit hN25 rfl) (ev_hit hN25 rfl) ?_))
         refine op_move (ev_hit hN25 rfl) (g_true (j := 3) (dj := 96) (b := false) rfl rfl rfl (ev_hit hN25 rfl) (op_move (ev_hit hN25 rfl) (g_true (j := 3) (dj := 96) (b := false) rfl rfl rfl (ev_hit hN25 rfl) (op_move (ev_hit hN25 rfl) ?_))))
         refine g_true (j := 5) (dj := 98) (b := true) rfl rfl rfl (ev_hit hN25 rfl) (op_move (ev_hit hN25 rfl) (g_true (j := 5) (dj := 98) (b := true) rfl rfl rfl (ev_hit hN25 rfl) (op_move (ev_base hN25 rfl s25_4) (g_true (j := 5) (dj := 98) (b := true) rfl rfl rfl (ev_hit hN25 rfl) (op_nil (ev_hit hN25 rfl) (g_true (j := 5) (dj := 98) (b := true) rfl rfl rfl (ev_hit hN25 rfl) ?_))))))
         refine op_field fld58_1 (ev_hit hN25 rfl) (g_true (j := 5) (dj := 98) (b := true) rfl rfl rfl (ev_hit hN25 rfl) (op_load1 (v := vq123) one30 (ev_hit hN25 rfl) (hbq123.cell rfl) (g_true (j := 5) (dj := 98) (b := true) rfl rfl rfl (ev_hit hN25 rfl) (op_move (ev_hit hN25 rfl) (g_true (j := 5) (dj := 98) (b := true) rfl rfl rfl (ev_hit hN25 rfl) (op_index_rd slt30 (ev_hit hN25 rfl) hvq123 (ev_hit hN25 rfl) (by omega) (by omega) ?_))))))
         intro b124 o125 h0b124 h1b124 hc126
         refine g_true (j := 5) (dj := 98) (b := true) rfl rfl rfl (ev_hit hN25 rfl) (op_load1 (v := (Value.int .i64 ((M.map Prod.snd).getD ((pos (M.map Prod.fst) (L.getD i default).2.1.2)) 0))) one3 (ev_hit hN25 rfl) (by have := hc126 0 (Value.int .i64 ((M.map Prod.snd).getD ((pos (M.map Prod.fst) (L.getD i default).2.1.2)) 0)) (by decide) (el_i64 (i := ((pos (M.map Prod.fst) (L.getD i default).2.1.2))) (by omega) (by omega)); simpa using this) (g_true (j := 5) (dj := 98) (b := true) rfl rfl rfl (ev_hit hN25 rfl) (op_neq (ev_hit hN25 rfl) (ev_hit hN25 rfl) (fun c107 => ?_) (fun c107 => ?_))))
         ·
          exact absurd rfl c107
         ·
          refine g_true (j := 3) (dj := 96) (b := false) rfl rfl rfl (ev_hit hN25 rfl) (op_pick_t (ev_hit hN25 rfl) (ev_hit hN25 rfl) ?_)
          refine op_pick_f (ev_hit hN25 rfl) (ev_hit hN25 rfl) ?_
          refine op_move (ev_hit hN25 rfl) (g_true (j := 17) (dj := 110) (b := false) rfl rfl rfl (ev_hit hN25 rfl) (op_move (ev_hit hN25 rfl) (g_true (j := 17) (dj := 110) (b := false) rfl rfl rfl (ev_hit hN25 rfl) (op_not (ev_hit hN25 rfl) ?_))))
          refine g_true (j := 17) (dj := 110) (b := false) rfl rfl rfl (ev_hit hN25 rfl) (op_move (ev_hit hN25 rfl) (g_false (j := 20) (dj := 113) (b := true) rfl rfl rfl (ev_hit hN25 rfl) rfl rfl (g_false (j := 20) (dj := 113) (b := true) rfl rfl rfl (ev_hit hN25 rfl) rfl rfl (g_true (j := 17) (dj := 110) (b := false) rfl rfl rfl (ev_hit hN25 rfl) (op_pick_f (ev_hit hN25 rfl) rfl ?_)))))
          refine op_pick_f (ev_hit hN25 rfl) (ev_hit hN25 rfl) ?_
          refine reg_nil (hK122 _ _ (wp_cond_false (ev_hit hN25 rfl) (wp_skip (hK66 _ _ ?_))))
          exact hJ65 _ _ _ hN25 hd25 ⟨M, FT, FP, (sl_base hN25 rfl s25_0), (sl_base hN25 rfl s25_3), (sl_base hN25 rfl s25_4), (sl_base hN25 rfl s25_5), (sl_hit hN25 rfl), (Nat.le_succ_of_le hlM), hsh, hdj, dj37, dj38, dj59.symm, dj60.symm, hb, (by omega), hr, hks, hkx, hB36, hO56, hTM, hPM⟩
        ·
         refine op_fn (vs := [(ptr p10 0), v53]) ok30 ⟨(ev_hit hN25 rfl), ⟨(ev_hit hN25 rfl), trivial⟩⟩ (getLsE (x := (L.getD i default).2.1.2) (g := 0) (c := false) hTM (fun q hq => Nat.le_trans (hsh q hq) (by decide)) (hO56.rdw.mono (Nat.zero_le _) (by omega)) (by omega) (by rw [get_gone hsM k82]; rfl) (by rw [get_gone hsM k82]; rfl)) ?_
         rintro _ w127 ⟨E128, rfl⟩
         have E128 := grown_of_below E128
         have z_w127 := E128.size
         have hr := hr.keep0 E128
         have hks := all9 hks fun _ h => h.keep0 E128
         have hTM := hTM.kz E128
         have hPM := hPM.kz E128
         have hkx := hkx.keep0 E128
         have hB36 := hB36.keep0 E128
         have hO56 := hO56.keep0 E128
         have hb := below_step0 hb E128 hb.size
         refine op_move (ev_hit hN25 rfl) (op_extract (ev_hit hN25 rfl) rfl ?_)
         refine op_extract (ev_hit hN25 rfl) rfl ?_
         refine op_assign (ev_hit hN25 rfl) (op_assign (ev_hit hN25 rfl) (reg_nil ?_))
         refine hK116 _ _ (seq_any fun K129 hK129 => one_reg (op_move (ev_base hN25 rfl s25_4) (op_field fld60_1 (ev_hit hN25 rfl) (op_load1 (v := (L.getD i default).2.1.1) one27 (ev_hit hN25 rfl) (hB36.cell rfl) (op_str_of (bl := (L.getD i default).2.1.2) Try.underlying27 Try.underlying5 Try.underlying9 (ev_hit hN25 rfl) hkx ?_)))))
         refine op_fn (vs := [(ptr b15 0), (Value.string (bs (L.getD i default).2.1.2))]) ok31 ⟨(ev_hit hN25 rfl), ⟨(ev_hit hN25 rfl), trivial⟩⟩ (pairsAtE (k := (L.getD i default).2.1.2) (c := false) hPM hsM (by omega) (fun q hq => Nat.le_trans (hsh q hq) (by decide)) (by omega) k82) ?_
         rintro _ w130 ⟨E131, rfl⟩
         have E131 := grown_of_below E131
         have z_w130 := E131.size
         have hr := hr.keep0 E131
         have hks := all9 hks fun _ h => h.keep0 E131
         have hTM := hTM.kz E131
         have hPM := hPM.kz E131
         have hkx := hkx.keep0 E131
         have hB36 := hB36.keep0 E131
         have hO56 := hO56.keep0 E131
         have hb := below_step0 hb E131 hb.size
         refine op_move (ev_hit hN25 rfl) (op_extract (ev_hit hN25 rfl) rfl ?_)
         refine op_extract (ev_hit hN25 rfl) rfl ?_
         refine op_assign (ev_hit hN25 rfl) (op_assign (ev_hit hN25 rfl) (reg_nil (hK129 _ _ (seq_any fun K132 hK132 => one_reg ?_))))
         obtain ⟨kq133, vq133, hbq133, hko133, hvo133, _, _⟩ := id hPM
         have hkq133 := hko133.rdw
         have hvq133 := hvo133.rdw
         have hml133 : (M.map Prod.fst).length = M.length := List.length_map ..
         have hml40 : (M.map Prod.snd).length = M.length := List.length_map ..
         refine op_move (ev_hit hN25 rfl) (op_move (ev_hit hN25 rfl) (op_neb Try.underlying4 (ev_hit hN25 rfl) (ev_hit hN25 rfl) ?_))
         refine op_move (ev_hit hN25 rfl) (g_true (j := 3) (dj := 96) (b := false) rfl rfl rfl (ev_hit hN25 rfl) ?_)
         refine op_move (ev_hit hN25 rfl) (g_true (j := 3) (dj := 96) (b := false) rfl rfl rfl (ev_hit hN25 rfl) (op_move (ev_hit hN25 rfl) (g_false (j := 5) (dj := 98) (b := true) rfl rfl rfl (ev_hit hN25 rfl) rfl rfl (g_false (j := 5) (dj := 98) (b := true) rfl rfl rfl (ev_hit hN25 rfl) rfl rfl (g_false (j := 5) (dj := 98) (b := true) rfl rfl rfl (ev_hit hN25 rfl) rfl rfl (g_false (j := 5) (dj := 98) (b := true) rfl rfl rfl (ev_hit hN25 rfl) rfl rfl ?_))))))
         refine g_false (j := 5) (dj := 98) (b := true) rfl rfl rfl (ev_hit hN25 rfl) rfl rfl (g_false (j := 5) (dj := 98) (b := true) rfl rfl rfl (ev_hit hN25 rfl) rfl rfl (g_false (j := 5) (dj := 98) (b := true) rfl rfl rfl (ev_hit hN25 rfl) rfl rfl (g_false (j := 5) (dj := 98) (b := true) rfl rfl rfl (ev_hit hN25 rfl) rfl rfl (g_false (j := 5) (dj := 98) (b := true) rfl rfl rfl (ev_hit hN25 rfl) rfl rfl (g_true (j := 3) (dj := 96) (b := false) rfl rfl rfl (ev_hit hN25 rfl) (op_pick_f (ev_hit hN25 rfl) rfl ?_))))))
         refine op_pick_f (ev_hit hN25 rfl) (ev_hit hN25 rfl) ?_
         refine op_move (ev_hit hN25 rfl) (g_true (j := 17) (dj := 110) (b := false) rfl rfl rfl (ev_hit hN25 rfl) (op_move (ev_hit hN25 rfl) (g_true (j := 17) (dj := 110) (b := false) rfl rfl rfl (ev_hit hN25 rfl) (op_not (ev_hit hN25 rfl) ?_))))
         refine g_true (j := 17) (dj := 110) (b := false) rfl rfl rfl (ev_hit hN25 rfl) ?_
         refine op_move (ev_hit hN25 rfl) (g_true (j := 20) (dj := 113) (b := true) rfl rfl rfl (ev_hit hN25 rfl) (op_move (ev_hit hN25 rfl) (g_true (j := 20) (dj := 113) (b := true) rfl rfl rfl (ev_hit hN25 rfl) (op_bin (v := .bool false) (ev_hit hN25 rfl) rfl (by rw [binOp_neq]; rfl) (g_true (j := 17) (dj := 110) (b := false) rfl rfl rfl (ev_hit hN25 rfl) (op_pick_t (ev_hit hN25 rfl) (ev_hit hN25 rfl) ?_))))))
         refine op_pick_f (ev_hit hN25 rfl) (ev_hit hN25 rfl) ?_
         refine reg_nil (hK132 _ _ (wp_cond_false (ev_hit hN25 rfl) (wp_skip (hK66 _ _ ?_))))
         exact hJ65 _ _ _ hN25 hd25 ⟨M, FT, FP, (sl_base hN25 rfl s25_0), (sl_base hN25 rfl s25_3), (sl_base hN25 rfl s25_4), (sl_base hN25 rfl s25_5), (sl_hit hN25 rfl), (Nat.le_succ_of_le hlM), hsh, hdj, dj37, dj38, dj59.symm, dj60.symm, hb, (by omega), hr, hks, hkx, hB36, hO56, hTM, hPM⟩
       ·
        refine op_assign (ev_hit hN25 rfl) (reg_nil (hK115 _ _ (wp_cond_false (ev_hit hN25 rfl) (seq_any fun K134 hK134 => ?_))))
        refine one_reg (op_move (ev_base hN25 rfl s25_4) (op_move (ev_base hN25 rfl s25_3) (op_move (ev_hit hN25 rfl) (op_field fld60_2 (ev_hit hN25 rfl) (op_load1 (v := (Value.int .i64 (L.getD i default).2.2)) one3 (ev_hit hN25 rfl) (hB36.cell rfl) (op_fn (vs := [(ptr b15 0), (ptr p10 0), v53, (Value.int .i64 (L.getD i default).2.2)]) ok32 ⟨(ev_hit hN25 rfl), ⟨(ev_hit hN25 rfl), ⟨(ev_hit hN25 rfl), ⟨(ev_hit hN25 rfl), trivial⟩⟩⟩⟩ (pairsScan (x := (L.getD i default).2.1.2) (m := (L.getD i default).2.2) hTM hPM (by omega) (fun q hq => Nat.le_trans (hsh q hq) (by decide)) (hO56.rdw.mono (Nat.zero_le _) (by omega)) (by omega) hmi) ?_))))))
        rintro _ w135 ⟨E136, rfl⟩
        have E136 := grown_of_below E136
        have z_w135 := E136.size
        have hr := hr.keep0 E136
        have hks := all9 hks fun _ h => h.keep0 E136
        have hTM := hTM.kz E136
        have hPM := hPM.kz E136
        have hkx := hkx.keep0 E136
        have hB36 := hB36.keep0 E136
        have hO56 := hO56.keep0 E136
        have hb := below_step0 hb E136 hb.size
        refine op_not (ev_hit hN25 rfl) ?_
        refine reg_nil (hK134 _ _ (wp_cond_false (ev_hit hN25 rfl) (wp_skip (hK66 _ _ ?_))))
        exact hJ65 _ _ _ hN25 hd25 ⟨M, FT, FP, (sl_base hN25 rfl s25_0), (sl_base hN25 rfl s25_3), (sl_base hN25 rfl s25_4), (sl_base hN25 rfl s25_5), (sl_hit hN25 rfl), (Nat.le_succ_of_le hlM), hsh, hdj, dj37, dj38, dj59.symm, dj60.symm, hb, (by omega), hr, hks, hkx, hB36, hO56, hTM, hPM⟩
    ·
     rintro a65 w65 hN65 hd65 ⟨M2, FT2, FP2, s65_0, s65_3, s65_4, s65_5, s65_7, hlM2, hsh2, hdj2, dj61, dj62, dj63, dj64, hb, zl_w65, hr, hks, hkx, hB36, hO56, hTM2, hPM2⟩
     have z_w65 := hb.size
     refine seq_any fun K137 hK137 => seq_any fun K138 hK138 => one_reg ?_
     skip
     refine op_assign rfl (reg_nil (hK138 _ _ (wp_block ?_)))
     refine loop_m (fun mz_ az_ w' => ∃ (n9 : Nat) (L9 : List UInt8), mz_ = L9.length - n9 ∧ (az_.tmps.getD 0 undef = vl) ∧ (az_.tmps.getD 3 undef = (ptr p10 0)) ∧ (az_.tmps.getD 4 undef = (ptr b15 0)) ∧ (az_.tmps.getD 5 undef = (Value.int .i64 ((i : Nat) : Int))) ∧ (az_.tmps.getD 7 undef = v53) ∧ (az_.tmps.getD 13 undef = (Value.int .i64 ((n9 : Nat) : Int))) ∧ (n9 ≤ L9.length) ∧ (L9.length ≤ 20) ∧ (Below w.heap.size w w') ∧ (w65.heap.size ≤ w'.heap.size) ∧ (RdC w' 0 w.heap.size 3 vl L.length (L.flatMap (fun (x9 : UInt8 × (Value × List UInt8) × Int) => [u8v x9.1, x9.2.1.1, .int .i64 x9.2.2]))) ∧ (∀ x9 ∈ (L.map (fun o => o.2.1)), RdC w' 0 w.heap.size 1 x9.1 x9.2.length (x9.2.map u8v)) ∧ (Bx w' b34 60 [(Value.int .u8 ((L.getD i default).1.toNat : Int)), (L.getD i default).2.1.1, (Value.int .i64 (L.getD i default).2.2)]) ∧ (TopL kI 71 w.heap.size w' p10 M2 FT2) ∧ (PairsR w.heap.size w' b15 M2 FP2) ∧ (Own w' w.heap.size 5 1 v53 L9.length (L9.map u8v))) _ hN65 hd65 ⟨0, (L.getD i default).2.1.2, rfl, (sl_base hN65 rfl s65_0), (sl_base hN65 rfl s65_3), (sl_base hN65 rfl s65_4), (sl_base hN65 rfl s65_5), (sl_base hN65 rfl s65_7), (sl_hit hN65 rfl), (Nat.zero_le _), (by omega), hb, (Nat.le_refl _), hr, hks, hB36, hTM2, hPM2, (hO56.cast (by simp) (by simp))⟩ ?_
     rintro _ a139 w139 hN139 hd139 ⟨n9, L9, rfl, s139_0, s139_3, s139_4, s139_5, s139_7, s139_13, hn9, hL9, hb, zl_w139, hr, hks, hB36, hTM2, hPM2, hO140⟩
     have z_w139 := hb.size
     refine seq_any fun K141 hK141 => seq_any fun K142 hK142 => one_reg (op_move (ev_base hN139 rfl s139_13) (op_move (ev_base hN139 rfl s139_7) (op_len_rd Try.underlying27 (ev_hit hN139 rfl) hO140.rdw ?_)))
     refine op_lss (ev_hit hN139 rfl) (ev_hit hN139 rfl) (fun c121 => ?_) (fun c121 => ?_)
     ·
      refine reg_nil (hK142 _ _ (wp_cond_true (ev_hit hN139 rfl) (wp_skip (hK141 _ _ (seq_any fun K143 hK143 => wp_block ?_)))))
      refine one_reg (op_move (ev_base hN139 rfl s139_7) (op_move (ev_base hN139 rfl s139_13) (op_index_rd slt27 (ev_hit hN139 rfl) hO140.rdw (ev_hit hN139 rfl) (by omega) (by omega) ?_)))
      intro b144 o145 h0b144 h1b144 hc146
      refine op_load1 (v := (Value.int .u8 ((L9.getD n9 0).toNat : Int))) one5 (ev_hit hN139 rfl) (by have := hc146 0 (Value.int .u8 ((L9.getD n9 0).toNat : Int)) (by decide) (el_u8 (i := n9) (by omega) (by omega)); simpa using this) (op_xor (r := ((L9.getD n9 0 ^^^ 85).toNat : Int)) (ev_hit hN139 rfl) rfl (xor85 _) ?_)
      refine op_index_own (i := n9) slt27 (ev_hit hN139 rfl) hO140 (ev_hit hN139 rfl) (by omega) (by omega) ?_
      intro b147 o148 lo_b147 hA149
      have hA149 : AtV v53 (n9) b147 o148 := by simpa using hA149
      have hP152 := hO140
      refine op_store_own (vs := [(Value.int .u8 ((L9.getD n9 0 ^^^ 85).toNat : Int))]) size5 (ev_hit hN139 rfl) (ev_hit hN139 rfl) rfl rfl rfl hP152 hA149 (by rw [hP152.1]; simp only [List.length_cons, List.length_nil]; omega) ?_
      intro w150 hO153 E151
      have z_w150 := E151.size
      have hr := hr.keepO hP152 E151 (by omega)
      have hks := all9 hks fun _ h => h.keepO hP152 E151 (by omega)
      have hB36 := hB36.keepO hP152 E151 (by decide)
      have hTM2 := hTM2.keepG (Gr.of E151) dj63.symm
      have hPM2 := hPM2.keepG (Gr.of E151) dj64.symm
      have hb := below_stepO hb hP152 E151 hb.size (by omega)
      have hO153 : Own w150 w.heap.size 5 1 v53 L9.length (((L9.set n9 (L9.getD n9 0 ^^^ 85))).map u8v) := by exact hO153.cast rfl (set_ints9 (f := u8v) (by omega))
      refine reg_nil (hK143 _ _ (one_reg (op_move (ev_base hN139 rfl s139_13) (op_add (ev_hit hN139 rfl) rfl (add64 (by omega)) ?_))))
      skip
      refine op_assign (ev_hit hN139 rfl) (reg_nil ?_)
      -- round 18F 25T 35F 121T
      exact loop_next _ hN139 hd139 ⟨(n9 + 1), (L9.set n9 (L9.getD n9 0 ^^^ 85)), rfl, (sl_base hN139 rfl s139_0), (sl_base hN139 rfl s139_3), (sl_base hN139 rfl s139_4), (sl_base hN139 rfl s139_5), (sl_base hN139 rfl s139_7), (sl_hit hN139 rfl).trans (congrArg (Value.int .i64) (by omega)), (by rw [List.length_set]; omega), (by rw [List.length_set]; exact hL9), hb, (by omega), hr, hks, hB36, hTM2, hPM2, (hO153.cast (by rw [List.length_set]) rfl)⟩ (by rw [List.length_set]; omega)
     ·
      refine reg_nil (hK142 _ _ (wp_cond_false (ev_hit hN139 rfl) (wp_exit (then_exit (then_exit (blk_hit ?_))))))
      refine hK137 _ _ (seq_any fun K154 hK154 => ?_)
      have hM9 : M2.length ≤ 200 := (by omega)
      obtain ⟨kq155, vq155, hbq155, hko155, hvo155, _, _⟩ := id hPM2
      have hkq155 := hko155.rdw
      have hvq155 := hvo155.rdw
      have hml155 : (M2.map Prod.fst).length = M2.length := List.length_map ..
      have hml165 : (M2.map Prod.snd).length = M2.length := List.length_map ..
      refine reg_split (hd := [_, _, _, _, _, _, _]) (tl := _) 7 mixed (by kernel_rfl) rfl rfl ?_
      refine any_env (φ := phiV [(fun uz => uz = (ptr p10 0)), (fun _ => True), (fun uz => uz = (ptr b15 0)), (fun uz => uz = (ptr b15 0)), (fun uz => uz = (ptr b15 0)), (fun uz => uz = kq155), (fun uz => uz = (Value.int .i64 (((M2.map Prod.fst).length : Nat) : Int)))]) (G := fun w' => RdC w' w.heap.size w139.heap.size 1 kq155 (M2.map Prod.fst).length ((M2.map Prod.fst).map sv) ∧ Bx w' b15 58 [kq155, vq155]) [1] (by kernel_rfl) (by kernel_rfl) (by kernel_rfl) (by kernel_rfl) hN139 (fun w1 w2 E h => by obtain ⟨h0, h1⟩ := h; exact ⟨h0.keep0 E, h1.keep0 E⟩) ⟨hkq155, hbq155⟩ (ObEs.cons ?_ (ObEs.pass rfl (ObEs.cons ?_ (ObEs.cons ?_ (ObEs.cons ?_ (ObEs.cons ?_ (ObEs.cons ?_ (ObEs.nil)))))))) (by simp only [putsL_defers]) ?_
      ·
       intro eA aA wA hNA hGA hbsA hdpA
       have qA_3 := (hbsA 3 rfl).trans (sl_base hN139 rfl s139_3)
       refine op_move (ev_base hNA rfl qA_3) ?_
       exact obE_end rfl rfl rfl
      ·
       intro eA aA wA hNA hGA hbsA hdpA
       have qA_4 := (hbsA 4 rfl).trans (sl_base hN139 rfl s139_4)
       refine op_move (ev_base hNA rfl qA_4) ?_
       exact obE_end rfl rfl rfl
      ·
       intro eA aA wA hNA hGA hbsA hdpA
       have qA_132 : Sl aA 132 (ptr b15 0) := (hdpA 2 _ 132 (by kernel_rfl) rfl rfl).2 rfl
       refine op_nil (ev_base hNA rfl qA_132) ?_
       exact obE_end rfl rfl rfl
      ·
       intro eA aA wA hNA hGA hbsA hdpA
       have qA_133 : Sl aA 133 (ptr b15 0) := (hdpA 3 _ 133 (by kernel_rfl) rfl rfl).2 rfl
       refine op_field fld58_0 (ev_base hNA rfl qA_133) ?_
       exact obE_end rfl rfl rfl
      ·
       intro eA aA wA hNA hGA hbsA hdpA
       have qA_134 : Sl aA 134 (ptr b15 0) := (hdpA 4 _ 134 (by kernel_rfl) rfl rfl).2 rfl
       obtain ⟨hkq155, hbq155⟩ := hGA
       refine op_load1 (v := kq155) one56 (ev_base hNA rfl qA_134) (hbq155.cell rfl) ?_
       exact obE_end rfl rfl rfl
      ·
       intro eA aA wA hNA hGA hbsA hdpA
       have qA_135 : Sl aA 135 kq155 := (hdpA 5 _ 135 (by kernel_rfl) rfl rfl).2 rfl
       obtain ⟨hkq155, hbq155⟩ := hGA
       refine op_len_rd Try.underlying56 (ev_base hNA rfl qA_135) hkq155 ?_
       exact obE_end rfl rfl rfl
      ·
       intro w156 E156 _ a156 hN156 hbs156 hdp156 o_ ho_; obtain rfl := Option.some.inj ho_
       have z_w156 := E156.size
       have hr := hr.keep0 E156
       have hks := all9 hks fun _ h => h.keep0 E156
       have hTM2 := hTM2.kz E156
       have hPM2 := hPM2.kz E156
       have hbq155 := hbq155.keep0 E156
       have hkq155 := hkq155.keep0 E156
       have hb := below_step0 hb E156 hb.size
       have q156_130 : Sl a156 130 (ptr p10 0) := (hdp156 0 _ 130 (by kernel_rfl) rfl rfl).2 rfl
       refine op_fn (vs := [(ptr p10 0)]) ok25 ⟨(ev_base hN156 rfl q156_130), trivial⟩ (lenLsI hTM2 (by omega)) ?_
       rintro _ w157 ⟨E158, rfl⟩
       have E158 := grown_of_below E158
       have z_w157 := E158.size
       have hr := hr.keep0 E158
       have hks := all9 hks fun _ h => h.keep0 E158
       have hTM2 := hTM2.kz E158
       have hPM2 := hPM2.kz E158
       have hbq155 := hbq155.keep0 E158
       have hkq155 := hkq155.keep0 E158
       have hb := below_step0 hb E158 hb.size
       refine ke_end rfl (by decide) rfl ⟨hkq155, hbq155⟩ ?_
       intro w159 E159 a159 hN159 hd159 hbs159 hph159
       have hd159 := hd159.trans ((by simp only [putsL_defers] : _ = _).trans hd139)
       have z_w159 := E159.size
       have hr := hr.keep0 E159
       have hks := all9 hks fun _ h => h.keep0 E159
       have hTM2 := hTM2.kz E159
       have hPM2 := hPM2.kz E159
       have hb := below_step0 hb E159 hb.size
       have s159_0 := (hbs159 0 rfl).trans (sl_base hN139 rfl s139_0)
       have s159_3 := (hbs159 3 rfl).trans (sl_base hN139 rfl s139_3)
       have s159_4 := (hbs159 4 rfl).trans (sl_base hN139 rfl s139_4)
       have s159_5 := (hbs159 5 rfl).trans (sl_base hN139 rfl s139_5)
       have s159_131 : Sl a159 131 (Value.int .i64 ((M2.length : Nat) : Int)) := (Option.some.inj ((hph159 1 _ 131 rfl rfl).1 0 rfl)).symm
       have s159_136 : Sl a159 136 (Value.int .i64 (((M2.map Prod.fst).length : Nat) : Int)) := (hph159 6 _ 136 rfl rfl).2 rfl
       refine split_end ?_
       refine from_seq (tl := [_, _, _, _, _, _]) (by decide) (by kernel_rfl) rfl ?_
       refine op_neq (ev_base hN159 rfl s159_131) (ev_base hN159 rfl s159_136) (fun c137 => ?_) (fun c137 => ?_)
       ·
        exfalso; omega
       ·
        refine op_move (ev_hit hN159 rfl) (g_true (j := 8) (dj := 138) (b := false) rfl rfl rfl (ev_hit hN159 rfl) (op_move (ev_base hN159 rfl s159_3) (g_true (j := 8) (dj := 138) (b := false) rfl rfl rfl (ev_hit hN159 rfl) (op_fn (vs := [(ptr p10 0)]) ok26 ⟨(ev_hit hN159 rfl), trivial⟩ (shapeLs hTM2 (by omega)) ?_))))
        rintro _ w160 ⟨E161, rfl⟩
        have E161 := grown_of_below E161
        have z_w160 := E161.size
        have hr := hr.keep0 E161
        have hks := all9 hks fun _ h => h.keep0 E161
        have hTM2 := hTM2.kz E161
        have hPM2 := hPM2.kz E161
        have hb := below_step0 hb E161 hb.size
        refine g_true (j := 8) (dj := 138) (b := false) rfl rfl rfl (ev_hit hN159 rfl) (op_not (ev_hit hN159 rfl) ?_)
        refine op_pick_f (ev_hit hN159 rfl) (ev_hit hN159 rfl) ?_
        refine reg_nil (hK154 _ _ (wp_cond_false (ev_hit hN159 rfl) (wp_skip (hK28 _ _ (one_reg ?_)))))
        skip
        refine op_move (ev_base hN159 rfl s159_5) (op_add (ev_hit hN159 rfl) rfl (add64 (by omega)) ?_)
        refine op_assign (ev_hit hN159 rfl) (reg_nil ?_)
        -- round 18F 25T 35F 121F 137F
        exact loop_next _ hN159 hd159 ⟨(i + 1), M2, FT2, FP2, rfl, (sl_base hN159 rfl s159_0), (sl_base hN159 rfl s159_3), (sl_base hN159 rfl s159_4), (sl_hit hN159 rfl).trans (congrArg (Value.int .i64) (by omega)), (by omega), hlM2, hsh2, hdj2, hb, (by omega), hr, hks, hTM2, hPM2⟩ (by omega)
  ·
   refine reg_nil (hK27 _ _ (wp_cond_false (ev_hit hN25 rfl) (wp_exit (then_exit (then_exit (blk_hit ?_))))))
   refine hK23 _ _ (seq_any fun K162 hK162 => one_reg (op_move (ev_base hN25 rfl s25_4) (op_move (ev_base hN25 rfl s25_3) (op_fn (vs := [(ptr b15 0), (ptr p10 0), (Value.slice none 0 0), (Value.int .i64 1000)]) ok32 ⟨(ev_hit hN25 rfl), ⟨(ev_hit hN25 rfl), ⟨rfl, ⟨rfl, trivial⟩⟩⟩⟩ (pairsScan (x := ([] : List UInt8)) (m := 1000) hTM hPM (by omega) (fun q hq => Nat.le_trans (hsh q hq) (by decide)) (RdC.nil _ _ _ _) (by decide) (by decide)) ?_))))
   rintro _ w163 ⟨E164, rfl⟩
   have E164 := grown_of_below E164
   have z_w163 := E164.size
   have hb := below_step0 hb E164 hb.size
   refine op_assign (ev_hit hN25 rfl) (reg_nil (hK162 _ _ (wp_ret ?_)))
   refine ret1 rfl hd25 (ev_hit hN25 rfl) ⟨_, rfl, ?_⟩
   exact ⟨hb, rfl⟩

end Go.Proofs.Ytcpfdfejojghbaa

namespace Go.Proofs.Ytcpfdfejojghbaa
open Go.Gx Go.RowKit
theorem rd_le {w : World} {L B sz n : Nat} {v : Value} {cs : List Value} (h : RdC w L B sz v n cs) : n ≤ 9223372036854775807 := by obtain ⟨_, _, _, _, hq, hm, _⟩ := h; exact Nat.le_trans hq hm
theorem cells5 : Try.prog.cellsOf 5 = 1 := by kernel_rfl
theorem flat_u8v (l : List UInt8) : l.flatMap (fun c => [u8v c]) = l.map u8v := by induction l with | nil => rfl | cons c l ih => simp [ih]
theorem dec27 {H : Type} {enc : TypeId × Value → H} {w : World} {base : Nat} {spare : Nat → Bool} {held : Bool} : Dec enc Try.prog w base spare held 27 (fun p : Value × List UInt8 => [p.1]) (fun p => RdC w 0 w.heap.size 1 p.1 p.2.length (p.2.map u8v)) :=
  (Dec.slice Try.underlying27 (by rw [cells5]; decide) (Dec.u8 Try.underlying5) (fun _ _ => by rw [cells5]; rfl)).map fun p hp => ⟨p, rfl, by have hq := hp.1; rwa [cells5, flat_u8v] at hq⟩
theorem cells60 : Try.prog.cellsOf 60 = 3 := by kernel_rfl
theorem cells27 : Try.prog.cellsOf 27 = 1 := by kernel_rfl
theorem cells3 : Try.prog.cellsOf 3 = 1 := by kernel_rfl
theorem len_3 {l : List Value} (h : l.length = 3) : ∃ c0 c1 c2, l = [c0, c1, c2] := by match l, h with | [c0, c1, c2], _ => exact ⟨c0, c1, c2, rfl⟩
theorem dec60 {H : Type} {enc : TypeId × Value → H} {w : World} {base : Nat} {spare : Nat → Bool} {held : Bool} : Dec enc Try.prog w base spare held 60 (fun p : (UInt8) × (Value × List UInt8) × (Int) => [u8v p.1, p.2.1.1, .int .i64 p.2.2]) (fun p => (RdC w 0 w.heap.size 1 p.2.1.1 p.2.1.2.length (p.2.1.2.map u8v)) ∧ (Lit.int .i64 p.2.2).wf = true) := by
  intro fuel cs x h
  obtain ⟨xs, n, _, _, hl, hlen, hf⟩ := DataW.trod_struct Try.underlying60 h
  rw [cells60] at hl
  obtain ⟨c0, c1, c2, rfl⟩ := len_3 hl
  have hl4 : xs.length = 3 := hlen
  have g0 : DataW.trod enc Try.prog w base spare held n 5 (([c0, c1, c2].drop 0).take (Try.prog.cellsOf 5)) = some xs[0] := (hf 0 _ rfl).trans (List.getElem?_eq_getElem (by omega))
  have g1 : DataW.trod enc Try.prog w base spare held n 27 (([c0, c1, c2].drop 1).take (Try.prog.cellsOf 27)) = some xs[1] := (hf 1 _ rfl).trans (List.getElem?_eq_getElem (by omega))
  have g2 : DataW.trod enc Try.prog w base spare held n 3 (([c0, c1, c2].drop 2).take (Try.prog.cellsOf 3)) = some xs[2] := (hf 2 _ rfl).trans (List.getElem?_eq_getElem (by omega))
  obtain ⟨b0, e0, w0⟩ := (Dec.u8 Try.underlying5) _ _ _ g0
  obtain ⟨b1, e1, w1⟩ := dec27 _ _ _ g1
  obtain ⟨b2, e2, w2⟩ := (Dec.int Try.underlying3) _ _ _ g2
  simp only [cells5, cells27, cells3, List.drop_zero, List.drop_succ_cons, List.take_succ_cons, List.take_zero, List.cons.injEq, and_true] at e0 e1 e2
  clear hf h g0 g1 g2
  obtain rfl := e0
  obtain rfl := e1
  obtain rfl := e2
  exact ⟨⟨b0, b1, b2⟩, rfl, ⟨w1, w2⟩⟩
theorem dec54 {H : Type} {enc : TypeId × Value → H} {w : World} {base : Nat} {spare : Nat → Bool} {held : Bool} : Dec enc Try.prog w base spare held 54 (fun p : Value × List ((UInt8) × (Value × List UInt8) × (Int)) => [p.1]) (fun p => RdC w 0 w.heap.size 3 p.1 p.2.length (p.2.flatMap (fun (x9 : (UInt8) × (Value × List UInt8) × (Int)) => [u8v x9.1, x9.2.1.1, .int .i64 x9.2.2])) ∧ ∀ x ∈ p.2, ((RdC w 0 w.heap.size 1 x.2.1.1 x.2.1.2.length (x.2.1.2.map u8v)) ∧ (Lit.int .i64 x.2.2).wf = true)) :=
  (Dec.slice Try.underlying54 (by rw [cells60]; decide) dec60 (fun _ _ => by rw [cells60]; rfl)).map fun p hp => ⟨p, rfl, by have hq := hp.1; rw [cells60] at hq; exact hq, hp.2⟩
end Go.Proofs.Ytcpfdfejojghbaa
