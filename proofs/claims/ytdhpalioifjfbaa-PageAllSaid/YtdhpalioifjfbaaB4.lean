/- Walks, written by a program: what each function of the translation hands back. -/
import Derived.Test.YtdhpalioifjfbaaProg
import Derived.KernelRfl
import Derived.Test.YtdhpalioifjfbaaB3
namespace Go.Proofs.Ytdhpalioifjfbaa
open Go.Gx Go.RowKit
attribute [local irreducible] wpList wpStill Code.wp Calls

set_option maxHeartbeats 2000000 in
theorem same_ret (L : List By) (bs : By) (n : Nat) (vb : Value) (base p : Nat) (w : World) (hbase : base ≤ w.heap.size) (hx : Bx w p 50 [vb]) (O : Own w base 5 1 vb n (bs.map u8v)) (hP : Pg n bs L vb) (A : List ByV) (sv : Value) (sb ob s : Nat) (hA : A.length ≤ 1000 ∧ sumL (A.map Prod.snd) ≤ 1000000) (hs : Bx w s 40 [sv]) (OS : Own w sb 22 1 sv A.length (A.flatMap (fun x9 => [x9.1]))) (hall : ∀ x9 ∈ A, Own w ob 5 1 x9.1 x9.2.length (x9.2.map u8v)) (hno : ∀ x9 ∈ A, NO x9.1 x9.2) (hAL : A.map Prod.snd = L) (hda : ∀ x9 ∈ A, DJ x9.1 vb) : Ret Try.prog 24 #[(ptr p 0), (ptr s 0)] w (fun v' w' => w.grownBy w' (pgRow p n vb) ∧ v' = .bool true ∧ ∃ u n' bs', Bx w' p 50 [u] ∧ Own w' base 5 1 u n' (bs'.map u8v) ∧ Pg n' bs' (L) u ∧ RowP p n' u (pgRow p n vb) w.heap.size) := by
 have hb := grown_refl w (pgRow p n vb)
 refine enter (N := 94) Try.func24 rfl rfl (by simp) fun a0 hN hd hA => ?_
 have s0 : a0.tmps.getD 0 undef = (ptr p 0) := hA 0 (by simp)
 have s1 : a0.tmps.getD 1 undef = (ptr s 0) := hA 1 (by simp)
 clear hA
 refine seq_any fun K1 hK1 => ?_
 refine one_reg ?_
 refine op_assign rfl ?_
 refine reg_nil ?_
 refine hK1 _ _ ?_
 refine seq_any fun K2 hK2 => ?_
 refine one_reg ?_
 refine op_move (ev_base hN rfl s0) ?_
 refine op_fn (vs := [(ptr p 0)]) ok12 ⟨(ev_hit hN rfl), trivial⟩ (slots_ret L bs n _ _ _ _ (by omega) hx O hP ) ?_
 rintro v3 w5 ⟨E6, _, rfl, hO3, u4, n4, bs4, hx4, hO4, hP4, ro4⟩
 have dja7 : ∀ x9 ∈ A, DJ x9.1 u4 := fun x9 hx9 => DJ.stepP ro4.ro (hda x9 hx9) ((hall x9 hx9).neB hx (by decide)) (fun k hk => ((hall x9 hx9).lt k hk).2)
 have hs := hs.keepP hx O E6 (by decide) (by decide)
 have OS := OS.keepP hx O E6 (by decide) (.inl (by decide))
 have hall : ∀ x9 ∈ A, Own w5 ob 5 1 x9.1 x9.2.length (x9.2.map u8v) := fun x9 hx9 => (hall x9 hx9).keepP hx O E6 (by decide) (.inr (hda x9 hx9))
 have z_w5 := E6.size
 have hb := grow_stepRP hb E6 hP.rowP
 have pr4 : RowP p n4 u4 (pgRow p n vb) w.heap.size := RowP.trans ro4 hP.rowP (by omega)
 have hO3 := hO3.mono (base' := w.heap.size) (by omega)
 have hfi_4 := hP4.fits
 have hsl_3 := slotsI_len L L.length
 refine op_assign (ev_hit hN rfl) ?_
 refine reg_nil ?_
 refine hK2 _ _ ?_
 refine seq_any fun K8 hK8 => ?_
 refine one_reg ?_
 refine op_assign rfl ?_
 refine reg_nil ?_
 refine hK8 _ _ ?_
 refine seq_any fun K9 hK9 => ?_
 refine seq_any fun K10 hK10 => ?_
 refine one_reg ?_
 refine op_assign rfl ?_
 refine reg_nil ?_
 refine hK10 _ _ ?_
 refine wp_block ?_
 refine loop_m (fun mz_ az_ w' => ∃ (j : Nat) (ua : Value) (na : Nat) (bsa : By), mz_ = (A.length + 2 - j) ∧ (az_.tmps.getD 0 undef = (ptr p 0)) ∧ (az_.tmps.getD 1 undef = (ptr s 0)) ∧ (az_.tmps.getD 5 undef = v3) ∧ (az_.tmps.getD 7 undef = (Value.int .i64 (((j : Nat) : Int) - 1))) ∧ (az_.tmps.getD 6 undef = (Value.int .i64 (((slotsI L (j - 1)).length : Nat) : Int))) ∧ (j ≤ A.length + 2) ∧ (Pg na bsa L ua) ∧ (∀ x9 ∈ A, DJ x9.1 ua) ∧ (RowP p na ua (pgRow p n vb) w.heap.size) ∧ (w.grownBy w' (pgRow p n vb)) ∧ (w5.heap.size ≤ w'.heap.size) ∧ (Bx w' s 40 [sv]) ∧ (Own w' sb 22 1 sv A.length (A.flatMap (fun x9 => [x9.1]))) ∧ (∀ x9 ∈ A, Own w' ob 5 1 x9.1 x9.2.length (x9.2.map u8v)) ∧ (Own w' w.heap.size 3 1 v3 (slotsI L L.length).length ((slotsI L L.length).map (Value.int .i64))) ∧ (Bx w' p 50 [ua]) ∧ (Own w' base 5 1 ua na (bsa.map u8v))) _ hN hd ⟨0, u4, n4, bs4, rfl, (sl_base hN rfl s0), (sl_base hN rfl s1), (sl_hit hN rfl), (sl_hit hN rfl), (sl_hit hN rfl), Nat.zero_le _, hP4, dja7, pr4, hb, (Nat.le_refl _), hs, OS, hall, hO3, hx4, hO4⟩ ?_
 rintro _ a11 w11 hN11 hd11 ⟨j, ua, na, bsa, rfl, s11_0, s11_1, s11_5, s11_7, s11_6, hj, hPa, djaa_hall, pra, hb, zl_w11, hs, OS, hall, hO3, hxa, hO12⟩
 have z_w11 := hb.size
 refine seq_any fun K13 hK13 => ?_
 refine seq_any fun K14 hK14 => ?_
 refine one_reg ?_
 have hAl : A.length = L.length := by rw [← hAL, List.length_map]
 refine op_move (ev_base hN11 rfl s11_7) ?_
 refine op_move (ev_base hN11 rfl s11_1) ?_
 refine op_nil (ev_hit hN11 rfl) ?_
 refine op_field fld40_0 (ev_hit hN11 rfl) ?_
 refine op_load1 (v := sv) one38 (ev_hit hN11 rfl) (hs.cell rfl) ?_
 refine op_len_rd Try.underlying38 (ev_hit hN11 rfl) OS.rdw ?_
 refine op_leq (ev_hit hN11 rfl) (ev_hit hN11 rfl) (fun c18 => ?_) (fun c18 => ?_)
 · -- 18T
  refine reg_nil ?_
  refine hK14 _ _ ?_
  refine wp_cond_true (ev_hit hN11 rfl) ?_
  refine wp_skip ?_
  refine hK13 _ _ ?_
  refine seq_any fun K15 hK15 => ?_
  refine wp_block ?_
  refine seq_any fun K16 hK16 => ?_
  refine one_reg ?_
  refine op_move (ev_base hN11 rfl s11_0) ?_
  refine op_move (ev_base hN11 rfl s11_7) ?_
  refine op_fn (vs := [(ptr p 0), (Value.int .i64 (((j : Nat) : Int) - 1))]) ok15 ⟨(ev_hit hN11 rfl), ⟨(ev_hit hN11 rfl), trivial⟩⟩ (get_ret L bsa na _ _ _ _ (by omega) hxa hO12 hPa (((j : Nat) : Int) - 1) (by omega)) ?_
  rintro _ w19 ⟨E20, v17, rfl, hO17, u18, n18, bs18, hx18, hO18, hP18, ro18, dx18⟩
  have dja21 : ∀ x9 ∈ A, DJ x9.1 v17 := fun x9 hx9 k hk hg => by have q1 := ((hall x9 hx9).lt k hk).2; have q2 := (hO17.lt k hg).1; omega
  have dj22 : DJ v17 ua := fun k hk hg => by have q1 := (hO17.lt k hk).1; have q2 := (hO12.lt k hg).2; omega
  have dja23 : ∀ x9 ∈ A, DJ x9.1 u18 := fun x9 hx9 => DJ.stepP ro18.ro (djaa_hall x9 hx9) ((hall x9 hx9).neB hxa (by decide)) (fun k hk => ((hall x9 hx9).lt k hk).2)
  have hs := hs.keepP hxa hO12 E20 (by decide) (by decide)
  have OS := OS.keepP hxa hO12 E20 (by decide) (.inl (by decide))
  have hall : ∀ x9 ∈ A, Own w19 ob 5 1 x9.1 x9.2.length (x9.2.map u8v) := fun x9 hx9 => (hall x9 hx9).keepP hxa hO12 E20 (by decide) (.inr (djaa_hall x9 hx9))
  have hO3 := hO3.keepP hxa hO12 E20 (by decide) (.inl (by decide))
  have z_w19 := E20.size
  have hb := grow_stepRP hb E20 pra
  have pr18 : RowP p n18 u18 (pgRow p n vb) w.heap.size := RowP.trans ro18 pra (by omega)
  have hO17 := hO17.mono (base' := w.heap.size) (by omega)
  have hfi_18 := hP18.fits
  refine op_move (ev_hit hN11 rfl) ?_
  refine op_extract (ev_hit hN11 rfl) rfl ?_
  refine op_extract (ev_hit hN11 rfl) rfl ?_
  refine op_assign (ev_hit hN11 rfl) ?_
  refine op_assign (ev_hit hN11 rfl) ?_
  refine reg_nil ?_
  refine hK16 _ _ ?_
  refine seq_any fun K24 hK24 => ?_
  refine seq_any fun K25 hK25 => ?_
  refine one_reg ?_
  refine op_move (ev_hit hN11 rfl) ?_
  refine op_eql (ev_hit hN11 rfl) rfl (fun c28 => ?_) (fun c28 => ?_)
  · -- 28T
   refine op_move (ev_base hN11 rfl s11_1) ?_
   refine op_move (ev_base hN11 rfl s11_7) ?_
   refine op_fn (vs := [(ptr s 0), (Value.int .i64 (((j : Nat) : Int) - 1))]) ok18 ⟨(ev_hit hN11 rfl), ⟨(ev_hit hN11 rfl), trivial⟩⟩ (shas_ret A _ _ _ _ _ hA hs OS hall hno (((j : Nat) : Int) - 1) (by omega)) ?_
   rintro _ w26 ⟨E27, rfl⟩
   have E27 := grown_of_below E27
   have z_w26 := E27.size
   have hs := hs.keep0 E27
   have OS := OS.keep0 E27
   have hall : ∀ x9 ∈ A, Own w26 ob 5 1 x9.1 x9.2.length (x9.2.map u8v) := fun x9 hx9 => (hall x9 hx9).keep0 E27
   have hO3 := hO3.keep0 E27
   have hO17 := hO17.keep0 E27
   have hx18 := hx18.keep0 E27
   have hO18 := hO18.keep0 E27
   have hb := grow_step0 hb E27
   rcases Bool.eq_false_or_eq_true ((decide (sizeL (A.map Prod.snd) (((j : Nat) : Int) - 1) ≠ 0))) with c31 | c31
   · -- 31T
    rw [c31]
    refine op_neb Try.underlying4 (ev_hit hN11 rfl) (ev_hit hN11 rfl) ?_
    refine op_move (ev_hit hN11 rfl) ?_
    refine g_true (j := 6) (dj := 33) (b := false) rfl rfl rfl (ev_hit hN11 rfl) ?_
    refine op_move (ev_hit hN11 rfl) ?_
    refine g_true (j := 6) (dj := 33) (b := false) rfl rfl rfl (ev_hit hN11 rfl) ?_
    refine op_neq (ev_hit hN11 rfl) rfl (fun c35 => ?_) (fun c35 => ?_)
    · -- 35T
     exfalso; omega
    · -- 35F
     refine g_true (j := 6) (dj := 33) (b := false) rfl rfl rfl (ev_hit hN11 rfl) ?_
     refine op_move (ev_hit hN11 rfl) ?_
     refine g_false (j := 9) (dj := 36) (b := true) rfl rfl rfl (ev_hit hN11 rfl) rfl rfl ?_
     refine g_false (j := 9) (dj := 36) (b := true) rfl rfl rfl (ev_hit hN11 rfl) rfl rfl ?_
     refine g_false (j := 9) (dj := 36) (b := true) rfl rfl rfl (ev_hit hN11 rfl) rfl rfl ?_
     refine g_undef (j := 12) (dj := 39) (b := false) rfl rfl rfl (ev_hit hN11 rfl) rfl ?_
     refine g_undef (j := 12) (dj := 39) (b := false) rfl rfl rfl (ev_hit hN11 rfl) rfl ?_
     refine g_undef (j := 12) (dj := 39) (b := false) rfl rfl rfl (ev_hit hN11 rfl) rfl ?_
     refine g_false (j := 9) (dj := 36) (b := true) rfl rfl rfl (ev_hit hN11 rfl) rfl rfl ?_
     refine g_true (j := 6) (dj := 33) (b := false) rfl rfl rfl (ev_hit hN11 rfl) ?_
     refine op_pick_f (ev_hit hN11 rfl) rfl ?_
     refine op_pick_f (ev_hit hN11 rfl) (ev_hit hN11 rfl) ?_
     refine reg_nil ?_
     refine hK25 _ _ ?_
     refine wp_cond_false (ev_hit hN11 rfl) ?_
     refine wp_skip ?_
     refine hK24 _ _ ?_
     refine seq_any fun K28 hK28 => ?_
     refine seq_any fun K29 hK29 => ?_
     refine one_reg ?_
     refine op_move (ev_hit hN11 rfl) ?_
     refine op_neq (ev_hit hN11 rfl) rfl (fun c47 => ?_) (fun c47 => ?_)
     · -- 47T
      exfalso; omega
     · -- 47F
      refine reg_nil ?_
      refine hK29 _ _ ?_
      refine wp_cond_false (ev_hit hN11 rfl) ?_
      refine wp_skip ?_
      refine hK28 _ _ ?_
      refine seq_any fun K30 hK30 => ?_
      refine seq_any fun K31 hK31 => ?_
      have hz9 : sizeL L (((j : Nat) : Int) - 1) ≠ 0 := by have h9 := of_decide_eq_true c31; rw [hAL] at h9; exact h9
      have hst := slots_step1 hz9
      have hsa := slots_at hst.2.1 hst.2.2.2
      have hAl : A.length = L.length := by rw [← hAL, List.length_map]
      have hgl : getL L (((j : Nat) : Int) - 1) = (A.getD (j - 1) D0).2 := by rw [getL_in hz9, show ((((j : Nat) : Int) - 1)).toNat = j - 1 by omega, ← hAL]; exact map_get (by omega)
      refine reg_still mixed (by kernel_rfl) ?_
      intro w33 E32
      have z_w33 := E32.size
      have hs := hs.keep0 E32
      have OS := OS.keep0 E32
      have hall : ∀ x9 ∈ A, Own w33 ob 5 1 x9.1 x9.2.length (x9.2.map u8v) := fun x9 hx9 => (hall x9 hx9).keep0 E32
      have hO3 := hO3.keep0 E32
      have hO17 := hO17.keep0 E32
      have hx18 := hx18.keep0 E32
      have hO18 := hO18.keep0 E32
      have hb := grow_step0 hb E32
      refine st_step rfl (fun _ h9 => op_move (ev_base hN11 rfl s11_6) h9) ?_
      refine st_step rfl (fun _ h9 => op_move (ev_base hN11 rfl s11_5) h9) ?_
      refine st_step rfl (fun _ h9 => op_len_rd Try.underlying29 (ev_hit hN11 rfl) hO3.rdw h9) ?_
      by_cases g51 : (((slotsI L L.length).length : Nat) : Int) ≤ (((slotsI L (j - 1)).length : Nat) : Int)
      · -- 51T
       exfalso; omega
      · -- 51F
       refine st_step rfl (fun _ h9 => op_cmp (b := false) (ev_hit hN11 rfl) (ev_hit hN11 rfl) (b_geq (decide_eq_false g51)) h9) ?_
       refine st_step rfl (fun _ h9 => op_move (ev_hit hN11 rfl) h9) ?_
       refine st_g_true (j := 4) (dj := 52) (b := false) rfl rfl rfl (ev_hit hN11 rfl) ?_
       refine st_step rfl (fun _ h9 => op_move (ev_base hN11 rfl s11_5) h9) ?_
       refine st_g_true (j := 4) (dj := 52) (b := false) rfl rfl rfl (ev_hit hN11 rfl) ?_
       refine st_step rfl (fun _ h9 => op_move (ev_base hN11 rfl s11_6) h9) ?_
       refine st_g_true (j := 4) (dj := 52) (b := false) rfl rfl rfl (ev_hit hN11 rfl) ?_
       refine st_index_rd slt29 (ev_hit hN11 rfl) hO3.rdw (ev_hit hN11 rfl) (by omega) (by omega) ?_
       intro b34 o35 h0b34 h1b34 hc36
       refine st_g_true (j := 4) (dj := 52) (b := false) rfl rfl rfl (ev_hit hN11 rfl) ?_
       refine st_step rfl (fun _ h9 => op_load1 (v := (Value.int .i64 ((slotsI L L.length).getD ((slotsI L (j - 1)).length) 0))) one3 (ev_hit hN11 rfl) (by have := hc36 0 (Value.int .i64 ((slotsI L L.length).getD ((slotsI L (j - 1)).length) 0)) (by decide) (el_i64 (i := ((slotsI L (j - 1)).length)) (by omega) (by omega)); simpa using this) h9) ?_
       refine st_g_true (j := 4) (dj := 52) (b := false) rfl rfl rfl (ev_hit hN11 rfl) ?_
       refine st_step rfl (fun _ h9 => op_move (ev_base hN11 rfl s11_7) h9) ?_
       refine st_g_true (j := 4) (dj := 52) (b := false) rfl rfl rfl (ev_hit hN11 rfl) ?_
       by_cases g58 : ((slotsI L L.length).getD ((slotsI L (j - 1)).length) 0) ≠ (((j : Nat) : Int) - 1)
       · -- 58T
        exfalso; omega
       · -- 58F
        refine st_step rfl (fun _ h9 => op_cmp (b := false) (ev_hit hN11 rfl) (ev_hit hN11 rfl) (b_neq (decide_eq_false g58)) h9) ?_
        refine st_step rfl (fun _ h9 => op_pick_f (ev_hit hN11 rfl) (ev_hit hN11 rfl) h9) ?_
        refine st_step rfl (fun _ h9 => op_move (ev_hit hN11 rfl) h9) ?_
        refine st_g_true (j := 12) (dj := 60) (b := false) rfl rfl rfl (ev_hit hN11 rfl) ?_
        refine st_step rfl (fun _ h9 => op_move (ev_hit hN11 rfl) h9) ?_
        refine st_g_true (j := 12) (dj := 60) (b := false) rfl rfl rfl (ev_hit hN11 rfl) ?_
        refine st_step rfl (fun _ h9 => op_str_of (bl := (getL L (((j : Nat) : Int) - 1))) Try.underlying22 Try.underlying5 Try.underlying9 (ev_hit hN11 rfl) hO17.rdw h9) ?_
        refine st_g_true (j := 12) (dj := 60) (b := false) rfl rfl rfl (ev_hit hN11 rfl) ?_
        refine st_step rfl (fun _ h9 => op_move (ev_base hN11 rfl s11_1) h9) ?_
        refine st_g_true (j := 12) (dj := 60) (b := false) rfl rfl rfl (ev_hit hN11 rfl) ?_
        refine st_step rfl (fun _ h9 => op_nil (ev_hit hN11 rfl) h9) ?_
        refine st_g_true (j := 12) (dj := 60) (b := false) rfl rfl rfl (ev_hit hN11 rfl) ?_
        refine st_step rfl (fun _ h9 => op_field fld40_0 (ev_hit hN11 rfl) h9) ?_
        refine st_g_true (j := 12) (dj := 60) (b := false) rfl rfl rfl (ev_hit hN11 rfl) ?_
        refine st_step rfl (fun _ h9 => op_load1 (v := sv) one38 (ev_hit hN11 rfl) (hs.cell rfl) h9) ?_
        refine st_g_true (j := 12) (dj := 60) (b := false) rfl rfl rfl (ev_hit hN11 rfl) ?_
        refine st_step rfl (fun _ h9 => op_move ((ev_base hN11 rfl s11_7).trans (congrArg (Value.int .i64) (show _ = ((j - 1 : Nat) : Int) by omega))) h9) ?_
        refine st_g_true (j := 12) (dj := 60) (b := false) rfl rfl rfl (ev_hit hN11 rfl) ?_
        refine st_index_rd slt38 (ev_hit hN11 rfl) OS.rdw (ev_hit hN11 rfl) (by omega) (by omega) ?_
        intro b37 o38 h0b37 h1b37 hc39
        refine st_g_true (j := 12) (dj := 60) (b := false) rfl rfl rfl (ev_hit hN11 rfl) ?_
        have hs40 : Own w33 ob 5 1 (A.getD (j - 1) D0).1 (A.getD (j - 1) D0).2.length ((A.getD (j - 1) D0).2.map u8v) := hall _ (getD_mem (by omega))
        refine st_step rfl (fun _ h9 => op_load1 (v := (A.getD (j - 1) D0).1) one22 (ev_hit hN11 rfl) (by have := hc39 0 (A.getD (j - 1) D0).1 (by decide) (el_ll (i := (j - 1)) (d := D0) (by omega) (by omega)); simpa using this) h9) ?_
        refine st_g_true (j := 12) (dj := 60) (b := false) rfl rfl rfl (ev_hit hN11 rfl) ?_
        refine st_step rfl (fun _ h9 => op_str_of (bl := (A.getD (j - 1) D0).2) Try.underlying22 Try.underlying5 Try.underlying9 (ev_hit hN11 rfl) hs40.rdw h9) ?_
        refine st_g_true (j := 12) (dj := 60) (b := false) rfl rfl rfl (ev_hit hN11 rfl) ?_
        refine st_step rfl (fun _ h9 => op_sneqb (b := (decide ((getL L (((j : Nat) : Int) - 1)) ≠ (A.getD (j - 1) D0).2))) (ev_hit hN11 rfl) (ev_hit hN11 rfl) rfl h9) ?_
        refine st_step rfl (fun _ h9 => op_pick_f (ev_hit hN11 rfl) (ev_hit hN11 rfl) h9) ?_
        refine st_nil ?_
        refine hK31 _ _ ?_
        refine wp_cond_split (ev_hit hN11 rfl) (fun c72 => ?_) (fun c72 => ?_)
        · -- 72T
         have c72 := of_decide_eq_true c72
         exact absurd hgl c72
        · -- 72F
         have c72 := of_decide_eq_false c72
         refine wp_skip ?_
         refine hK30 _ _ ?_
         refine seq_any fun K41 hK41 => ?_
         refine one_reg ?_
         refine op_move (ev_base hN11 rfl s11_6) ?_
         refine op_add (ev_hit hN11 rfl) rfl (add64 (by omega)) ?_
         refine op_assign (ev_hit hN11 rfl) ?_
         refine reg_nil ?_
         refine hK41 _ _ ?_
         refine one_reg ?_
         refine op_move (ev_hit hN11 rfl) ?_
         refine op_fn (vs := [v17]) ok23 ⟨(ev_hit hN11 rfl), trivial⟩ (Spoil_ret v17 _ _ _ _ hO17) ?_
         rintro _ w42 ⟨E43, rfl⟩
         have z_w42 := E43.size
         have hs := hs.keepO hO17 E43 (by decide)
         have OS := OS.keepT hO17 E43 (by decide)
         have hall : ∀ x9 ∈ A, Own w42 ob 5 1 x9.1 x9.2.length (x9.2.map u8v) := fun x9 hx9 => (hall x9 hx9).keepD E43 (dja21 x9 hx9)
         have hO3 := hO3.keepT hO17 E43 (by decide)
         have hx18 := hx18.keepO hO17 E43 (by decide)
         have hO18 := hO18.keepD E43 dx18.symm
         have hb := grow_stepO hb hO17 E43 (by omega)
         refine reg_nil ?_
         refine hK15 _ _ ?_
         refine one_reg ?_
         refine op_move (ev_base hN11 rfl s11_7) ?_
         refine op_add (ev_hit hN11 rfl) rfl (add64 (by omega)) ?_
         refine op_assign (ev_hit hN11 rfl) ?_
         refine reg_nil ?_
         -- round 18T 28T 31T 35F 47F 51F 58F 72F
         exact loop_next _ hN11 hd11 ⟨(j + 1), u18, n18, bs18, rfl, (sl_base hN11 rfl s11_0), (sl_base hN11 rfl s11_1), (sl_base hN11 rfl s11_5), (sl_hit hN11 rfl).trans (congrArg (Value.int .i64) (by omega)), (sl_hit hN11 rfl).trans (congrArg (Value.int .i64) (by have h7 := (slots_step1 (L := L) (j := j) (by have h9 := of_decide_eq_true c31; rw [hAL] at h9; exact h9)).2.2.1; rw [Nat.add_sub_cancel]; omega)), (by omega), hP18, dja23, pr18, hb, (by omega), hs, OS, hall, hO3, hx18, hO18⟩ (by omega)
   · -- 31F
    exact absurd c28 (by rw [(drop_none (L := L) (by have h9 := of_decide_eq_false c31; rw [hAL] at h9; omega)).1]; decide)
  · -- 28F
   refine op_move (ev_base hN11 rfl s11_1) ?_
   refine op_move (ev_base hN11 rfl s11_7) ?_
   refine op_fn (vs := [(ptr s 0), (Value.int .i64 (((j : Nat) : Int) - 1))]) ok18 ⟨(ev_hit hN11 rfl), ⟨(ev_hit hN11 rfl), trivial⟩⟩ (shas_ret A _ _ _ _ _ hA hs OS hall hno (((j : Nat) : Int) - 1) (by omega)) ?_
   rintro _ w44 ⟨E45, rfl⟩
   have E45 := grown_of_below E45
   have z_w44 := E45.size
   have hs := hs.keep0 E45
   have OS := OS.keep0 E45
   have hall : ∀ x9 ∈ A, Own w44 ob 5 1 x9.1 x9.2.length (x9.2.map u8v) := fun x9 hx9 => (hall x9 hx9).keep0 E45
   have hO3 := hO3.keep0 E45
   have hO17 := hO17.keep0 E45
   have hx18 := hx18.keep0 E45
   have hO18 := hO18.keep0 E45
   have hb := grow_step0 hb E45
   rcases Bool.eq_false_or_eq_true ((decide (sizeL (A.map Prod.snd) (((j : Nat) : Int) - 1) ≠ 0))) with c31 | c31
   · -- 31T
    exact absurd (drop_ok (L := L) (by have h9 := of_decide_eq_true c31; rw [hAL] at h9; exact h9)).1 c28
   · -- 31F
    rw [c31]
    refine op_neb Try.underlying4 (ev_hit hN11 rfl) (ev_hit hN11 rfl) ?_
    refine op_move (ev_hit hN11 rfl) ?_
    refine g_true (j := 6) (dj := 33) (b := false) rfl rfl rfl (ev_hit hN11 rfl) ?_
    refine op_move (ev_hit hN11 rfl) ?_
    refine g_true (j := 6) (dj := 33) (b := false) rfl rfl rfl (ev_hit hN11 rfl) ?_
    refine op_neq (ev_hit hN11 rfl) rfl (fun c35 => ?_) (fun c35 => ?_)
    · -- 35T
     refine g_true (j := 6) (dj := 33) (b := false) rfl rfl rfl (ev_hit hN11 rfl) ?_
     refine op_move (ev_hit hN11 rfl) ?_
     refine g_true (j := 9) (dj := 36) (b := true) rfl rfl rfl (ev_hit hN11 rfl) ?_
     refine op_move (ev_hit hN11 rfl) ?_
     refine g_true (j := 9) (dj := 36) (b := true) rfl rfl rfl (ev_hit hN11 rfl) ?_
     refine op_neq (ev_hit hN11 rfl) rfl (fun c38 => ?_) (fun c38 => ?_)
     · -- 38T
      exfalso; have := drop_val L (((j : Nat) : Int) - 1); omega
     · -- 38F
      refine g_true (j := 9) (dj := 36) (b := true) rfl rfl rfl (ev_hit hN11 rfl) ?_
      refine op_move (ev_hit hN11 rfl) ?_
      refine g_true (j := 12) (dj := 39) (b := false) rfl rfl rfl (ev_hit hN11 rfl) ?_
      refine op_move (ev_hit hN11 rfl) ?_
      refine g_true (j := 12) (dj := 39) (b := false) rfl rfl rfl (ev_hit hN11 rfl) ?_
      refine op_len_rd Try.underlying22 (ev_hit hN11 rfl) hO17.rdw ?_
      refine g_true (j := 12) (dj := 39) (b := false) rfl rfl rfl (ev_hit hN11 rfl) ?_
      refine op_gtr (ev_hit hN11 rfl) rfl (fun c42 => ?_) (fun c42 => ?_)
      · -- 42T
       exfalso; have h9 := of_decide_eq_false c31; rw [hAL] at h9; have h8 := getL_len L (((j : Nat) : Int) - 1); omega
      · -- 42F
       refine g_true (j := 9) (dj := 36) (b := true) rfl rfl rfl (ev_hit hN11 rfl) ?_
       refine op_pick_f (ev_hit hN11 rfl) (ev_hit hN11 rfl) ?_
       refine g_true (j := 6) (dj := 33) (b := false) rfl rfl rfl (ev_hit hN11 rfl) ?_
       refine op_pick_t (ev_hit hN11 rfl) (ev_hit hN11 rfl) ?_
       refine op_pick_f (ev_hit hN11 rfl) (ev_hit hN11 rfl) ?_
       refine reg_nil ?_
       refine hK25 _ _ ?_
       refine wp_cond_false (ev_hit hN11 rfl) ?_
       refine wp_skip ?_
       refine hK24 _ _ ?_
       refine seq_any fun K46 hK46 => ?_
       refine seq_any fun K47 hK47 => ?_
       refine one_reg ?_
       refine op_move (ev_hit hN11 rfl) ?_
       refine op_neq (ev_hit hN11 rfl) rfl (fun c47 => ?_) (fun c47 => ?_)
       · -- 47T
        refine reg_nil ?_
        refine hK47 _ _ ?_
        refine wp_cond_true (ev_hit hN11 rfl) ?_
        refine wp_exit (then_exit (blk_hit ?_))
        refine hK15 _ _ ?_
        refine one_reg ?_
        refine op_move (ev_base hN11 rfl s11_7) ?_
        refine op_add (ev_hit hN11 rfl) rfl (add64 (by omega)) ?_
        refine op_assign (ev_hit hN11 rfl) ?_
        refine reg_nil ?_
        -- round 18T 28F 31F 35T 38F 42F 47T
        exact loop_next _ hN11 hd11 ⟨(j + 1), u18, n18, bs18, rfl, (sl_base hN11 rfl s11_0), (sl_base hN11 rfl s11_1), (sl_base hN11 rfl s11_5), (sl_hit hN11 rfl).trans (congrArg (Value.int .i64) (by omega)), (sl_base hN11 rfl s11_6).trans (congrArg (Value.int .i64) (by have h7 := slots_step0 (L := L) (j := j) (by have h9 := of_decide_eq_false c31; rw [hAL] at h9; omega); rw [Nat.add_sub_cancel]; omega)), (by omega), hP18, dja23, pr18, hb, (by omega), hs, OS, hall, hO3, hx18, hO18⟩ (by omega)
       · -- 47F
        exfalso; omega
    · -- 35F
     exfalso; omega
 · -- 18F
  refine reg_nil ?_
  refine hK14 _ _ ?_
  refine wp_cond_false (ev_hit hN11 rfl) ?_
  refine wp_exit (then_exit (then_exit (blk_hit ?_)))
  refine hK9 _ _ ?_
  refine seq_any fun K48 hK48 => ?_
  refine one_reg ?_
  have hAl : A.length = L.length := by rw [← hAL, List.length_map]
  have hje : j = L.length + 2 := by omega
  have hse : (slotsI L (j - 1)).length = (slotsI L L.length).length := by rw [hje, show L.length + 2 - 1 = L.length + 1 by omega, slotsI_out (Nat.le_refl _)]
  refine op_move (ev_base hN11 rfl s11_6) ?_
  refine op_move (ev_base hN11 rfl s11_5) ?_
  refine op_len_rd Try.underlying29 (ev_hit hN11 rfl) hO3.rdw ?_
  refine op_eql (ev_hit hN11 rfl) (ev_hit hN11 rfl) (fun c80 => ?_) (fun c80 => ?_)
  · -- 80T
   refine op_move (ev_hit hN11 rfl) ?_
   refine g_true (j := 4) (dj := 81) (b := true) rfl rfl rfl (ev_hit hN11 rfl) ?_
   refine op_move (ev_base hN11 rfl s11_0) ?_
   refine g_true (j := 4) (dj := 81) (b := true) rfl rfl rfl (ev_hit hN11 rfl) ?_
   refine op_fn (vs := [(ptr p 0)]) ok14 ⟨(ev_hit hN11 rfl), trivial⟩ (free_ret L bsa na _ _ _ _ (by omega) hxa hO12 hPa ) ?_
   rintro _ w51 ⟨E52, rfl, u50, n50, bs50, hx50, hO50, hP50, ro50⟩
   have dja53 : ∀ x9 ∈ A, DJ x9.1 u50 := fun x9 hx9 => DJ.stepP ro50.ro (djaa_hall x9 hx9) ((hall x9 hx9).neB hxa (by decide)) (fun k hk => ((hall x9 hx9).lt k hk).2)
   have hs := hs.keepP hxa hO12 E52 (by decide) (by decide)
   have OS := OS.keepP hxa hO12 E52 (by decide) (.inl (by decide))
   have hall : ∀ x9 ∈ A, Own w51 ob 5 1 x9.1 x9.2.length (x9.2.map u8v) := fun x9 hx9 => (hall x9 hx9).keepP hxa hO12 E52 (by decide) (.inr (djaa_hall x9 hx9))
   have hO3 := hO3.keepP hxa hO12 E52 (by decide) (.inl (by decide))
   have z_w51 := E52.size
   have hb := grow_stepRP hb E52 pra
   have pr50 : RowP p n50 u50 (pgRow p n vb) w.heap.size := RowP.trans ro50 pra (by omega)
   have hfi_50 := hP50.fits
   have hlr_49 := hPa.left
   refine g_true (j := 4) (dj := 81) (b := true) rfl rfl rfl (ev_hit hN11 rfl) ?_
   refine op_move (ev_base hN11 rfl s11_1) ?_
   refine g_true (j := 4) (dj := 81) (b := true) rfl rfl rfl (ev_hit hN11 rfl) ?_
   refine op_fn (vs := [(ptr s 0)]) ok45 ⟨(ev_hit hN11 rfl), trivial⟩ (sfree_ret A _ _ _ _ _ hA hs OS hall hno) ?_
   rintro _ w54 ⟨E55, rfl⟩
   have E55 := grown_of_below E55
   have z_w54 := E55.size
   have hs := hs.keep0 E55
   have OS := OS.keep0 E55
   have hall : ∀ x9 ∈ A, Own w54 ob 5 1 x9.1 x9.2.length (x9.2.map u8v) := fun x9 hx9 => (hall x9 hx9).keep0 E55
   have hO3 := hO3.keep0 E55
   have hx50 := hx50.keep0 E55
   have hO50 := hO50.keep0 E55
   have hb := grow_step0 hb E55
   refine g_true (j := 4) (dj := 81) (b := true) rfl rfl rfl (ev_hit hN11 rfl) ?_
   refine op_eql (ev_hit hN11 rfl) (ev_hit hN11 rfl) (fun c86 => ?_) (fun c86 => ?_)
   · -- 86T
    refine op_pick_t (ev_hit hN11 rfl) (ev_hit hN11 rfl) ?_
    refine op_move (ev_hit hN11 rfl) ?_
    refine g_true (j := 11) (dj := 88) (b := true) rfl rfl rfl (ev_hit hN11 rfl) ?_
    refine op_move (ev_base hN11 rfl s11_0) ?_
    refine g_true (j := 11) (dj := 88) (b := true) rfl rfl rfl (ev_hit hN11 rfl) ?_
    refine op_fn (vs := [(ptr p 0)]) ok25 ⟨(ev_hit hN11 rfl), trivial⟩ (bytes_ret L bs50 n50 _ _ _ _ (by omega) hx50 hO50 hP50 ) ?_
    rintro v56 w58 ⟨E59, _, bx56, rfl, hO56, _, u57, n57, bs57, hx57, hO57, hP57, ro57, dx57⟩
    have dja60 : ∀ x9 ∈ A, DJ x9.1 v56 := fun x9 hx9 k hk hg => by have q1 := ((hall x9 hx9).lt k hk).2; have q2 := (hO56.lt k hg).1; omega
    have dj61 : DJ v56 u50 := fun k hk hg => by have q1 := (hO56.lt k hk).1; have q2 := (hO50.lt k hg).2; omega
    have dja62 : ∀ x9 ∈ A, DJ x9.1 u57 := fun x9 hx9 => DJ.stepP ro57.ro (dja53 x9 hx9) ((hall x9 hx9).neB hx50 (by decide)) (fun k hk => ((hall x9 hx9).lt k hk).2)
    have hs := hs.keepP hx50 hO50 E59 (by decide) (by decide)
    have OS := OS.keepP hx50 hO50 E59 (by decide) (.inl (by decide))
    have hall : ∀ x9 ∈ A, Own w58 ob 5 1 x9.1 x9.2.length (x9.2.map u8v) := fun x9 hx9 => (hall x9 hx9).keepP hx50 hO50 E59 (by decide) (.inr (dja53 x9 hx9))
    have hO3 := hO3.keepP hx50 hO50 E59 (by decide) (.inl (by decide))
    have z_w58 := E59.size
    have hb := grow_stepRP hb E59 pr50
    have pr57 : RowP p n57 u57 (pgRow p n vb) w.heap.size := RowP.trans ro57 pr50 (by omega)
    have hO56 := hO56.mono (base' := w.heap.size) (by omega)
    have hfi_57 := hP57.fits
    refine g_true (j := 11) (dj := 88) (b := true) rfl rfl rfl (ev_hit hN11 rfl) ?_
    refine op_len_rd Try.underlying22 (ev_hit hN11 rfl) hO56.rdw ?_
    refine g_true (j := 11) (dj := 88) (b := true) rfl rfl rfl (ev_hit hN11 rfl) ?_
    refine op_bin (v := .bool true) (ev_hit hN11 rfl) rfl (by rw [binOp_eql]; rfl) ?_
    refine op_pick_t (ev_hit hN11 rfl) (ev_hit hN11 rfl) ?_
    refine op_assign (ev_hit hN11 rfl) ?_
    refine reg_nil ?_
    refine hK48 _ _ ?_
    refine wp_ret ?_
    refine ret1 rfl hd11 (ev_hit hN11 rfl) ⟨_, rfl, ?_⟩
    -- path 18F 80T 86T
    exact ⟨hb, rfl, _, _, _, hx57, hO57, hP57, pr57⟩
   · -- 86F
    exact absurd (by rw [hAL, ← hAl]) c86
  · -- 80F
   exfalso; omega

end Go.Proofs.Ytdhpalioifjfbaa

/- Walks, written by a program: what each function of the translation hands back. -/
namespace Go.Proofs.Ytdhpalioifjfbaa
open Go.Gx Go.RowKit
attribute [local irreducible] wpList wpStill Code.wp Calls

set_option maxHeartbeats 4000000 in
theorem PageAll_ret (ops : List OpV) (vo : Value) (w : World) (hlo : ops.length ≤ 9223372036854775807) (hwf : ∀ o ∈ ops, OkOp o) (hro : RdC w 0 w.heap.size 4 vo ops.length (ops.flatMap cellsOp)) : Ret Try.prog 4 #[vo] w (fun v' w' => Below w.heap.size w w' ∧ v' = .bool true) := by
 have hb := Below.refl w.heap.size w
 refine enter (N := 128) Try.func4 rfl rfl (by simp) fun a0 hN hd hA => ?_
 have s0 : a0.tmps.getD 0 undef = vo := hA 0 (by simp)
 clear hA
 refine seq_any fun K1 hK1 => ?_
 refine one_reg ?_
 refine op_assign rfl ?_
 refine reg_nil ?_
 refine hK1 _ _ ?_
 refine seq_any fun K2 hK2 => ?_
 refine seq_any fun K3 hK3 => ?_
 refine one_reg ?_
 refine op_fn (vs := []) ok9 trivial (begun13_ret _) ?_
 rintro _ w4 ⟨E5, rfl⟩
 have E5 := grown_of_below E5
 have z_w4 := E5.size
 have hro := hro.keep0 E5
 have hb := below_step0 hb E5 hb.size
 refine op_not (ev_hit hN rfl) ?_
 refine reg_nil ?_
 refine hK3 _ _ ?_
 refine wp_cond_false (ev_hit hN rfl) ?_
 refine wp_skip ?_
 refine hK2 _ _ ?_
 refine seq_any fun K6 hK6 => ?_
 refine seq_any fun K7 hK7 => ?_
 refine one_reg ?_
 refine op_move (ev_base hN rfl s0) ?_
 refine op_len_rd Try.underlying36 (ev_hit hN rfl) hro ?_
 refine op_gtr (ev_hit hN rfl) rfl (fun c19 => ?_) (fun c19 => ?_)
 · -- 19T
  refine reg_nil ?_
  refine hK7 _ _ ?_
  refine wp_cond_true (ev_hit hN rfl) ?_
  refine seq_any fun K8 hK8 => ?_
  refine one_reg ?_
  refine op_assign rfl ?_
  refine reg_nil ?_
  refine hK8 _ _ ?_
  refine wp_ret (then_ret ( ?_))
  refine ret1 rfl hd (ev_hit hN rfl) ⟨_, rfl, ?_⟩
  -- path 19T
  exact ⟨hb, rfl⟩
 · -- 19F
  refine reg_nil ?_
  refine hK7 _ _ ?_
  refine wp_cond_false (ev_hit hN rfl) ?_
  refine wp_skip ?_
  refine hK6 _ _ ?_
  refine seq_any fun K9 hK9 => ?_
  refine one_reg ?_
  refine op_fn (vs := []) ok10 trivial (new_ret _) ?_
  rintro _ w11 ⟨E12, p10, rfl, lo_p10, hx10⟩
  have E12 := grown_of_below E12
  have z_w11 := E12.size
  have hro := hro.keep0 E12
  have hb := below_step0 hb E12 hb.size
  have hi_p10 := hx10.lt
  refine op_build (pv := []) (v := (Value.agg #[(Value.slice none 0 0)])) trivial (by kernel_rfl) ?_
  refine op_box (cs := [(Value.slice none 0 0)]) (ev_hit hN rfl) rfl ?_
  intro w13 b14 lo_b14 hi_b14 hB16 E15
  have z_w13 := E15.size
  have hro := hro.keep0 E15
  have hx10 := hx10.keep0 E15
  have hb := below_step0 hb E15 hb.size
  refine op_assign (ev_hit hN rfl) ?_
  refine op_assign (ev_hit hN rfl) ?_
  refine reg_nil ?_
  refine hK9 _ _ ?_
  refine seq_any fun K17 hK17 => ?_
  refine seq_any fun K18 hK18 => ?_
  refine one_reg ?_
  refine op_assign rfl ?_
  refine reg_nil ?_
  refine hK18 _ _ ?_
  refine wp_block ?_
  refine loop_m (fun mz_ az_ w' => ∃ (i : Nat) (A : List ByV) (sv : Value) (ua : Value) (na : Nat) (bsa : By) (La : List By), mz_ = ops.length - i ∧ (az_.tmps.getD 0 undef = vo) ∧ (az_.tmps.getD 3 undef = (ptr p10 0)) ∧ (az_.tmps.getD 4 undef = (ptr b14 0)) ∧ (az_.tmps.getD 5 undef = (Value.int .i64 ((i : Nat) : Int))) ∧ (i ≤ ops.length) ∧ (∀ x9 ∈ A, NO x9.1 x9.2) ∧ (Pg na bsa La ua) ∧ (A.map Prod.snd = La) ∧ (∀ x9 ∈ A, DJ x9.1 ua) ∧ (Below w.heap.size w w') ∧ (w13.heap.size ≤ w'.heap.size) ∧ (RdC w' 0 w.heap.size 4 vo ops.length (ops.flatMap cellsOp)) ∧ (Bx w' p10 50 [ua]) ∧ (Bx w' b14 40 [sv]) ∧ (∀ x9 ∈ A, Own w' w.heap.size 5 1 x9.1 x9.2.length (x9.2.map u8v)) ∧ (Own w' w.heap.size 5 1 ua na (bsa.map u8v)) ∧ (Own w' w.heap.size 22 1 sv A.length (A.flatMap (fun x9 => [x9.1])))) _ hN hd ⟨0, [], (Value.slice none 0 0), (Value.slice none 0 0), 0, [], [], rfl, (sl_base hN rfl s0), (sl_hit hN rfl), (sl_hit hN rfl), (sl_hit hN rfl), Nat.zero_le _, (fun x9 hx9 => absurd hx9 List.not_mem_nil), Pg.zero, rfl, (fun x9 hx9 => absurd hx9 List.not_mem_nil), hb, (Nat.le_refl _), hro, hx10, hB16, (fun x9 hx9 => absurd hx9 List.not_mem_nil), (Own.nil w13 w.heap.size 5 1), (Own.nil _ _ _ _)⟩ ?_
  rintro _ a19 w19 hN19 hd19 ⟨i, A, sv, ua, na, bsa, La, rfl, s19_0, s19_3, s19_4, s19_5, hi, hno, hPa, hAL, djaA, hb, zl_w19, hro, hxa, hsb, hall, hO20, hO21⟩
  have z_w19 := hb.size
  refine seq_any fun K22 hK22 => ?_
  refine seq_any fun K23 hK23 => ?_
  refine one_reg ?_
  refine op_move (ev_base hN19 rfl s19_5) ?_
  refine op_move (ev_base hN19 rfl s19_0) ?_
  refine op_len_rd Try.underlying36 (ev_hit hN19 rfl) hro ?_
  refine op_lss (ev_hit hN19 rfl) (ev_hit hN19 rfl) (fun c26 => ?_) (fun c26 => ?_)
  · -- 26T
   refine reg_nil ?_
   refine hK23 _ _ ?_
   refine wp_cond_true (ev_hit hN19 rfl) ?_
   refine wp_skip ?_
   refine hK22 _ _ ?_
   refine seq_any fun K24 hK24 => ?_
   refine wp_block ?_
   refine seq_any fun K25 hK25 => ?_
   refine one_reg ?_
   have hA := small_of hAL hPa.fits
   have hok := hwf _ (getD_mem (d := O0) (show i < ops.length by omega))
   have hoks := hok.s
   have hokz := hok.z
   have hokk := hok.k
   have hk7 := tmod7 (ops.getD i O0).k
   refine op_move (ev_base hN19 rfl s19_0) ?_
   refine op_move (ev_base hN19 rfl s19_5) ?_
   refine op_index_rd slt36 (ev_hit hN19 rfl) hro (ev_hit hN19 rfl) (by omega) (by omega) ?_
   intro b26 o27 h0b26 h1b26 hc28
   refine op_loadA (cs := [(Value.int .i64 (ops.getD i O0).k), (Value.int .i64 (ops.getD i O0).s), (Value.int .i64 (ops.getD i O0).z), (Value.int .u8 ((ops.getD i O0).x.toNat : Int))]) agg42 rfl (ev_hit hN19 rfl) (fun j u hu => hc28 j u (by have := (List.getElem?_eq_some_iff.1 hu).1; simpa using this) ((fun j u hu => el_op (l := ops) (i := i) (by omega) (by omega) hu) j u hu)) ?_
   refine op_alloc (cs := [(Value.int .i64 0), (Value.int .i64 0), (Value.int .i64 0), (Value.int .u8 0)]) zero42 rfl ?_
   intro w29 b30 lo_b30 hi_b30 hB32 E31
   have z_w29 := E31.size
   have hro := hro.keep0 E31
   have hxa := hxa.keep0 E31
   have hsb := hsb.keep0 E31
   have hall : ∀ x9 ∈ A, Own w29 w.heap.size 5 1 x9.1 x9.2.length (x9.2.map u8v) := fun x9 hx9 => (hall x9 hx9).keep0 E31
   have hO20 := hO20.keep0 E31
   have hO21 := hO21.keep0 E31
   have hb := below_step0 hb E31 hb.size
   have hB32_old := hB32
   refine op_store (vs := [(Value.int .i64 (ops.getD i O0).k), (Value.int .i64 (ops.getD i O0).s), (Value.int .i64 (ops.getD i O0).z), (Value.int .u8 ((ops.getD i O0).x.toNat : Int))]) (cs' := [(Value.int .i64 (ops.getD i O0).k), (Value.int .i64 (ops.getD i O0).s), (Value.int .i64 (ops.getD i O0).z), (Value.int .u8 ((ops.getD i O0).x.toNat : Int))]) size42 (ev_hit hN19 rfl) (ev_hit hN19 rfl) rfl rfl rfl hB32 (Nat.le_of_ble_eq_true rfl) rfl ?_
   intro w35 hB32 E36
   have z_w35 := E36.size
   have hro := hro.keep E36 (fun k hk => .inr (by simp at hk; omega))
   have hxa := hxa.keep E36 (by simp; omega)
   have hsb := hsb.keep E36 (by simp; omega)
   have hall : ∀ x9 ∈ A, Own w35 w.heap.size 5 1 x9.1 x9.2.length (x9.2.map u8v) := fun x9 hx9 => (hall x9 hx9).keepX hB32_old E36 (by decide)
   have hO20 := hO20.keepX hB32_old E36 (by decide)
   have hO21 := hO21.keepX hB32_old E36 (by decide)
   have hb := below_step1 hb E36 hb.size (by omega)
   refine reg_nil ?_
   refine hK25 _ _ ?_
   refine seq_any fun K37 hK37 => ?_
   refine one_reg ?_
   refine op_field fld42_2 (ev_hit hN19 rfl) ?_
   refine op_load1 (v := (Value.int .i64 (ops.getD i O0).z)) one3 (ev_hit hN19 rfl) (hB32.cell rfl) ?_
   refine op_max (r := ((((ops.getD i O0).z).toNat : Nat) : Int)) (ev_hit hN19 rfl) rfl (by omega) ?_
   refine op_min (r := (((min ((ops.getD i O0).z).toNat 300) : Nat) : Int)) (ev_hit hN19 rfl) rfl (by omega) ?_
   refine op_make (n := (min ((ops.getD i O0).z).toNat 300)) (y' := .const undef) slt22 (ev_hit hN19 rfl) (ev_hit hN19 rfl) rfl (by omega) (by omega) hb.size ?_
   intro v40 w38 hO41 E39 lo42
   have dja43 : ∀ x9 ∈ A, DJ x9.1 v40 := fun x9 hx9 k hk hg => by have q1 := ((hall x9 hx9).lt k hk).2; have q2 := lo42 k hg; omega
   have dj44 : DJ v40 ua := fun k hk hg => by have q1 := lo42 k hk; have q2 := (hO20.lt k hg).2; omega
   have z_w38 := E39.size
   have hro := hro.keep0 E39
   have hxa := hxa.keep0 E39
   have hsb := hsb.keep0 E39
   have hall : ∀ x9 ∈ A, Own w38 w.heap.size 5 1 x9.1 x9.2.length (x9.2.map u8v) := fun x9 hx9 => (hall x9 hx9).keep0 E39
   have hO20 := hO20.keep0 E39
   have hO21 := hO21.keep0 E39
   have hB32 := hB32.keep0 E39
   have hb := below_step0 hb E39 hb.size
   have hO41 : Own w38 w.heap.size 5 1 v40 (min ((ops.getD i O0).z).toNat 300) (((List.replicate (min ((ops.getD i O0).z).toNat 300) 0 : By)).map u8v) := by exact hO41.cast rfl (zeros_u8 _)
   refine op_assign (ev_hit hN19 rfl) ?_
   refine reg_nil ?_
   refine hK37 _ _ ?_
   refine seq_any fun K45 hK45 => ?_
   refine seq_any fun K46 hK46 => ?_
   refine one_reg ?_
   refine op_assign rfl ?_
   refine reg_nil ?_
   refine hK46 _ _ ?_
   refine wp_block ?_
   refine loop_m (fun mz_ az_ w' => ∃ (jj : Nat) (bl : By), mz_ = (min ((ops.getD i O0).z).toNat 300) - jj ∧ (az_.tmps.getD 0 undef = vo) ∧ (az_.tmps.getD 3 undef = (ptr p10 0)) ∧ (az_.tmps.getD 4 undef = (ptr b14 0)) ∧ (az_.tmps.getD 5 undef = (Value.int .i64 ((i : Nat) : Int))) ∧ (az_.tmps.getD 6 undef = (ptr b30 0)) ∧ (az_.tmps.getD 7 undef = v40) ∧ (az_.tmps.getD 8 undef = (Value.int .i64 ((jj : Nat) : Int))) ∧ (jj ≤ (min ((ops.getD i O0).z).toNat 300)) ∧ (bl.length = (min ((ops.getD i O0).z).toNat 300)) ∧ (Below w.heap.size w w') ∧ (w38.heap.size ≤ w'.heap.size) ∧ (RdC w' 0 w.heap.size 4 vo ops.length (ops.flatMap cellsOp)) ∧ (Bx w' p10 50 [ua]) ∧ (Bx w' b14 40 [sv]) ∧ (∀ x9 ∈ A, Own w' w.heap.size 5 1 x9.1 x9.2.length (x9.2.map u8v)) ∧ (Own w' w.heap.size 5 1 ua na (bsa.map u8v)) ∧ (Own w' w.heap.size 22 1 sv A.length (A.flatMap (fun x9 => [x9.1]))) ∧ (Bx w' b30 42 [(Value.int .i64 (ops.getD i O0).k), (Value.int .i64 (ops.getD i O0).s), (Value.int .i64 (ops.getD i O0).z), (Value.int .u8 ((ops.getD i O0).x.toNat : Int))]) ∧ (Own w' w.heap.size 5 1 v40 bl.length (bl.map u8v))) _ hN19 hd19 ⟨0, (List.replicate (min ((ops.getD i O0).z).toNat 300) 0 : By), rfl, (sl_base hN19 rfl s19_0), (sl_base hN19 rfl s19_3), (sl_base hN19 rfl s19_4), (sl_base hN19 rfl s19_5), (sl_hit hN19 rfl), (sl_hit hN19 rfl), (sl_hit hN19 rfl), Nat.zero_le _, List.length_replicate, hb, (Nat.le_refl _), hro, hxa, hsb, hall, hO20, hO21, hB32, (hO41.cast List.length_replicate.symm rfl)⟩ ?_
   rintro _ a47 w47 hN47 hd47 ⟨jj, bl, rfl, s47_0, s47_3, s47_4, s47_5, s47_6, s47_7, s47_8, hjj, hbl, hb, zl_w47, hro, hxa, hsb, hall, hO20, hO21, hB32, hO48⟩
   have z_w47 := hb.size
   refine seq_any fun K49 hK49 => ?_
   refine seq_any fun K50 hK50 => ?_
   refine one_reg ?_
   refine op_move (ev_base hN47 rfl s47_8) ?_
   refine op_move (ev_base hN47 rfl s47_7) ?_
   refine op_len_rd Try.underlying22 (ev_hit hN47 rfl) hO48.rdw ?_
   refine op_lss (ev_hit hN47 rfl) (ev_hit hN47 rfl) (fun c41 => ?_) (fun c41 => ?_)
   · -- 41T
    refine reg_nil ?_
    refine hK50 _ _ ?_
    refine wp_cond_true (ev_hit hN47 rfl) ?_
    refine wp_skip ?_
    refine hK49 _ _ ?_
    refine seq_any fun K51 hK51 => ?_
    refine wp_block ?_
    refine one_reg ?_
    refine op_move (ev_base hN47 rfl s47_7) ?_
    refine op_move (ev_base hN47 rfl s47_8) ?_
    refine op_field fld42_3 (ev_base hN47 rfl s47_6) ?_
    refine op_load1 (v := (Value.int .u8 ((ops.getD i O0).x.toNat : Int))) one5 (ev_hit hN47 rfl) (hB32.cell rfl) ?_
    refine op_move (ev_base hN47 rfl s47_8) ?_
    refine op_conv (r := ((UInt8.ofNat jj).toNat : Int)) (ev_hit hN47 rfl) us3 Try.underlying5 conv_u8 ?_
    refine op_add (r := (((ops.getD i O0).x + UInt8.ofNat jj).toNat : Int)) (ev_hit hN47 rfl) (ev_hit hN47 rfl) add_u8 ?_
    refine op_index_own (i := jj) slt22 (ev_hit hN47 rfl) hO48 (ev_hit hN47 rfl) (by omega) (by omega) ?_
    intro b52 o53 lo_b52 hA54
    have hA54 : AtV v40 (jj) b52 o53 := by simpa using hA54
    have hP57 := hO48
    refine op_store_own (vs := [(Value.int .u8 (((ops.getD i O0).x + UInt8.ofNat jj).toNat : Int))]) size5 (ev_hit hN47 rfl) (ev_hit hN47 rfl) rfl rfl rfl hP57 hA54 (by simp; omega) ?_
    intro w55 hO58 E56
    have z_w55 := E56.size
    have hro := hro.keepO hP57 E56 (by omega)
    have hxa := hxa.keepO hP57 E56 (by decide)
    have hsb := hsb.keepO hP57 E56 (by decide)
    have hall : ∀ x9 ∈ A, Own w55 w.heap.size 5 1 x9.1 x9.2.length (x9.2.map u8v) := fun x9 hx9 => (hall x9 hx9).keepD E56 (dja43 x9 hx9)
    have hO20 := hO20.keepD E56 dj44.symm
    have hO21 := hO21.keepT hP57 E56 (by decide)
    have hB32 := hB32.keepO hP57 E56 (by decide)
    have hb := below_stepO hb hP57 E56 hb.size (by omega)
    have hO58 : Own w55 w.heap.size 5 1 v40 bl.length (((bl.set jj ((ops.getD i O0).x + UInt8.ofNat jj))).map u8v) := by exact hO58.cast rfl (set_u8 (by omega))
    refine reg_nil ?_
    refine hK51 _ _ ?_
    refine one_reg ?_
    refine op_move (ev_base hN47 rfl s47_8) ?_
    refine op_add (ev_hit hN47 rfl) rfl (add64 (by omega)) ?_
    refine op_assign (ev_hit hN47 rfl) ?_
    refine reg_nil ?_
    -- round 19F 26T 41T
    exact loop_next _ hN47 hd47 ⟨jj + 1, _, rfl, (sl_base hN47 rfl s47_0), (sl_base hN47 rfl s47_3), (sl_base hN47 rfl s47_4), (sl_base hN47 rfl s47_5), (sl_base hN47 rfl s47_6), (sl_base hN47 rfl s47_7), (sl_hit hN47 rfl).trans (congrArg (Value.int .i64) (by omega)), (by omega), (by simp only [List.length_set]; exact hbl), hb, (by omega), hro, hxa, hsb, hall, hO20, hO21, hB32, (hO58.cast (by simp) rfl)⟩ (by omega)
   · -- 41F
    refine reg_nil ?_
    refine hK50 _ _ ?_
    refine wp_cond_false (ev_hit hN47 rfl) ?_
    refine wp_exit (then_exit (then_exit (blk_hit ?_)))
    refine hK45 _ _ ?_
    refine seq_any fun K59 hK59 => ?_
    refine one_reg ?_
    refine op_move (ev_base hN47 rfl s47_7) ?_
    have hq60 : RdC w47 0 w47.heap.size 1 v40 bl.length (bl.map u8v) := by have hh : RdC w47 0 w47.heap.size 1 _ _ _ := (hO48.rdw.mono (L' := 0) (B' := w47.heap.size) (Nat.zero_le _) (by omega)); first | simpa using hh | simpa [Nat.add_comm, Nat.add_left_comm, Nat.add_assoc] using hh | exact hh.cast (by first | rfl | (simp; try omega)) (by first | rfl | (simp; done) | simp [u8v])
    refine op_fn (vs := [v40]) ok16 ⟨(ev_hit hN47 rfl), trivial⟩ (Twin_ret bl v40 _ (by first | assumption | omega | (simp only [List.length_append, List.length_cons, List.length_nil, List.length_drop, List.length_take]; omega) | (dsimp only; omega) | decide | (simp [keyV, be8_len]; done)) hq60) ?_
    rintro _ w63 ⟨E64, b61, rfl, lo_b61, hi_b61, hB62⟩
    have ne_b61_ua : ua.ownBlock ≠ some b61 := fun hh => by have := (hO20.lt _ hh).2; omega
    have ne_b61_v40 : v40.ownBlock ≠ some b61 := fun hh => by have := (hO48.lt _ hh).2; omega
    have nea_b61 : ∀ x9 ∈ A, x9.1.ownBlock ≠ some b61 := fun x9 hx9 hh => by have := ((hall x9 hx9).lt _ hh).2; omega
    have E64 := grown_of_below E64
    have z_w63 := E64.size
    have hro := hro.keep0 E64
    have hxa := hxa.keep0 E64
    have hsb := hsb.keep0 E64
    have hall : ∀ x9 ∈ A, Own w63 w.heap.size 5 1 x9.1 x9.2.length (x9.2.map u8v) := fun x9 hx9 => (hall x9 hx9).keep0 E64
    have hO20 := hO20.keep0 E64
    have hO21 := hO21.keep0 E64
    have hB32 := hB32.keep0 E64
    have hO48 := hO48.keep0 E64
    have hb := below_step0 hb E64 hb.size
    refine op_assign (ev_hit hN47 rfl) ?_
    refine reg_nil ?_
    refine hK59 _ _ ?_
    refine seq_any fun K65 hK65 => ?_
    refine seq_any fun K66 hK66 => ?_
    refine one_reg ?_
    refine op_field fld42_0 (ev_base hN47 rfl s47_6) ?_
    refine op_load1 (v := (Value.int .i64 (ops.getD i O0).k)) one3 (ev_hit hN47 rfl) (hB32.cell rfl) ?_
    refine op_rem (r := ((ops.getD i O0).k.tmod 7)) (ev_hit hN47 rfl) rfl (by decide) rfl ?_
    refine op_add (ev_hit hN47 rfl) rfl (add64 (by omega)) ?_
    refine op_rem (r := (((ops.getD i O0).k.tmod 7 + 7).tmod 7)) (ev_hit hN47 rfl) rfl (by decide) rfl ?_
    refine reg_nil ?_
    refine hK66 _ _ ?_
    refine wp_block ?_
    refine seq_any fun K67 hK67 => ?_
    refine seq_any fun K68 hK68 => ?_
    refine one_reg ?_
    refine op_eql (ev_hit hN47 rfl) rfl (fun c60 => ?_) (fun c60 => ?_)
    · -- 60T
     refine op_assign (ev_hit hN47 rfl) ?_
     refine reg_nil ?_
     refine hK68 _ _ ?_
     refine wp_cond_true (ev_hit hN47 rfl) ?_
     refine wp_skip ?_
     refine hK67 _ _ ?_
     refine wp_cond_true (ev_hit hN47 rfl) ?_
     refine seq_any fun K69 hK69 => ?_
     refine one_reg ?_
     refine op_move (ev_base hN47 rfl s47_3) ?_
     refine op_move (ev_hit hN47 rfl) ?_
     have hrx70 : RdC w63 b61 (b61 + 1) 1 (Value.slice (some ⟨b61, 0, none⟩) bl.length (bl.length + 3)) (bl : By).length ((bl : By).map u8v) := (show RdC w63 b61 (b61 + 1) 1 (Value.slice (some ⟨b61, 0, none⟩) bl.length (bl.length + 3)) bl.length ((bl.map u8v)) from by simpa using (RdC.ofRow (sz := 1) (m := bl.length) (c := (bl.length + 3)) hB62 (by simp) (by omega) (by unfold maxLen; omega)))
     refine op_fn (vs := [(ptr p10 0), (Value.slice (some ⟨b61, 0, none⟩) bl.length (bl.length + 3))]) ok11 ⟨(ev_hit hN47 rfl), ⟨(ev_hit hN47 rfl), trivial⟩⟩ (put_ret La bsa na _ _ _ _ (by omega) hxa hO20 hPa (bl : By) _ _ _ hrx70 (lit_apart (hB62.ne hxa (by decide)) ne_b61_ua) hB62.lt) ?_
     rintro _ w73 ⟨E74, rfl, u72, n72, bs72, hx72, hO72, hP72, ro72⟩
     have dja75 : ∀ x9 ∈ A, DJ x9.1 u72 := fun x9 hx9 => DJ.stepP ro72.ro (djaA x9 hx9) ((hall x9 hx9).neB hxa (by decide)) (fun k hk => ((hall x9 hx9).lt k hk).2)
     have dj76 : DJ v40 u72 := DJ.stepP ro72.ro dj44 (hO48.neB hxa (by decide)) (fun k hk => (hO48.lt k hk).2)
     have ne_b61_u72 : u72.ownBlock ≠ some b61 := ro72.ro.ne ne_b61_ua (hB62.ne hxa (by decide)) hB62.lt
     have hro := hro.keepP hxa hO20 E74 (by omega) (by omega)
     have hsb := hsb.keepP hxa hO20 E74 (by decide) (by decide)
     have hall : ∀ x9 ∈ A, Own w73 w.heap.size 5 1 x9.1 x9.2.length (x9.2.map u8v) := fun x9 hx9 => (hall x9 hx9).keepP hxa hO20 E74 (by decide) (.inr (djaA x9 hx9))
     have hO21 := hO21.keepP hxa hO20 E74 (by decide) (.inl (by decide))
     have hB32 := hB32.keepP hxa hO20 E74 (by decide) (by decide)
     have hO48 := hO48.keepP hxa hO20 E74 (by decide) (.inr dj44)
     have hB62 := hB62.keepPn hxa E74 (by decide) ne_b61_ua
     have z_w73 := E74.size
     have hb := below_stepR hb E74 hb.size (by omega) hO20 (by omega)
     have hfi_72 := hP72.fits
     have hpk_71 := putK_rng La (bl : By)
     refine op_move (ev_hit hN47 rfl) ?_
     refine op_extract (ev_hit hN47 rfl) rfl ?_
     refine op_extract (ev_hit hN47 rfl) rfl ?_
     refine op_assign (ev_hit hN47 rfl) ?_
     refine op_assign (ev_hit hN47 rfl) ?_
     refine reg_nil ?_
     refine hK69 _ _ ?_
     refine seq_any fun K77 hK77 => ?_
     refine one_reg ?_
     refine op_move (ev_base hN47 rfl s47_4) ?_
     refine op_move (ev_base hN47 rfl s47_7) ?_
     have hbl9 : bl.length = bl.length := by omega
     have hbv78 : Own w73 w.heap.size 5 1 v40 bl.length (bl.map u8v) := hO48.cast hbl9.symm rfl
     refine op_fn (vs := [(ptr b14 0), v40]) ok17 ⟨(ev_hit hN47 rfl), ⟨(ev_hit hN47 rfl), trivial⟩⟩ (sput_ret A _ w.heap.size w.heap.size _ _ (by omega) hsb hO21 hall hno (by omega) (by omega) bl _ hbv78) ?_
     rintro _ w80 ⟨E81, rfl, u79, hx79, hO79⟩
     have hsb_old := hsb
     have z_w80 := E81.size
     have hro := hro.keep E81 (fun k hk => .inr (by simp at hk; omega))
     have hall : ∀ x9 ∈ A, Own w80 w.heap.size 5 1 x9.1 x9.2.length (x9.2.map u8v) := fun x9 hx9 => (hall x9 hx9).keepX hsb_old E81 (by decide)
     have hB32 := hB32.keep E81 (by simp; omega)
     have hO48 := hO48.keepX hsb_old E81 (by decide)
     have hB62 := hB62.keep E81 (by simp; omega)
     have hx72 := hx72.keep E81 (by simp; omega)
     have hO72 := hO72.keepX hsb_old E81 (by decide)
     have hb := below_step1 hb E81 hb.size (by omega)
     have hall82 : ∀ x9 ∈ (putA A (v40, bl)), Own w80 w.heap.size 5 1 x9.1 x9.2.length (x9.2.map u8v) := (put_of hall (fun _ => hO48.cast hbl9.symm rfl))
     have hno82 : ∀ x9 ∈ (putA A (v40, bl)), NO x9.1 x9.2 := (put_of hno (fun hbd => no_of hbv78 hbd))
     have dja82 : ∀ x9 ∈ (putA A (v40, bl)), DJ x9.1 u72 := (put_of dja75 (fun _ => dj76))
     have nea82 : ∀ x9 ∈ (putA A (v40, bl)), x9.1.ownBlock ≠ some b61 := (put_of nea_b61 (fun _ => ne_b61_v40))
     have hAL83 : (putA A (v40, bl)).map Prod.snd = (putN La bl) := by rw [putA_map, hAL]
     have hA83 := small_of hAL83 hP72.fits
     refine op_move (ev_hit hN47 rfl) ?_
     refine op_extract (ev_hit hN47 rfl) rfl ?_
     refine op_extract (ev_hit hN47 rfl) rfl ?_
     refine op_assign (ev_hit hN47 rfl) ?_
     refine op_assign (ev_hit hN47 rfl) ?_
     refine reg_nil ?_
     refine hK77 _ _ ?_
     refine seq_any fun K84 hK84 => ?_
     refine one_reg ?_
     refine op_move (ev_hit hN47 rfl) ?_
     refine op_move (ev_hit hN47 rfl) ?_
     refine op_neq (ev_hit hN47 rfl) (ev_hit hN47 rfl) (fun c77 => ?_) (fun c77 => ?_)
     · -- 77T
      exact absurd (by rw [hAL]) c77
     · -- 77F
      refine op_move (ev_hit hN47 rfl) ?_
      refine g_true (j := 3) (dj := 78) (b := false) rfl rfl rfl (ev_hit hN47 rfl) ?_
      refine op_move (ev_hit hN47 rfl) ?_
      refine g_true (j := 3) (dj := 78) (b := false) rfl rfl rfl (ev_hit hN47 rfl) ?_
      refine op_move (ev_hit hN47 rfl) ?_
      refine g_true (j := 3) (dj := 78) (b := false) rfl rfl rfl (ev_hit hN47 rfl) ?_
      refine op_neq (ev_hit hN47 rfl) (ev_hit hN47 rfl) (fun c81 => ?_) (fun c81 => ?_)
      · -- 81T
       exact absurd (by rw [hAL]) c81
      · -- 81F
       refine op_pick_f (ev_hit hN47 rfl) (ev_hit hN47 rfl) ?_
       refine reg_nil ?_
       refine hK84 _ _ ?_
       refine wp_cond_false (ev_hit hN47 rfl) ?_
       refine wp_skip ?_
       refine hK65 _ _ ?_
       refine seq_any fun K85 hK85 => ?_
       refine seq_any fun K86 hK86 => ?_
       refine one_reg ?_
       refine op_move (ev_hit hN47 rfl) ?_
       refine op_move (ev_base hN47 rfl s47_7) ?_
       have hq87 : RdC w80 0 w80.heap.size 1 v40 bl.length (bl.map u8v) := by have hh : RdC w80 0 w80.heap.size 1 _ _ _ := (hO48.rdw.mono (L' := 0) (B' := w80.heap.size) (Nat.zero_le _) (by omega)); first | simpa using hh | simpa [Nat.add_comm, Nat.add_left_comm, Nat.add_assoc] using hh | exact hh.cast (by first | rfl | (simp; try omega)) (by first | rfl | (simp; done) | simp [u8v])
       refine op_fn (vs := [(Value.slice (some ⟨b61, 0, none⟩) bl.length (bl.length + 3)), v40]) ok22 ⟨(ev_hit hN47 rfl), ⟨(ev_hit hN47 rfl), trivial⟩⟩ (Ret.mono (Kept_ret bl bl _ v40 _ (by first | assumption | omega | (simp only [List.length_append, List.length_cons, List.length_nil, List.length_drop, List.length_take]; omega) | (dsimp only; omega) | decide | (simp [keyV, be8_len]; done)) (by first | assumption | omega | (simp only [List.length_append, List.length_cons, List.length_nil, List.length_drop, List.length_take]; omega) | (dsimp only; omega) | decide | (simp [keyV, be8_len]; done)) hB62 hq87) (R' := fun v' w' => Below w80.heap.size w80 w' ∧ v' = .bool true) fun v1 w1 h => ⟨h.1, h.2.trans (congrArg Value.bool (decide_eq_true rfl))⟩) ?_
       rintro _ w88 ⟨E89, rfl⟩
       have E89 := grown_of_below E89
       have z_w88 := E89.size
       have hro := hro.keep0 E89
       have hB32 := hB32.keep0 E89
       have hO48 := hO48.keep0 E89
       have hB62 := hB62.keep0 E89
       have hx72 := hx72.keep0 E89
       have hO72 := hO72.keep0 E89
       have hall82 : ∀ x9 ∈ (putA A (v40, bl)), Own w88 w.heap.size 5 1 x9.1 x9.2.length (x9.2.map u8v) := fun x9 hx9 => (hall82 x9 hx9).keep0 E89
       have hx79 := hx79.keep0 E89
       have hO79 := hO79.keep0 E89
       have hb := below_step0 hb E89 hb.size
       refine op_not (ev_hit hN47 rfl) ?_
       refine reg_nil ?_
       refine hK86 _ _ ?_
       refine wp_cond_false (ev_hit hN47 rfl) ?_
       refine wp_skip ?_
       refine hK85 _ _ ?_
       refine seq_any fun K90 hK90 => ?_
       refine one_reg ?_
       refine op_move (ev_hit hN47 rfl) ?_
       refine op_fn (vs := [(Value.slice (some ⟨b61, 0, none⟩) bl.length (bl.length + 3))]) ok23 ⟨(ev_hit hN47 rfl), trivial⟩ (Spoil_ret _ _ _ _ _ (Own.ofRow (base := w.heap.size) (n := bl.length) (c := (bl.length + 3)) hB62 (by simp) (by omega) (by unfold maxLen; omega) (by omega))) ?_
       rintro _ w91 ⟨E92, rfl⟩
       have dj93 : DJ v40 (Value.slice (some ⟨b61, 0, none⟩) bl.length (bl.length + 3)) := fun k hk hg => by simp [Value.ownBlock] at hg; subst hg; exact ne_b61_v40 hk
       have dj94 : DJ u72 (Value.slice (some ⟨b61, 0, none⟩) bl.length (bl.length + 3)) := fun k hk hg => by simp [Value.ownBlock] at hg; subst hg; exact ne_b61_u72 hk
       have dja95 : ∀ x9 ∈ (putA A (v40, bl)), DJ x9.1 (Value.slice (some ⟨b61, 0, none⟩) bl.length (bl.length + 3)) := fun x9 hx9 k hk hg => by simp [Value.ownBlock] at hg; subst hg; exact nea82 x9 hx9 hk
       have z_w91 := E92.size
       have hro := hro.keepO (Own.ofRow (base := w.heap.size) (n := bl.length) (c := (bl.length + 3)) hB62 (by simp) (by omega) (by unfold maxLen; omega) (by omega)) E92 (by omega)
       have hB32 := hB32.keepO (Own.ofRow (base := w.heap.size) (n := bl.length) (c := (bl.length + 3)) hB62 (by simp) (by omega) (by unfold maxLen; omega) (by omega)) E92 (by decide)
       have hO48 := hO48.keepD E92 dj93
       have hx72 := hx72.keepO (Own.ofRow (base := w.heap.size) (n := bl.length) (c := (bl.length + 3)) hB62 (by simp) (by omega) (by unfold maxLen; omega) (by omega)) E92 (by decide)
       have hO72 := hO72.keepD E92 dj94
       have hall82 : ∀ x9 ∈ (putA A (v40, bl)), Own w91 w.heap.size 5 1 x9.1 x9.2.length (x9.2.map u8v) := fun x9 hx9 => (hall82 x9 hx9).keepD E92 (dja95 x9 hx9)
       have hx79 := hx79.keepO (Own.ofRow (base := w.heap.size) (n := bl.length) (c := (bl.length + 3)) hB62 (by simp) (by omega) (by unfold maxLen; omega) (by omega)) E92 (by decide)
       have hO79 := hO79.keepT (Own.ofRow (base := w.heap.size) (n := bl.length) (c := (bl.length + 3)) hB62 (by simp) (by omega) (by unfold maxLen; omega) (by omega)) E92 (by decide)
       have hb := below_stepO hb (Own.ofRow (base := w.heap.size) (n := bl.length) (c := (bl.length + 3)) hB62 (by simp) (by omega) (by unfold maxLen; omega) (by omega)) E92 hb.size (by omega)
       refine reg_nil ?_
       refine hK90 _ _ ?_
       refine seq_any fun K96 hK96 => ?_
       refine one_reg ?_
       refine op_move (ev_base hN47 rfl s47_3) ?_
       refine op_move (ev_base hN47 rfl s47_4) ?_
       refine op_fn (vs := [(ptr p10 0), (ptr b14 0)]) ok24 ⟨(ev_hit hN47 rfl), ⟨(ev_hit hN47 rfl), trivial⟩⟩ (same_ret (putN La bl) bs72 n72 _ _ _ _ (by omega) hx72 hO72 hP72 (putA A (v40, bl)) _ _ _ _ (by omega) hx79 hO79 hall82 hno82 hAL83 dja82) ?_
       rintro _ w98 ⟨E99, rfl, u97, n97, bs97, hx97, hO97, hP97, ro97⟩
       have dj100 : DJ v40 u97 := DJ.stepP ro97.ro dj76 (hO48.neB hx72 (by decide)) (fun k hk => (hO48.lt k hk).2)
       have dja101 : ∀ x9 ∈ (putA A (v40, bl)), DJ x9.1 u97 := fun x9 hx9 => DJ.stepP ro97.ro (dja82 x9 hx9) ((hall82 x9 hx9).neB hx72 (by decide)) (fun k hk => ((hall82 x9 hx9).lt k hk).2)
       have hro := hro.keepP hx72 hO72 E99 (by omega) (by omega)
       have hB32 := hB32.keepP hx72 hO72 E99 (by decide) (by decide)
       have hO48 := hO48.keepP hx72 hO72 E99 (by decide) (.inr dj76)
       have hall82 : ∀ x9 ∈ (putA A (v40, bl)), Own w98 w.heap.size 5 1 x9.1 x9.2.length (x9.2.map u8v) := fun x9 hx9 => (hall82 x9 hx9).keepP hx72 hO72 E99 (by decide) (.inr (dja82 x9 hx9))
       have hx79 := hx79.keepP hx72 hO72 E99 (by decide) (by decide)
       have hO79 := hO79.keepP hx72 hO72 E99 (by decide) (.inl (by decide))
       have z_w98 := E99.size
       have hb := below_stepR hb E99 hb.size (by omega) hO72 (by omega)
       have hfi_97 := hP97.fits
       refine op_not (ev_hit hN47 rfl) ?_
       refine reg_nil ?_
       refine hK96 _ _ ?_
       refine wp_cond_false (ev_hit hN47 rfl) ?_
       refine wp_skip ?_
       refine hK24 _ _ ?_
       refine one_reg ?_
       refine op_move (ev_base hN47 rfl s47_5) ?_
       refine op_add (ev_hit hN47 rfl) rfl (add64 (by omega)) ?_
       refine op_assign (ev_hit hN47 rfl) ?_
       refine reg_nil ?_
       -- round 19F 26T 41F 60T 77F 81F
       exact loop_next _ hN47 hd47 ⟨i + 1, (putA A (v40, bl)), u79, u97, n97, bs97, (putN La bl), rfl, (sl_base hN47 rfl s47_0), (sl_base hN47 rfl s47_3), (sl_base hN47 rfl s47_4), (sl_hit hN47 rfl).trans (congrArg (Value.int .i64) (by omega)), (by omega), hno82, hP97, hAL83, dja101, hb, (by omega), hro, hx97, hx79, hall82, hO97, hO79⟩ (by omega)
    · -- 60F
     refine op_assign (ev_hit hN47 rfl) ?_
     refine reg_nil ?_
     refine hK68 _ _ ?_
     refine wp_cond_false (ev_hit hN47 rfl) ?_
     refine seq_any fun K102 hK102 => ?_
     refine one_reg ?_
     refine op_eql (ev_hit hN47 rfl) rfl (fun c61 => ?_) (fun c61 => ?_)
     · -- 61T
      refine op_assign (ev_hit hN47 rfl) ?_
      refine reg_nil ?_
      refine hK102 _ _ ?_
      refine wp_cond_true (ev_hit hN47 rfl) ?_
      refine wp_skip ?_
      refine hK67 _ _ ?_
      refine wp_cond_true (ev_hit hN47 rfl) ?_
      refine seq_any fun K103 hK103 => ?_
      refine one_reg ?_
      refine op_move (ev_base hN47 rfl s47_3) ?_
      refine op_move (ev_hit hN47 rfl) ?_
      have hrx104 : RdC w63 b61 (b61 + 1) 1 (Value.slice (some ⟨b61, 0, none⟩) bl.length (bl.length + 3)) (bl : By).length ((bl : By).map u8v) := (show RdC w63 b61 (b61 + 1) 1 (Value.slice (some ⟨b61, 0, none⟩) bl.length (bl.length + 3)) bl.length ((bl.map u8v)) from by simpa using (RdC.ofRow (sz := 1) (m := bl.length) (c := (bl.length + 3)) hB62 (by simp) (by omega) (by unfold maxLen; omega)))
      refine op_fn (vs := [(ptr p10 0), (Value.slice (some ⟨b61, 0, none⟩) bl.length (bl.length + 3))]) ok11 ⟨(ev_hit hN47 rfl), ⟨(ev_hit hN47 rfl), trivial⟩⟩ (put_ret La bsa na _ _ _ _ (by omega) hxa hO20 hPa (bl : By) _ _ _ hrx104 (lit_apart (hB62.ne hxa (by decide)) ne_b61_ua) hB62.lt) ?_
      rintro _ w107 ⟨E108, rfl, u106, n106, bs106, hx106, hO106, hP106, ro106⟩
      have dja109 : ∀ x9 ∈ A, DJ x9.1 u106 := fun x9 hx9 => DJ.stepP ro106.ro (djaA x9 hx9) ((hall x9 hx9).neB hxa (by decide)) (fun k hk => ((hall x9 hx9).lt k hk).2)
      have dj110 : DJ v40 u106 := DJ.stepP ro106.ro dj44 (hO48.neB hxa (by decide)) (fun k hk => (hO48.lt k hk).2)
      have ne_b61_u106 : u106.ownBlock ≠ some b61 := ro106.ro.ne ne_b61_ua (hB62.ne hxa (by decide)) hB62.lt
      have hro := hro.keepP hxa hO20 E108 (by omega) (by omega)
      have hsb := hsb.keepP hxa hO20 E108 (by decide) (by decide)
      have hall : ∀ x9 ∈ A, Own w107 w.heap.size 5 1 x9.1 x9.2.length (x9.2.map u8v) := fun x9 hx9 => (hall x9 hx9).keepP hxa hO20 E108 (by decide) (.inr (djaA x9 hx9))
      have hO21 := hO21.keepP hxa hO20 E108 (by decide) (.inl (by decide))
      have hB32 := hB32.keepP hxa hO20 E108 (by decide) (by decide)
      have hO48 := hO48.keepP hxa hO20 E108 (by decide) (.inr dj44)
      have hB62 := hB62.keepPn hxa E108 (by decide) ne_b61_ua
      have z_w107 := E108.size
      have hb := below_stepR hb E108 hb.size (by omega) hO20 (by omega)
      have hfi_106 := hP106.fits
      have hpk_105 := putK_rng La (bl : By)
      refine op_move (ev_hit hN47 rfl) ?_
      refine op_extract (ev_hit hN47 rfl) rfl ?_
      refine op_extract (ev_hit hN47 rfl) rfl ?_
      refine op_assign (ev_hit hN47 rfl) ?_
      refine op_assign (ev_hit hN47 rfl) ?_
      refine reg_nil ?_
      refine hK103 _ _ ?_
      refine seq_any fun K111 hK111 => ?_
      refine one_reg ?_
      refine op_move (ev_base hN47 rfl s47_4) ?_
      refine op_move (ev_base hN47 rfl s47_7) ?_
      have hbl9 : bl.length = bl.length := by omega
      have hbv112 : Own w107 w.heap.size 5 1 v40 bl.length (bl.map u8v) := hO48.cast hbl9.symm rfl
      refine op_fn (vs := [(ptr b14 0), v40]) ok17 ⟨(ev_hit hN47 rfl), ⟨(ev_hit hN47 rfl), trivial⟩⟩ (sput_ret A _ w.heap.size w.heap.size _ _ (by omega) hsb hO21 hall hno (by omega) (by omega) bl _ hbv112) ?_
      rintro _ w114 ⟨E115, rfl, u113, hx113, hO113⟩
      have hsb_old := hsb
      have z_w114 := E115.size
      have hro := hro.keep E115 (fun k hk => .inr (by simp at hk; omega))
      have hall : ∀ x9 ∈ A, Own w114 w.heap.size 5 1 x9.1 x9.2.length (x9.2.map u8v) := fun x9 hx9 => (hall x9 hx9).keepX hsb_old E115 (by decide)
      have hB32 := hB32.keep E115 (by simp; omega)
      have hO48 := hO48.keepX hsb_old E115 (by decide)
      have hB62 := hB62.keep E115 (by simp; omega)
      have hx106 := hx106.keep E115 (by simp; omega)
      have hO106 := hO106.keepX hsb_old E115 (by decide)
      have hb := below_step1 hb E115 hb.size (by omega)
      have hall116 : ∀ x9 ∈ (putA A (v40, bl)), Own w114 w.heap.size 5 1 x9.1 x9.2.length (x9.2.map u8v) := (put_of hall (fun _ => hO48.cast hbl9.symm rfl))
      have hno116 : ∀ x9 ∈ (putA A (v40, bl)), NO x9.1 x9.2 := (put_of hno (fun hbd => no_of hbv112 hbd))
      have dja116 : ∀ x9 ∈ (putA A (v40, bl)), DJ x9.1 u106 := (put_of dja109 (fun _ => dj110))
      have nea116 : ∀ x9 ∈ (putA A (v40, bl)), x9.1.ownBlock ≠ some b61 := (put_of nea_b61 (fun _ => ne_b61_v40))
      have hAL117 : (putA A (v40, bl)).map Prod.snd = (putN La bl) := by rw [putA_map, hAL]
      have hA117 := small_of hAL117 hP106.fits
      refine op_move (ev_hit hN47 rfl) ?_
      refine op_extract (ev_hit hN47 rfl) rfl ?_
      refine op_extract (ev_hit hN47 rfl) rfl ?_
      refine op_assign (ev_hit hN47 rfl) ?_
      refine op_assign (ev_hit hN47 rfl) ?_
      refine reg_nil ?_
      refine hK111 _ _ ?_
      refine seq_any fun K118 hK118 => ?_
      refine one_reg ?_
      refine op_move (ev_hit hN47 rfl) ?_
      refine op_move (ev_hit hN47 rfl) ?_
      refine op_neq (ev_hit hN47 rfl) (ev_hit hN47 rfl) (fun c77 => ?_) (fun c77 => ?_)
      · -- 77T
       exact absurd (by rw [hAL]) c77
      · -- 77F
       refine op_move (ev_hit hN47 rfl) ?_
       refine g_true (j := 3) (dj := 78) (b := false) rfl rfl rfl (ev_hit hN47 rfl) ?_
       refine op_move (ev_hit hN47 rfl) ?_
       refine g_true (j := 3) (dj := 78) (b := false) rfl rfl rfl (ev_hit hN47 rfl) ?_
       refine op_move (ev_hit hN47 rfl) ?_
       refine g_true (j := 3) (dj := 78) (b := false) rfl rfl rfl (ev_hit hN47 rfl) ?_
       refine op_neq (ev_hit hN47 rfl) (ev_hit hN47 rfl) (fun c81 => ?_) (fun c81 => ?_)
       · -- 81T
        exact absurd (by rw [hAL]) c81
       · -- 81F
        refine op_pick_f (ev_hit hN47 rfl) (ev_hit hN47 rfl) ?_
        refine reg_nil ?_
        refine hK118 _ _ ?_
        refine wp_cond_false (ev_hit hN47 rfl) ?_
        refine wp_skip ?_
        refine hK65 _ _ ?_
        refine seq_any fun K119 hK119 => ?_
        refine seq_any fun K120 hK120 => ?_
        refine one_reg ?_
        refine op_move (ev_hit hN47 rfl) ?_
        refine op_move (ev_base hN47 rfl s47_7) ?_
        have hq121 : RdC w114 0 w114.heap.size 1 v40 bl.length (bl.map u8v) := by have hh : RdC w114 0 w114.heap.size 1 _ _ _ := (hO48.rdw.mono (L' := 0) (B' := w114.heap.size) (Nat.zero_le _) (by omega)); first | simpa using hh | simpa [Nat.add_comm, Nat.add_left_comm, Nat.add_assoc] using hh | exact hh.cast (by first | rfl | (simp; try omega)) (by first | rfl | (simp; done) | simp [u8v])
        refine op_fn (vs := [(Value.slice (some ⟨b61, 0, none⟩) bl.length (bl.length + 3)), v40]) ok22 ⟨(ev_hit hN47 rfl), ⟨(ev_hit hN47 rfl), trivial⟩⟩ (Ret.mono (Kept_ret bl bl _ v40 _ (by first | assumption | omega | (simp only [List.length_append, List.length_cons, List.length_nil, List.length_drop, List.length_take]; omega) | (dsimp only; omega) | decide | (simp [keyV, be8_len]; done)) (by first | assumption | omega | (simp only [List.length_append, List.length_cons, List.length_nil, List.length_drop, List.length_take]; omega) | (dsimp only; omega) | decide | (simp [keyV, be8_len]; done)) hB62 hq121) (R' := fun v' w' => Below w114.heap.size w114 w' ∧ v' = .bool true) fun v1 w1 h => ⟨h.1, h.2.trans (congrArg Value.bool (decide_eq_true rfl))⟩) ?_
        rintro _ w122 ⟨E123, rfl⟩
        have E123 := grown_of_below E123
        have z_w122 := E123.size
        have hro := hro.keep0 E123
        have hB32 := hB32.keep0 E123
        have hO48 := hO48.keep0 E123
        have hB62 := hB62.keep0 E123
        have hx106 := hx106.keep0 E123
        have hO106 := hO106.keep0 E123
        have hall116 : ∀ x9 ∈ (putA A (v40, bl)), Own w122 w.heap.size 5 1 x9.1 x9.2.length (x9.2.map u8v) := fun x9 hx9 => (hall116 x9 hx9).keep0 E123
        have hx113 := hx113.keep0 E123
        have hO113 := hO113.keep0 E123
        have hb := below_step0 hb E123 hb.size
        refine op_not (ev_hit hN47 rfl) ?_
        refine reg_nil ?_
        refine hK120 _ _ ?_
        refine wp_cond_false (ev_hit hN47 rfl) ?_
        refine wp_skip ?_
        refine hK119 _ _ ?_
        refine seq_any fun K124 hK124 => ?_
        refine one_reg ?_
        refine op_move (ev_hit hN47 rfl) ?_
        refine op_fn (vs := [(Value.slice (some ⟨b61, 0, none⟩) bl.length (bl.length + 3))]) ok23 ⟨(ev_hit hN47 rfl), trivial⟩ (Spoil_ret _ _ _ _ _ (Own.ofRow (base := w.heap.size) (n := bl.length) (c := (bl.length + 3)) hB62 (by simp) (by omega) (by unfold maxLen; omega) (by omega))) ?_
        rintro _ w125 ⟨E126, rfl⟩
        have dj127 : DJ v40 (Value.slice (some ⟨b61, 0, none⟩) bl.length (bl.length + 3)) := fun k hk hg => by simp [Value.ownBlock] at hg; subst hg; exact ne_b61_v40 hk
        have dj128 : DJ u106 (Value.slice (some ⟨b61, 0, none⟩) bl.length (bl.length + 3)) := fun k hk hg => by simp [Value.ownBlock] at hg; subst hg; exact ne_b61_u106 hk
        have dja129 : ∀ x9 ∈ (putA A (v40, bl)), DJ x9.1 (Value.slice (some ⟨b61, 0, none⟩) bl.length (bl.length + 3)) := fun x9 hx9 k hk hg => by simp [Value.ownBlock] at hg; subst hg; exact nea116 x9 hx9 hk
        have z_w125 := E126.size
        have hro := hro.keepO (Own.ofRow (base := w.heap.size) (n := bl.length) (c := (bl.length + 3)) hB62 (by simp) (by omega) (by unfold maxLen; omega) (by omega)) E126 (by omega)
        have hB32 := hB32.keepO (Own.ofRow (base := w.heap.size) (n := bl.length) (c := (bl.length + 3)) hB62 (by simp) (by omega) (by unfold maxLen; omega) (by omega)) E126 (by decide)
        have hO48 := hO48.keepD E126 dj127
        have hx106 := hx106.keepO (Own.ofRow (base := w.heap.size) (n := bl.length) (c := (bl.length + 3)) hB62 (by simp) (by omega) (by unfold maxLen; omega) (by omega)) E126 (by decide)
        have hO106 := hO106.keepD E126 dj128
        have hall116 : ∀ x9 ∈ (putA A (v40, bl)), Own w125 w.heap.size 5 1 x9.1 x9.2.length (x9.2.map u8v) := fun x9 hx9 => (hall116 x9 hx9).keepD E126 (dja129 x9 hx9)
        have hx113 := hx113.keepO (Own.ofRow (base := w.heap.size) (n := bl.length) (c := (bl.length + 3)) hB62 (by simp) (by omega) (by unfold maxLen; omega) (by omega)) E126 (by decide)
        have hO113 := hO113.keepT (Own.ofRow (base := w.heap.size) (n := bl.length) (c := (bl.length + 3)) hB62 (by simp) (by omega) (by unfold maxLen; omega) (by omega)) E126 (by decide)
        have hb := below_stepO hb (Own.ofRow (base := w.heap.size) (n := bl.length) (c := (bl.length + 3)) hB62 (by simp) (by omega) (by unfold maxLen; omega) (by omega)) E126 hb.size (by omega)
        refine reg_nil ?_
        refine hK124 _ _ ?_
        refine seq_any fun K130 hK130 => ?_
        refine one_reg ?_
        refine op_move (ev_base hN47 rfl s47_3) ?_
        refine op_move (ev_base hN47 rfl s47_4) ?_
        refine op_fn (vs := [(ptr p10 0), (ptr b14 0)]) ok24 ⟨(ev_hit hN47 rfl), ⟨(ev_hit hN47 rfl), trivial⟩⟩ (same_ret (putN La bl) bs106 n106 _ _ _ _ (by omega) hx106 hO106 hP106 (putA A (v40, bl)) _ _ _ _ (by omega) hx113 hO113 hall116 hno116 hAL117 dja116) ?_
        rintro _ w132 ⟨E133, rfl, u131, n131, bs131, hx131, hO131, hP131, ro131⟩
        have dj134 : DJ v40 u131 := DJ.stepP ro131.ro dj110 (hO48.neB hx106 (by decide)) (fun k hk => (hO48.lt k hk).2)
        have dja135 : ∀ x9 ∈ (putA A (v40, bl)), DJ x9.1 u131 := fun x9 hx9 => DJ.stepP ro131.ro (dja116 x9 hx9) ((hall116 x9 hx9).neB hx106 (by decide)) (fun k hk => ((hall116 x9 hx9).lt k hk).2)
        have hro := hro.keepP hx106 hO106 E133 (by omega) (by omega)
        have hB32 := hB32.keepP hx106 hO106 E133 (by decide) (by decide)
        have hO48 := hO48.keepP hx106 hO106 E133 (by decide) (.inr dj110)
        have hall116 : ∀ x9 ∈ (putA A (v40, bl)), Own w132 w.heap.size 5 1 x9.1 x9.2.length (x9.2.map u8v) := fun x9 hx9 => (hall116 x9 hx9).keepP hx106 hO106 E133 (by decide) (.inr (dja116 x9 hx9))
        have hx113 := hx113.keepP hx106 hO106 E133 (by decide) (by decide)
        have hO113 := hO113.keepP hx106 hO106 E133 (by decide) (.inl (by decide))
        have z_w132 := E133.size
        have hb := below_stepR hb E133 hb.size (by omega) hO106 (by omega)
        have hfi_131 := hP131.fits
        refine op_not (ev_hit hN47 rfl) ?_
        refine reg_nil ?_
        refine hK130 _ _ ?_
        refine wp_cond_false (ev_hit hN47 rfl) ?_
        refine wp_skip ?_
        refine hK24 _ _ ?_
        refine one_reg ?_
        refine op_move (ev_base hN47 rfl s47_5) ?_
        refine op_add (ev_hit hN47 rfl) rfl (add64 (by omega)) ?_
        refine op_assign (ev_hit hN47 rfl) ?_
        refine reg_nil ?_
        -- round 19F 26T 41F 60F 61T 77F 81F
        exact loop_next _ hN47 hd47 ⟨i + 1, (putA A (v40, bl)), u113, u131, n131, bs131, (putN La bl), rfl, (sl_base hN47 rfl s47_0), (sl_base hN47 rfl s47_3), (sl_base hN47 rfl s47_4), (sl_hit hN47 rfl).trans (congrArg (Value.int .i64) (by omega)), (by omega), hno116, hP131, hAL117, dja135, hb, (by omega), hro, hx131, hx113, hall116, hO131, hO113⟩ (by omega)
     · -- 61F
      refine op_assign (ev_hit hN47 rfl) ?_
      refine reg_nil ?_
      refine hK102 _ _ ?_
      refine wp_cond_false (ev_hit hN47 rfl) ?_
      refine one_reg ?_
      refine op_eql (ev_hit hN47 rfl) rfl (fun c62 => ?_) (fun c62 => ?_)
      · -- 62T
       refine op_assign (ev_hit hN47 rfl) ?_
       refine reg_nil ?_
       refine hK67 _ _ ?_
       refine wp_cond_true (ev_hit hN47 rfl) ?_
       refine seq_any fun K136 hK136 => ?_
       refine one_reg ?_
       refine op_move (ev_base hN47 rfl s47_3) ?_
       refine op_move (ev_hit hN47 rfl) ?_
       have hrx137 : RdC w63 b61 (b61 + 1) 1 (Value.slice (some ⟨b61, 0, none⟩) bl.length (bl.length + 3)) (bl : By).length ((bl : By).map u8v) := (show RdC w63 b61 (b61 + 1) 1 (Value.slice (some ⟨b61, 0, none⟩) bl.length (bl.length + 3)) bl.length ((bl.map u8v)) from by simpa using (RdC.ofRow (sz := 1) (m := bl.length) (c := (bl.length + 3)) hB62 (by simp) (by omega) (by unfold maxLen; omega)))
       refine op_fn (vs := [(ptr p10 0), (Value.slice (some ⟨b61, 0, none⟩) bl.length (bl.length + 3))]) ok11 ⟨(ev_hit hN47 rfl), ⟨(ev_hit hN47 rfl), trivial⟩⟩ (put_ret La bsa na _ _ _ _ (by omega) hxa hO20 hPa (bl : By) _ _ _ hrx137 (lit_apart (hB62.ne hxa (by decide)) ne_b61_ua) hB62.lt) ?_
       rintro _ w140 ⟨E141, rfl, u139, n139, bs139, hx139, hO139, hP139, ro139⟩
       have dja142 : ∀ x9 ∈ A, DJ x9.1 u139 := fun x9 hx9 => DJ.stepP ro139.ro (djaA x9 hx9) ((hall x9 hx9).neB hxa (by decide)) (fun k hk => ((hall x9 hx9).lt k hk).2)
       have dj143 : DJ v40 u139 := DJ.stepP ro139.ro dj44 (hO48.neB hxa (by decide)) (fun k hk => (hO48.lt k hk).2)
       have ne_b61_u139 : u139.ownBlock ≠ some b61 := ro139.ro.ne ne_b61_ua (hB62.ne hxa (by decide)) hB62.lt
       have hro := hro.keepP hxa hO20 E141 (by omega) (by omega)
       have hsb := hsb.keepP hxa hO20 E141 (by decide) (by decide)
       have hall : ∀ x9 ∈ A, Own w140 w.heap.size 5 1 x9.1 x9.2.length (x9.2.map u8v) := fun x9 hx9 => (hall x9 hx9).keepP hxa hO20 E141 (by decide) (.inr (djaA x9 hx9))
       have hO21 := hO21.keepP hxa hO20 E141 (by decide) (.inl (by decide))
       have hB32 := hB32.keepP hxa hO20 E141 (by decide) (by decide)
       have hO48 := hO48.keepP hxa hO20 E141 (by decide) (.inr dj44)
       have hB62 := hB62.keepPn hxa E141 (by decide) ne_b61_ua
       have z_w140 := E141.size
       have hb := below_stepR hb E141 hb.size (by omega) hO20 (by omega)
       have hfi_139 := hP139.fits
       have hpk_138 := putK_rng La (bl : By)
       refine op_move (ev_hit hN47 rfl) ?_
       refine op_extract (ev_hit hN47 rfl) rfl ?_
       refine op_extract (ev_hit hN47 rfl) rfl ?_
       refine op_assign (ev_hit hN47 rfl) ?_
       refine op_assign (ev_hit hN47 rfl) ?_
       refine reg_nil ?_
       refine hK136 _ _ ?_
       refine seq_any fun K144 hK144 => ?_
       refine one_reg ?_
       refine op_move (ev_base hN47 rfl s47_4) ?_
       refine op_move (ev_base hN47 rfl s47_7) ?_
       have hbl9 : bl.length = bl.length := by omega
       have hbv145 : Own w140 w.heap.size 5 1 v40 bl.length (bl.map u8v) := hO48.cast hbl9.symm rfl
       refine op_fn (vs := [(ptr b14 0), v40]) ok17 ⟨(ev_hit hN47 rfl), ⟨(ev_hit hN47 rfl), trivial⟩⟩ (sput_ret A _ w.heap.size w.heap.size _ _ (by omega) hsb hO21 hall hno (by omega) (by omega) bl _ hbv145) ?_
       rintro _ w147 ⟨E148, rfl, u146, hx146, hO146⟩
       have hsb_old := hsb
       have z_w147 := E148.size
       have hro := hro.keep E148 (fun k hk => .inr (by simp at hk; omega))
       have hall : ∀ x9 ∈ A, Own w147 w.heap.size 5 1 x9.1 x9.2.length (x9.2.map u8v) := fun x9 hx9 => (hall x9 hx9).keepX hsb_old E148 (by decide)
       have hB32 := hB32.keep E148 (by simp; omega)
       have hO48 := hO48.keepX hsb_old E148 (by decide)
       have hB62 := hB62.keep E148 (by simp; omega)
       have hx139 := hx139.keep E148 (by simp; omega)
       have hO139 := hO139.keepX hsb_old E148 (by decide)
       have hb := below_step1 hb E148 hb.size (by omega)
       have hall149 : ∀ x9 ∈ (putA A (v40, bl)), Own w147 w.heap.size 5 1 x9.1 x9.2.length (x9.2.map u8v) := (put_of hall (fun _ => hO48.cast hbl9.symm rfl))
       have hno149 : ∀ x9 ∈ (putA A (v40, bl)), NO x9.1 x9.2 := (put_of hno (fun hbd => no_of hbv145 hbd))
       have dja149 : ∀ x9 ∈ (putA A (v40, bl)), DJ x9.1 u139 := (put_of dja142 (fun _ => dj143))
       have nea149 : ∀ x9 ∈ (putA A (v40, bl)), x9.1.ownBlock ≠ some b61 := (put_of nea_b61 (fun _ => ne_b61_v40))
       have hAL150 : (putA A (v40, bl)).map Prod.snd = (putN La bl) := by rw [putA_map, hAL]
       have hA150 := small_of hAL150 hP139.fits
       refine op_move (ev_hit hN47 rfl) ?_
       refine op_extract (ev_hit hN47 rfl) rfl ?_
       refine op_extract (ev_hit hN47 rfl) rfl ?_
       refine op_assign (ev_hit hN47 rfl) ?_
       refine op_assign (ev_hit hN47 rfl) ?_
       refine reg_nil ?_
       refine hK144 _ _ ?_
       refine seq_any fun K151 hK151 => ?_
       refine one_reg ?_
       refine op_move (ev_hit hN47 rfl) ?_
       refine op_move (ev_hit hN47 rfl) ?_
       refine op_neq (ev_hit hN47 rfl) (ev_hit hN47 rfl) (fun c77 => ?_) (fun c77 => ?_)
       · -- 77T
        exact absurd (by rw [hAL]) c77
       · -- 77F
        refine op_move (ev_hit hN47 rfl) ?_
        refine g_true (j := 3) (dj := 78) (b := false) rfl rfl rfl (ev_hit hN47 rfl) ?_
        refine op_move (ev_hit hN47 rfl) ?_
        refine g_true (j := 3) (dj := 78) (b := false) rfl rfl rfl (ev_hit hN47 rfl) ?_
        refine op_move (ev_hit hN47 rfl) ?_
        refine g_true (j := 3) (dj := 78) (b := false) rfl rfl rfl (ev_hit hN47 rfl) ?_
        refine op_neq (ev_hit hN47 rfl) (ev_hit hN47 rfl) (fun c81 => ?_) (fun c81 => ?_)
        · -- 81T
         exact absurd (by rw [hAL]) c81
        · -- 81F
         refine op_pick_f (ev_hit hN47 rfl) (ev_hit hN47 rfl) ?_
         refine reg_nil ?_
         refine hK151 _ _ ?_
         refine wp_cond_false (ev_hit hN47 rfl) ?_
         refine wp_skip ?_
         refine hK65 _ _ ?_
         refine seq_any fun K152 hK152 => ?_
         refine seq_any fun K153 hK153 => ?_
         refine one_reg ?_
         refine op_move (ev_hit hN47 rfl) ?_
         refine op_move (ev_base hN47 rfl s47_7) ?_
         have hq154 : RdC w147 0 w147.heap.size 1 v40 bl.length (bl.map u8v) := by have hh : RdC w147 0 w147.heap.size 1 _ _ _ := (hO48.rdw.mono (L' := 0) (B' := w147.heap.size) (Nat.zero_le _) (by omega)); first | simpa using hh | simpa [Nat.add_comm, Nat.add_left_comm, Nat.add_assoc] using hh | exact hh.cast (by first | rfl | (simp; try omega)) (by first | rfl | (simp; done) | simp [u8v])
         refine op_fn (vs := [(Value.slice (some ⟨b61, 0, none⟩) bl.length (bl.length + 3)), v40]) ok22 ⟨(ev_hit hN47 rfl), ⟨(ev_hit hN47 rfl), trivial⟩⟩ (Ret.mono (Kept_ret bl bl _ v40 _ (by first | assumption | omega | (simp only [List.length_append, List.length_cons, List.length_nil, List.length_drop, List.length_take]; omega) | (dsimp only; omega) | decide | (simp [keyV, be8_len]; done)) (by first | assumption | omega | (simp only [List.length_append, List.length_cons, List.length_nil, List.length_drop, List.length_take]; omega) | (dsimp only; omega) | decide | (simp [keyV, be8_len]; done)) hB62 hq154) (R' := fun v' w' => Below w147.heap.size w147 w' ∧ v' = .bool true) fun v1 w1 h => ⟨h.1, h.2.trans (congrArg Value.bool (decide_eq_true rfl))⟩) ?_
         rintro _ w155 ⟨E156, rfl⟩
         have E156 := grown_of_below E156
         have z_w155 := E156.size
         have hro := hro.keep0 E156
         have hB32 := hB32.keep0 E156
         have hO48 := hO48.keep0 E156
         have hB62 := hB62.keep0 E156
         have hx139 := hx139.keep0 E156
         have hO139 := hO139.keep0 E156
         have hall149 : ∀ x9 ∈ (putA A (v40, bl)), Own w155 w.heap.size 5 1 x9.1 x9.2.length (x9.2.map u8v) := fun x9 hx9 => (hall149 x9 hx9).keep0 E156
         have hx146 := hx146.keep0 E156
         have hO146 := hO146.keep0 E156
         have hb := below_step0 hb E156 hb.size
         refine op_not (ev_hit hN47 rfl) ?_
         refine reg_nil ?_
         refine hK153 _ _ ?_
         refine wp_cond_false (ev_hit hN47 rfl) ?_
         refine wp_skip ?_
         refine hK152 _ _ ?_
         refine seq_any fun K157 hK157 => ?_
         refine one_reg ?_
         refine op_move (ev_hit hN47 rfl) ?_
         refine op_fn (vs := [(Value.slice (some ⟨b61, 0, none⟩) bl.length (bl.length + 3))]) ok23 ⟨(ev_hit hN47 rfl), trivial⟩ (Spoil_ret _ _ _ _ _ (Own.ofRow (base := w.heap.size) (n := bl.length) (c := (bl.length + 3)) hB62 (by simp) (by omega) (by unfold maxLen; omega) (by omega))) ?_
         rintro _ w158 ⟨E159, rfl⟩
         have dj160 : DJ v40 (Value.slice (some ⟨b61, 0, none⟩) bl.length (bl.length + 3)) := fun k hk hg => by simp [Value.ownBlock] at hg; subst hg; exact ne_b61_v40 hk
         have dj161 : DJ u139 (Value.slice (some ⟨b61, 0, none⟩) bl.length (bl.length + 3)) := fun k hk hg => by simp [Value.ownBlock] at hg; subst hg; exact ne_b61_u139 hk
         have dja162 : ∀ x9 ∈ (putA A (v40, bl)), DJ x9.1 (Value.slice (some ⟨b61, 0, none⟩) bl.length (bl.length + 3)) := fun x9 hx9 k hk hg => by simp [Value.ownBlock] at hg; subst hg; exact nea149 x9 hx9 hk
         have z_w158 := E159.size
         have hro := hro.keepO (Own.ofRow (base := w.heap.size) (n := bl.length) (c := (bl.length + 3)) hB62 (by simp) (by omega) (by unfold maxLen; omega) (by omega)) E159 (by omega)
         have hB32 := hB32.keepO (Own.ofRow (base := w.heap.size) (n := bl.length) (c := (bl.length + 3)) hB62 (by simp) (by omega) (by unfold maxLen; omega) (by omega)) E159 (by decide)
         have hO48 := hO48.keepD E159 dj160
         have hx139 := hx139.keepO (Own.ofRow (base := w.heap.size) (n := bl.length) (c := (bl.length + 3)) hB62 (by simp) (by omega) (by unfold maxLen; omega) (by omega)) E159 (by decide)
         have hO139 := hO139.keepD E159 dj161
         have hall149 : ∀ x9 ∈ (putA A (v40, bl)), Own w158 w.heap.size 5 1 x9.1 x9.2.length (x9.2.map u8v) := fun x9 hx9 => (hall149 x9 hx9).keepD E159 (dja162 x9 hx9)
         have hx146 := hx146.keepO (Own.ofRow (base := w.heap.size) (n := bl.length) (c := (bl.length + 3)) hB62 (by simp) (by omega) (by unfold maxLen; omega) (by omega)) E159 (by decide)
         have hO146 := hO146.keepT (Own.ofRow (base := w.heap.size) (n := bl.length) (c := (bl.length + 3)) hB62 (by simp) (by omega) (by unfold maxLen; omega) (by omega)) E159 (by decide)
         have hb := below_stepO hb (Own.ofRow (base := w.heap.size) (n := bl.length) (c := (bl.length + 3)) hB62 (by simp) (by omega) (by unfold maxLen; omega) (by omega)) E159 hb.size (by omega)
         refine reg_nil ?_
         refine hK157 _ _ ?_
         refine seq_any fun K163 hK163 => ?_
         refine one_reg ?_
         refine op_move (ev_base hN47 rfl s47_3) ?_
         refine op_move (ev_base hN47 rfl s47_4) ?_
         refine op_fn (vs := [(ptr p10 0), (ptr b14 0)]) ok24 ⟨(ev_hit hN47 rfl), ⟨(ev_hit hN47 rfl), trivial⟩⟩ (same_ret (putN La bl) bs139 n139 _ _ _ _ (by omega) hx139 hO139 hP139 (putA A (v40, bl)) _ _ _ _ (by omega) hx146 hO146 hall149 hno149 hAL150 dja149) ?_
         rintro _ w165 ⟨E166, rfl, u164, n164, bs164, hx164, hO164, hP164, ro164⟩
         have dj167 : DJ v40 u164 := DJ.stepP ro164.ro dj143 (hO48.neB hx139 (by decide)) (fun k hk => (hO48.lt k hk).2)
         have dja168 : ∀ x9 ∈ (putA A (v40, bl)), DJ x9.1 u164 := fun x9 hx9 => DJ.stepP ro164.ro (dja149 x9 hx9) ((hall149 x9 hx9).neB hx139 (by decide)) (fun k hk => ((hall149 x9 hx9).lt k hk).2)
         have hro := hro.keepP hx139 hO139 E166 (by omega) (by omega)
         have hB32 := hB32.keepP hx139 hO139 E166 (by decide) (by decide)
         have hO48 := hO48.keepP hx139 hO139 E166 (by decide) (.inr dj143)
         have hall149 : ∀ x9 ∈ (putA A (v40, bl)), Own w165 w.heap.size 5 1 x9.1 x9.2.length (x9.2.map u8v) := fun x9 hx9 => (hall149 x9 hx9).keepP hx139 hO139 E166 (by decide) (.inr (dja149 x9 hx9))
         have hx146 := hx146.keepP hx139 hO139 E166 (by decide) (by decide)
         have hO146 := hO146.keepP hx139 hO139 E166 (by decide) (.inl (by decide))
         have z_w165 := E166.size
         have hb := below_stepR hb E166 hb.size (by omega) hO139 (by omega)
         have hfi_164 := hP164.fits
         refine op_not (ev_hit hN47 rfl) ?_
         refine reg_nil ?_
         refine hK163 _ _ ?_
         refine wp_cond_false (ev_hit hN47 rfl) ?_
         refine wp_skip ?_
         refine hK24 _ _ ?_
         refine one_reg ?_
         refine op_move (ev_base hN47 rfl s47_5) ?_
         refine op_add (ev_hit hN47 rfl) rfl (add64 (by omega)) ?_
         refine op_assign (ev_hit hN47 rfl) ?_
         refine reg_nil ?_
         -- round 19F 26T 41F 60F 61F 62T 77F 81F
         exact loop_next _ hN47 hd47 ⟨i + 1, (putA A (v40, bl)), u146, u164, n164, bs164, (putN La bl), rfl, (sl_base hN47 rfl s47_0), (sl_base hN47 rfl s47_3), (sl_base hN47 rfl s47_4), (sl_hit hN47 rfl).trans (congrArg (Value.int .i64) (by omega)), (by omega), hno149, hP164, hAL150, dja168, hb, (by omega), hro, hx164, hx146, hall149, hO164, hO146⟩ (by omega)
      · -- 62F
       refine op_assign (ev_hit hN47 rfl) ?_
       refine reg_nil ?_
       refine hK67 _ _ ?_
       refine wp_cond_false (ev_hit hN47 rfl) ?_
       refine seq_any fun K169 hK169 => ?_
       refine seq_any fun K170 hK170 => ?_
       refine one_reg ?_
       refine op_eql (ev_hit hN47 rfl) rfl (fun c84 => ?_) (fun c84 => ?_)
       · -- 84T
        refine op_assign (ev_hit hN47 rfl) ?_
        refine reg_nil ?_
        refine hK170 _ _ ?_
        refine wp_cond_true (ev_hit hN47 rfl) ?_
        refine wp_skip ?_
        refine hK169 _ _ ?_
        refine wp_cond_true (ev_hit hN47 rfl) ?_
        refine seq_any fun K171 hK171 => ?_
        refine one_reg ?_
        refine op_assign rfl ?_
        refine reg_nil ?_
        refine hK171 _ _ ?_
        refine seq_any fun K172 hK172 => ?_
        refine seq_any fun K173 hK173 => ?_
        refine one_reg ?_
        refine op_move (ev_base hN47 rfl s47_4) ?_
        refine op_field fld42_1 (ev_base hN47 rfl s47_6) ?_
        refine op_load1 (v := (Value.int .i64 (ops.getD i O0).s)) one3 (ev_hit hN47 rfl) (hB32.cell rfl) ?_
        refine op_fn (vs := [(ptr b14 0), (Value.int .i64 (ops.getD i O0).s)]) ok18 ⟨(ev_hit hN47 rfl), ⟨(ev_hit hN47 rfl), trivial⟩⟩ (shas_ret A _ _ _ _ _ (by omega) hsb hO21 hall hno (ops.getD i O0).s (by omega)) ?_
        rintro _ w174 ⟨E175, rfl⟩
        have E175 := grown_of_below E175
        have z_w174 := E175.size
        have hro := hro.keep0 E175
        have hxa := hxa.keep0 E175
        have hsb := hsb.keep0 E175
        have hall : ∀ x9 ∈ A, Own w174 w.heap.size 5 1 x9.1 x9.2.length (x9.2.map u8v) := fun x9 hx9 => (hall x9 hx9).keep0 E175
        have hO20 := hO20.keep0 E175
        have hO21 := hO21.keep0 E175
        have hB32 := hB32.keep0 E175
        have hO48 := hO48.keep0 E175
        have hB62 := hB62.keep0 E175
        have hb := below_step0 hb E175 hb.size
        rcases Bool.eq_false_or_eq_true ((decide (sizeL (A.map Prod.snd) (ops.getD i O0).s ≠ 0))) with c89 | c89
        · -- 89T
         rw [c89]
         refine reg_nil ?_
         refine hK173 _ _ ?_
         refine wp_cond_true (ev_hit hN47 rfl) ?_
         refine seq_any fun K176 hK176 => ?_
         refine reg_from mixed ?_
         intro w178 E177
         have z_w178 := E177.size
         have hro := hro.keep0 E177
         have hxa := hxa.keep0 E177
         have hsb := hsb.keep0 E177
         have hall : ∀ x9 ∈ A, Own w178 w.heap.size 5 1 x9.1 x9.2.length (x9.2.map u8v) := fun x9 hx9 => (hall x9 hx9).keep0 E177
         have hO20 := hO20.keep0 E177
         have hO21 := hO21.keep0 E177
         have hB32 := hB32.keep0 E177
         have hO48 := hO48.keep0 E177
         have hB62 := hB62.keep0 E177
         have hb := below_step0 hb E177 hb.size
         refine from_still (m := 7) 7 (hd := [_, _, _, _, _, _, _]) (by kernel_rfl) rfl rfl ?_
         have hks := sizeL_nat (L := A.map Prod.snd) (s := (ops.getD i O0).s) (of_decide_eq_true c89)
         rw [List.length_map] at hks
         refine st_step rfl (fun _ h9 => op_move (ev_base hN47 rfl s47_4) h9) ?_
         refine st_step rfl (fun _ h9 => op_nil (ev_hit hN47 rfl) h9) ?_
         refine st_step rfl (fun _ h9 => op_field fld40_0 (ev_hit hN47 rfl) h9) ?_
         refine st_step rfl (fun _ h9 => op_load1 (v := sv) one38 (ev_hit hN47 rfl) (hsb.cell rfl) h9) ?_
         refine st_step rfl (fun _ h9 => op_field fld42_1 (ev_base hN47 rfl s47_6) h9) ?_
         refine st_step rfl (fun _ h9 => op_load1 (v := (Value.int .i64 (ops.getD i O0).s)) one3 (ev_hit hN47 rfl) (hB32.cell rfl) h9) ?_
         refine st_index_own (i := ((ops.getD i O0).s).toNat) slt38 (ev_hit hN47 rfl) hO21 (ev_hit hN47 rfl) (by omega) (by omega) ?_
         intro b179 o180 lo_b179 hA181
         have hA181 : AtV sv (((ops.getD i O0).s).toNat) b179 o180 := by simpa using hA181
         refine st_nil ?_
         refine from_seq (tl := [_, _]) (by decide) (by kernel_rfl) rfl ?_
         have hP184 := hO21
         refine op_store_own (vs := [(Value.slice none 0 0)]) size22 (ev_hit hN47 rfl) rfl rfl rfl rfl hP184 hA181 (by have h9 := hP184.1; simp only [List.length_cons, List.length_nil]; omega) ?_
         intro w182 hO185 E183
         have z_w182 := E183.size
         have hro := hro.keepO hP184 E183 (by omega)
         have hxa := hxa.keepO hP184 E183 (by decide)
         have hsb := hsb.keepO hP184 E183 (by decide)
         have hall : ∀ x9 ∈ A, Own w182 w.heap.size 5 1 x9.1 x9.2.length (x9.2.map u8v) := fun x9 hx9 => (hall x9 hx9).keepT hP184 E183 (by decide)
         have hO20 := hO20.keepT hP184 E183 (by decide)
         have hB32 := hB32.keepO hP184 E183 (by decide)
         have hO48 := hO48.keepT hP184 E183 (by decide)
         have hB62 := hB62.keepO hP184 E183 (by decide)
         have hb := below_stepO hb hP184 E183 hb.size (by omega)
         have hO185 : Own w182 w.heap.size 22 1 sv (A.set (ops.getD i O0).s.toNat ((Value.slice none 0 0, []) : ByV)).length (((A.set (ops.getD i O0).s.toNat ((Value.slice none 0 0, []) : ByV))).flatMap (fun x9 => [x9.1])) := by exact hO185.cast (by simp) (set_flat1 A Prod.fst (x := (Value.slice none 0 0, [])) (by omega))
         refine op_assign rfl ?_
         refine reg_nil ?_
         refine hK176 _ _ ?_
         refine one_reg ?_
         have hAs := set_small (k := (ops.getD i O0).s.toNat) (v := .slice none 0 0) hA
         have hall186 : ∀ x9 ∈ (A.set (ops.getD i O0).s.toNat ((Value.slice none 0 0, []) : ByV)), Own w182 w.heap.size 5 1 x9.1 x9.2.length (x9.2.map u8v) := (nil_of hall (Own.nil _ _ _ _))
         have hno186 : ∀ x9 ∈ (A.set (ops.getD i O0).s.toNat ((Value.slice none 0 0, []) : ByV)), NO x9.1 x9.2 := (nil_of hno (NO.none))
         have dja186 : ∀ x9 ∈ (A.set (ops.getD i O0).s.toNat ((Value.slice none 0 0, []) : ByV)), DJ x9.1 ua := (nil_of djaA (fun k9 (hk9 : (none : Option Nat) = some k9) => (by cases hk9)))
         have nea186 : ∀ x9 ∈ (A.set (ops.getD i O0).s.toNat ((Value.slice none 0 0, []) : ByV)), x9.1.ownBlock ≠ some b61 := (nil_of nea_b61 (ne_nil _))
         refine op_move (ev_base hN47 rfl s47_4) ?_
         refine op_fn (vs := [(ptr b14 0)]) ok19 ⟨(ev_hit hN47 rfl), trivial⟩ (scut_ret (A.set (ops.getD i O0).s.toNat ((Value.slice none 0 0, []) : ByV)) _ w.heap.size w.heap.size _ _ (by omega) hsb hO185 hall186 hno186) ?_
         rintro _ w189 ⟨E190, rfl, u188, B187, hx188, hO188, _, _, hmB187, hlB187, hsB187⟩
         have hsb_old := hsb
         have z_w189 := E190.size
         have hro := hro.keep E190 (fun k hk => .inr (by simp at hk; omega))
         have hxa := hxa.keep E190 (by simp; omega)
         have hO20 := hO20.keepX hsb_old E190 (by decide)
         have hB32 := hB32.keep E190 (by simp; omega)
         have hO48 := hO48.keepX hsb_old E190 (by decide)
         have hB62 := hB62.keep E190 (by simp; omega)
         have hall186 : ∀ x9 ∈ (A.set (ops.getD i O0).s.toNat ((Value.slice none 0 0, []) : ByV)), Own w189 w.heap.size 5 1 x9.1 x9.2.length (x9.2.map u8v) := fun x9 hx9 => (hall186 x9 hx9).keepX hsb_old E190 (by decide)
         have hb := below_step1 hb E190 hb.size (by omega)
         have hall191 : ∀ x9 ∈ B187, Own w189 w.heap.size 5 1 x9.1 x9.2.length (x9.2.map u8v) := (all_of hall186 hsB187)
         have hno191 : ∀ x9 ∈ B187, NO x9.1 x9.2 := (all_of hno186 hsB187)
         have dja191 : ∀ x9 ∈ B187, DJ x9.1 ua := (all_of dja186 hsB187)
         have nea191 : ∀ x9 ∈ B187, x9.1.ownBlock ≠ some b61 := (all_of nea186 hsB187)
         refine reg_nil ?_
         refine hK172 _ _ ?_
         refine seq_any fun K192 hK192 => ?_
         refine one_reg ?_
         refine op_move (ev_base hN47 rfl s47_3) ?_
         refine op_field fld42_1 (ev_base hN47 rfl s47_6) ?_
         refine op_load1 (v := (Value.int .i64 (ops.getD i O0).s)) one3 (ev_hit hN47 rfl) (hB32.cell rfl) ?_
         refine op_fn (vs := [(ptr p10 0), (Value.int .i64 (ops.getD i O0).s)]) ok13 ⟨(ev_hit hN47 rfl), ⟨(ev_hit hN47 rfl), trivial⟩⟩ (drop_ret La bsa na _ _ _ _ (by omega) hxa hO20 hPa (ops.getD i O0).s (by omega)) ?_
         rintro _ w194 ⟨E195, rfl, u193, n193, bs193, hx193, hO193, hP193, ro193⟩
         have dj196 : DJ v40 u193 := DJ.stepP ro193.ro dj44 (hO48.neB hxa (by decide)) (fun k hk => (hO48.lt k hk).2)
         have ne_b61_u193 : u193.ownBlock ≠ some b61 := ro193.ro.ne ne_b61_ua (hB62.ne hxa (by decide)) hB62.lt
         have dja197 : ∀ x9 ∈ B187, DJ x9.1 u193 := fun x9 hx9 => DJ.stepP ro193.ro (dja191 x9 hx9) ((hall191 x9 hx9).neB hxa (by decide)) (fun k hk => ((hall191 x9 hx9).lt k hk).2)
         have hro := hro.keepP hxa hO20 E195 (by omega) (by omega)
         have hB32 := hB32.keepP hxa hO20 E195 (by decide) (by decide)
         have hO48 := hO48.keepP hxa hO20 E195 (by decide) (.inr dj44)
         have hB62 := hB62.keepPn hxa E195 (by decide) ne_b61_ua
         have hall191 : ∀ x9 ∈ B187, Own w194 w.heap.size 5 1 x9.1 x9.2.length (x9.2.map u8v) := fun x9 hx9 => (hall191 x9 hx9).keepP hxa hO20 E195 (by decide) (.inr (dja191 x9 hx9))
         have hx188 := hx188.keepP hxa hO20 E195 (by decide) (by decide)
         have hO188 := hO188.keepP hxa hO20 E195 (by decide) (.inl (by decide))
         have z_w194 := E195.size
         have hb := below_stepR hb E195 hb.size (by omega) hO20 (by omega)
         have hfi_193 := hP193.fits
         have hAL198 : B187.map Prod.snd = (dropN La (ops.getD i O0).s) := by rw [hmB187, List.map_set, hAL]; rw [hAL] at c89; exact (drop_ok (of_decide_eq_true c89)).2.symm
         have hA198 := small_of hAL198 hP193.fits
         refine op_move (ev_hit hN47 rfl) ?_
         refine op_neq (ev_hit hN47 rfl) (ev_hit hN47 rfl) (fun c104 => ?_) (fun c104 => ?_)
         · -- 104T
          exact absurd (by rw [hAL] at c89; exact (drop_ok (of_decide_eq_true c89)).1) c104
         · -- 104F
          refine reg_nil ?_
          refine hK192 _ _ ?_
          refine wp_cond_false (ev_hit hN47 rfl) ?_
          refine wp_skip ?_
          refine hK65 _ _ ?_
          refine seq_any fun K199 hK199 => ?_
          refine seq_any fun K200 hK200 => ?_
          refine one_reg ?_
          refine op_move (ev_hit hN47 rfl) ?_
          refine op_move (ev_base hN47 rfl s47_7) ?_
          have hq201 : RdC w194 0 w194.heap.size 1 v40 bl.length (bl.map u8v) := by have hh : RdC w194 0 w194.heap.size 1 _ _ _ := (hO48.rdw.mono (L' := 0) (B' := w194.heap.size) (Nat.zero_le _) (by omega)); first | simpa using hh | simpa [Nat.add_comm, Nat.add_left_comm, Nat.add_assoc] using hh | exact hh.cast (by first | rfl | (simp; try omega)) (by first | rfl | (simp; done) | simp [u8v])
          refine op_fn (vs := [(Value.slice (some ⟨b61, 0, none⟩) bl.length (bl.length + 3)), v40]) ok22 ⟨(ev_hit hN47 rfl), ⟨(ev_hit hN47 rfl), trivial⟩⟩ (Ret.mono (Kept_ret bl bl _ v40 _ (by first | assumption | omega | (simp only [List.length_append, List.length_cons, List.length_nil, List.length_drop, List.length_take]; omega) | (dsimp only; omega) | decide | (simp [keyV, be8_len]; done)) (by first | assumption | omega | (simp only [List.length_append, List.length_cons, List.length_nil, List.length_drop, List.length_take]; omega) | (dsimp only; omega) | decide | (simp [keyV, be8_len]; done)) hB62 hq201) (R' := fun v' w' => Below w194.heap.size w194 w' ∧ v' = .bool true) fun v1 w1 h => ⟨h.1, h.2.trans (congrArg Value.bool (decide_eq_true rfl))⟩) ?_
          rintro _ w202 ⟨E203, rfl⟩
          have E203 := grown_of_below E203
          have z_w202 := E203.size
          have hro := hro.keep0 E203
          have hB32 := hB32.keep0 E203
          have hO48 := hO48.keep0 E203
          have hB62 := hB62.keep0 E203
          have hall191 : ∀ x9 ∈ B187, Own w202 w.heap.size 5 1 x9.1 x9.2.length (x9.2.map u8v) := fun x9 hx9 => (hall191 x9 hx9).keep0 E203
          have hx188 := hx188.keep0 E203
          have hO188 := hO188.keep0 E203
          have hx193 := hx193.keep0 E203
          have hO193 := hO193.keep0 E203
          have hb := below_step0 hb E203 hb.size
          refine op_not (ev_hit hN47 rfl) ?_
          refine reg_nil ?_
          refine hK200 _ _ ?_
          refine wp_cond_false (ev_hit hN47 rfl) ?_
          refine wp_skip ?_
          refine hK199 _ _ ?_
          refine seq_any fun K204 hK204 => ?_
          refine one_reg ?_
          refine op_move (ev_hit hN47 rfl) ?_
          refine op_fn (vs := [(Value.slice (some ⟨b61, 0, none⟩) bl.length (bl.length + 3))]) ok23 ⟨(ev_hit hN47 rfl), trivial⟩ (Spoil_ret _ _ _ _ _ (Own.ofRow (base := w.heap.size) (n := bl.length) (c := (bl.length + 3)) hB62 (by simp) (by omega) (by unfold maxLen; omega) (by omega))) ?_
          rintro _ w205 ⟨E206, rfl⟩
          have dj207 : DJ v40 (Value.slice (some ⟨b61, 0, none⟩) bl.length (bl.length + 3)) := fun k hk hg => by simp [Value.ownBlock] at hg; subst hg; exact ne_b61_v40 hk
          have dj208 : DJ u193 (Value.slice (some ⟨b61, 0, none⟩) bl.length (bl.length + 3)) := fun k hk hg => by simp [Value.ownBlock] at hg; subst hg; exact ne_b61_u193 hk
          have dja209 : ∀ x9 ∈ B187, DJ x9.1 (Value.slice (some ⟨b61, 0, none⟩) bl.length (bl.length + 3)) := fun x9 hx9 k hk hg => by simp [Value.ownBlock] at hg; subst hg; exact nea191 x9 hx9 hk
          have z_w205 := E206.size
          have hro := hro.keepO (Own.ofRow (base := w.heap.size) (n := bl.length) (c := (bl.length + 3)) hB62 (by simp) (by omega) (by unfold maxLen; omega) (by omega)) E206 (by omega)
          have hB32 := hB32.keepO (Own.ofRow (base := w.heap.size) (n := bl.length) (c := (bl.length + 3)) hB62 (by simp) (by omega) (by unfold maxLen; omega) (by omega)) E206 (by decide)
          have hO48 := hO48.keepD E206 dj207
          have hall191 : ∀ x9 ∈ B187, Own w205 w.heap.size 5 1 x9.1 x9.2.length (x9.2.map u8v) := fun x9 hx9 => (hall191 x9 hx9).keepD E206 (dja209 x9 hx9)
          have hx188 := hx188.keepO (Own.ofRow (base := w.heap.size) (n := bl.length) (c := (bl.length + 3)) hB62 (by simp) (by omega) (by unfold maxLen; omega) (by omega)) E206 (by decide)
          have hO188 := hO188.keepT (Own.ofRow (base := w.heap.size) (n := bl.length) (c := (bl.length + 3)) hB62 (by simp) (by omega) (by unfold maxLen; omega) (by omega)) E206 (by decide)
          have hx193 := hx193.keepO (Own.ofRow (base := w.heap.size) (n := bl.length) (c := (bl.length + 3)) hB62 (by simp) (by omega) (by unfold maxLen; omega) (by omega)) E206 (by decide)
          have hO193 := hO193.keepD E206 dj208
          have hb := below_stepO hb (Own.ofRow (base := w.heap.size) (n := bl.length) (c := (bl.length + 3)) hB62 (by simp) (by omega) (by unfold maxLen; omega) (by omega)) E206 hb.size (by omega)
          refine reg_nil ?_
          refine hK204 _ _ ?_
          refine seq_any fun K210 hK210 => ?_
          refine one_reg ?_
          refine op_move (ev_base hN47 rfl s47_3) ?_
          refine op_move (ev_base hN47 rfl s47_4) ?_
          refine op_fn (vs := [(ptr p10 0), (ptr b14 0)]) ok24 ⟨(ev_hit hN47 rfl), ⟨(ev_hit hN47 rfl), trivial⟩⟩ (same_ret (dropN La (ops.getD i O0).s) bs193 n193 _ _ _ _ (by omega) hx193 hO193 hP193 B187 _ _ _ _ (by omega) hx188 hO188 hall191 hno191 hAL198 dja197) ?_
          rintro _ w212 ⟨E213, rfl, u211, n211, bs211, hx211, hO211, hP211, ro211⟩
          have dj214 : DJ v40 u211 := DJ.stepP ro211.ro dj196 (hO48.neB hx193 (by decide)) (fun k hk => (hO48.lt k hk).2)
          have dja215 : ∀ x9 ∈ B187, DJ x9.1 u211 := fun x9 hx9 => DJ.stepP ro211.ro (dja197 x9 hx9) ((hall191 x9 hx9).neB hx193 (by decide)) (fun k hk => ((hall191 x9 hx9).lt k hk).2)
          have hro := hro.keepP hx193 hO193 E213 (by omega) (by omega)
          have hB32 := hB32.keepP hx193 hO193 E213 (by decide) (by decide)
          have hO48 := hO48.keepP hx193 hO193 E213 (by decide) (.inr dj196)
          have hall191 : ∀ x9 ∈ B187, Own w212 w.heap.size 5 1 x9.1 x9.2.length (x9.2.map u8v) := fun x9 hx9 => (hall191 x9 hx9).keepP hx193 hO193 E213 (by decide) (.inr (dja197 x9 hx9))
          have hx188 := hx188.keepP hx193 hO193 E213 (by decide) (by decide)
          have hO188 := hO188.keepP hx193 hO193 E213 (by decide) (.inl (by decide))
          have z_w212 := E213.size
          have hb := below_stepR hb E213 hb.size (by omega) hO193 (by omega)
          have hfi_211 := hP211.fits
          refine op_not (ev_hit hN47 rfl) ?_
          refine reg_nil ?_
          refine hK210 _ _ ?_
          refine wp_cond_false (ev_hit hN47 rfl) ?_
          refine wp_skip ?_
          refine hK24 _ _ ?_
          refine one_reg ?_
          refine op_move (ev_base hN47 rfl s47_5) ?_
          refine op_add (ev_hit hN47 rfl) rfl (add64 (by omega)) ?_
          refine op_assign (ev_hit hN47 rfl) ?_
          refine reg_nil ?_
          -- round 19F 26T 41F 60F 61F 62F 84T 89T 104F
          exact loop_next _ hN47 hd47 ⟨i + 1, B187, u188, u211, n211, bs211, (dropN La (ops.getD i O0).s), rfl, (sl_base hN47 rfl s47_0), (sl_base hN47 rfl s47_3), (sl_base hN47 rfl s47_4), (sl_hit hN47 rfl).trans (congrArg (Value.int .i64) (by omega)), (by omega), hno191, hP211, hAL198, dja215, hb, (by omega), hro, hx211, hx188, hall191, hO211, hO188⟩ (by omega)
        · -- 89F
         rw [c89]
         refine reg_nil ?_
         refine hK173 _ _ ?_
         refine wp_cond_false (ev_hit hN47 rfl) ?_
         refine wp_skip ?_
         refine hK172 _ _ ?_
         refine seq_any fun K216 hK216 => ?_
         refine one_reg ?_
         refine op_move (ev_base hN47 rfl s47_3) ?_
         refine op_field fld42_1 (ev_base hN47 rfl s47_6) ?_
         refine op_load1 (v := (Value.int .i64 (ops.getD i O0).s)) one3 (ev_hit hN47 rfl) (hB32.cell rfl) ?_
         refine op_fn (vs := [(ptr p10 0), (Value.int .i64 (ops.getD i O0).s)]) ok13 ⟨(ev_hit hN47 rfl), ⟨(ev_hit hN47 rfl), trivial⟩⟩ (drop_ret La bsa na _ _ _ _ (by omega) hxa hO20 hPa (ops.getD i O0).s (by omega)) ?_
         rintro _ w218 ⟨E219, rfl, u217, n217, bs217, hx217, hO217, hP217, ro217⟩
         have dja220 : ∀ x9 ∈ A, DJ x9.1 u217 := fun x9 hx9 => DJ.stepP ro217.ro (djaA x9 hx9) ((hall x9 hx9).neB hxa (by decide)) (fun k hk => ((hall x9 hx9).lt k hk).2)
         have dj221 : DJ v40 u217 := DJ.stepP ro217.ro dj44 (hO48.neB hxa (by decide)) (fun k hk => (hO48.lt k hk).2)
         have ne_b61_u217 : u217.ownBlock ≠ some b61 := ro217.ro.ne ne_b61_ua (hB62.ne hxa (by decide)) hB62.lt
         have hro := hro.keepP hxa hO20 E219 (by omega) (by omega)
         have hsb := hsb.keepP hxa hO20 E219 (by decide) (by decide)
         have hall : ∀ x9 ∈ A, Own w218 w.heap.size 5 1 x9.1 x9.2.length (x9.2.map u8v) := fun x9 hx9 => (hall x9 hx9).keepP hxa hO20 E219 (by decide) (.inr (djaA x9 hx9))
         have hO21 := hO21.keepP hxa hO20 E219 (by decide) (.inl (by decide))
         have hB32 := hB32.keepP hxa hO20 E219 (by decide) (by decide)
         have hO48 := hO48.keepP hxa hO20 E219 (by decide) (.inr dj44)
         have hB62 := hB62.keepPn hxa E219 (by decide) ne_b61_ua
         have z_w218 := E219.size
         have hb := below_stepR hb E219 hb.size (by omega) hO20 (by omega)
         have hfi_217 := hP217.fits
         have hAL222 : A.map Prod.snd = (dropN La (ops.getD i O0).s) := by rw [hAL]; rw [hAL] at c89; exact (drop_none (by have h9 := of_decide_eq_false c89; omega)).2.symm
         have hA222 := small_of hAL222 hP217.fits
         refine op_move (ev_hit hN47 rfl) ?_
         refine op_neq (ev_hit hN47 rfl) (ev_hit hN47 rfl) (fun c104 => ?_) (fun c104 => ?_)
         · -- 104T
          exact absurd (by rw [hAL] at c89; exact (drop_none (by have h9 := of_decide_eq_false c89; omega)).1) c104
         · -- 104F
          refine reg_nil ?_
          refine hK216 _ _ ?_
          refine wp_cond_false (ev_hit hN47 rfl) ?_
          refine wp_skip ?_
          refine hK65 _ _ ?_
          refine seq_any fun K223 hK223 => ?_
          refine seq_any fun K224 hK224 => ?_
          refine one_reg ?_
          refine op_move (ev_hit hN47 rfl) ?_
          refine op_move (ev_base hN47 rfl s47_7) ?_
          have hq225 : RdC w218 0 w218.heap.size 1 v40 bl.length (bl.map u8v) := by have hh : RdC w218 0 w218.heap.size 1 _ _ _ := (hO48.rdw.mono (L' := 0) (B' := w218.heap.size) (Nat.zero_le _) (by omega)); first | simpa using hh | simpa [Nat.add_comm, Nat.add_left_comm, Nat.add_assoc] using hh | exact hh.cast (by first | rfl | (simp; try omega)) (by first | rfl | (simp; done) | simp [u8v])
          refine op_fn (vs := [(Value.slice (some ⟨b61, 0, none⟩) bl.length (bl.length + 3)), v40]) ok22 ⟨(ev_hit hN47 rfl), ⟨(ev_hit hN47 rfl), trivial⟩⟩ (Ret.mono (Kept_ret bl bl _ v40 _ (by first | assumption | omega | (simp only [List.length_append, List.length_cons, List.length_nil, List.length_drop, List.length_take]; omega) | (dsimp only; omega) | decide | (simp [keyV, be8_len]; done)) (by first | assumption | omega | (simp only [List.length_append, List.length_cons, List.length_nil, List.length_drop, List.length_take]; omega) | (dsimp only; omega) | decide | (simp [keyV, be8_len]; done)) hB62 hq225) (R' := fun v' w' => Below w218.heap.size w218 w' ∧ v' = .bool true) fun v1 w1 h => ⟨h.1, h.2.trans (congrArg Value.bool (decide_eq_true rfl))⟩) ?_
          rintro _ w226 ⟨E227, rfl⟩
          have E227 := grown_of_below E227
          have z_w226 := E227.size
          have hro := hro.keep0 E227
          have hsb := hsb.keep0 E227
          have hall : ∀ x9 ∈ A, Own w226 w.heap.size 5 1 x9.1 x9.2.length (x9.2.map u8v) := fun x9 hx9 => (hall x9 hx9).keep0 E227
          have hO21 := hO21.keep0 E227
          have hB32 := hB32.keep0 E227
          have hO48 := hO48.keep0 E227
          have hB62 := hB62.keep0 E227
          have hx217 := hx217.keep0 E227
          have hO217 := hO217.keep0 E227
          have hb := below_step0 hb E227 hb.size
          refine op_not (ev_hit hN47 rfl) ?_
          refine reg_nil ?_
          refine hK224 _ _ ?_
          refine wp_cond_false (ev_hit hN47 rfl) ?_
          refine wp_skip ?_
          refine hK223 _ _ ?_
          refine seq_any fun K228 hK228 => ?_
          refine one_reg ?_
          refine op_move (ev_hit hN47 rfl) ?_
          refine op_fn (vs := [(Value.slice (some ⟨b61, 0, none⟩) bl.length (bl.length + 3))]) ok23 ⟨(ev_hit hN47 rfl), trivial⟩ (Spoil_ret _ _ _ _ _ (Own.ofRow (base := w.heap.size) (n := bl.length) (c := (bl.length + 3)) hB62 (by simp) (by omega) (by unfold maxLen; omega) (by omega))) ?_
          rintro _ w229 ⟨E230, rfl⟩
          have dj231 : DJ v40 (Value.slice (some ⟨b61, 0, none⟩) bl.length (bl.length + 3)) := fun k hk hg => by simp [Value.ownBlock] at hg; subst hg; exact ne_b61_v40 hk
          have dj232 : DJ u217 (Value.slice (some ⟨b61, 0, none⟩) bl.length (bl.length + 3)) := fun k hk hg => by simp [Value.ownBlock] at hg; subst hg; exact ne_b61_u217 hk
          have dja233 : ∀ x9 ∈ A, DJ x9.1 (Value.slice (some ⟨b61, 0, none⟩) bl.length (bl.length + 3)) := fun x9 hx9 k hk hg => by simp [Value.ownBlock] at hg; subst hg; exact nea_b61 x9 hx9 hk
          have z_w229 := E230.size
          have hro := hro.keepO (Own.ofRow (base := w.heap.size) (n := bl.length) (c := (bl.length + 3)) hB62 (by simp) (by omega) (by unfold maxLen; omega) (by omega)) E230 (by omega)
          have hsb := hsb.keepO (Own.ofRow (base := w.heap.size) (n := bl.length) (c := (bl.length + 3)) hB62 (by simp) (by omega) (by unfold maxLen; omega) (by omega)) E230 (by decide)
          have hall : ∀ x9 ∈ A, Own w229 w.heap.size 5 1 x9.1 x9.2.length (x9.2.map u8v) := fun x9 hx9 => (hall x9 hx9).keepD E230 (dja233 x9 hx9)
          have hO21 := hO21.keepT (Own.ofRow (base := w.heap.size) (n := bl.length) (c := (bl.length + 3)) hB62 (by simp) (by omega) (by unfold maxLen; omega) (by omega)) E230 (by decide)
          have hB32 := hB32.keepO (Own.ofRow (base := w.heap.size) (n := bl.length) (c := (bl.length + 3)) hB62 (by simp) (by omega) (by unfold maxLen; omega) (by omega)) E230 (by decide)
          have hO48 := hO48.keepD E230 dj231
          have hx217 := hx217.keepO (Own.ofRow (base := w.heap.size) (n := bl.length) (c := (bl.length + 3)) hB62 (by simp) (by omega) (by unfold maxLen; omega) (by omega)) E230 (by decide)
          have hO217 := hO217.keepD E230 dj232
          have hb := below_stepO hb (Own.ofRow (base := w.heap.size) (n := bl.length) (c := (bl.length + 3)) hB62 (by simp) (by omega) (by unfold maxLen; omega) (by omega)) E230 hb.size (by omega)
          refine reg_nil ?_
          refine hK228 _ _ ?_
          refine seq_any fun K234 hK234 => ?_
          refine one_reg ?_
          refine op_move (ev_base hN47 rfl s47_3) ?_
          refine op_move (ev_base hN47 rfl s47_4) ?_
          refine op_fn (vs := [(ptr p10 0), (ptr b14 0)]) ok24 ⟨(ev_hit hN47 rfl), ⟨(ev_hit hN47 rfl), trivial⟩⟩ (same_ret (dropN La (ops.getD i O0).s) bs217 n217 _ _ _ _ (by omega) hx217 hO217 hP217 A _ _ _ _ (by omega) hsb hO21 hall hno hAL222 dja220) ?_
          rintro _ w236 ⟨E237, rfl, u235, n235, bs235, hx235, hO235, hP235, ro235⟩
          have dja238 : ∀ x9 ∈ A, DJ x9.1 u235 := fun x9 hx9 => DJ.stepP ro235.ro (dja220 x9 hx9) ((hall x9 hx9).neB hx217 (by decide)) (fun k hk => ((hall x9 hx9).lt k hk).2)
          have dj239 : DJ v40 u235 := DJ.stepP ro235.ro dj221 (hO48.neB hx217 (by decide)) (fun k hk => (hO48.lt k hk).2)
          have hro := hro.keepP hx217 hO217 E237 (by omega) (by omega)
          have hsb := hsb.keepP hx217 hO217 E237 (by decide) (by decide)
          have hall : ∀ x9 ∈ A, Own w236 w.heap.size 5 1 x9.1 x9.2.length (x9.2.map u8v) := fun x9 hx9 => (hall x9 hx9).keepP hx217 hO217 E237 (by decide) (.inr (dja220 x9 hx9))
          have hO21 := hO21.keepP hx217 hO217 E237 (by decide) (.inl (by decide))
          have hB32 := hB32.keepP hx217 hO217 E237 (by decide) (by decide)
          have hO48 := hO48.keepP hx217 hO217 E237 (by decide) (.inr dj221)
          have z_w236 := E237.size
          have hb := below_stepR hb E237 hb.size (by omega) hO217 (by omega)
          have hfi_235 := hP235.fits
          refine op_not (ev_hit hN47 rfl) ?_
          refine reg_nil ?_
          refine hK234 _ _ ?_
          refine wp_cond_false (ev_hit hN47 rfl) ?_
          refine wp_skip ?_
          refine hK24 _ _ ?_
          refine one_reg ?_
          refine op_move (ev_base hN47 rfl s47_5) ?_
          refine op_add (ev_hit hN47 rfl) rfl (add64 (by omega)) ?_
          refine op_assign (ev_hit hN47 rfl) ?_
          refine reg_nil ?_
          -- round 19F 26T 41F 60F 61F 62F 84T 89F 104F
          exact loop_next _ hN47 hd47 ⟨i + 1, A, sv, u235, n235, bs235, (dropN La (ops.getD i O0).s), rfl, (sl_base hN47 rfl s47_0), (sl_base hN47 rfl s47_3), (sl_base hN47 rfl s47_4), (sl_hit hN47 rfl).trans (congrArg (Value.int .i64) (by omega)), (by omega), hno, hP235, hAL222, dja238, hb, (by omega), hro, hx235, hsb, hall, hO235, hO21⟩ (by omega)
       · -- 84F
        refine op_assign (ev_hit hN47 rfl) ?_
        refine reg_nil ?_
        refine hK170 _ _ ?_
        refine wp_cond_false (ev_hit hN47 rfl) ?_
        refine one_reg ?_
        refine op_eql (ev_hit hN47 rfl) rfl (fun c85 => ?_) (fun c85 => ?_)
        · -- 85T
         refine op_assign (ev_hit hN47 rfl) ?_
         refine reg_nil ?_
         refine hK169 _ _ ?_
         refine wp_cond_true (ev_hit hN47 rfl) ?_
         refine seq_any fun K240 hK240 => ?_
         refine one_reg ?_
         refine op_assign rfl ?_
         refine reg_nil ?_
         refine hK240 _ _ ?_
         refine seq_any fun K241 hK241 => ?_
         refine seq_any fun K242 hK242 => ?_
         refine one_reg ?_
         refine op_move (ev_base hN47 rfl s47_4) ?_
         refine op_field fld42_1 (ev_base hN47 rfl s47_6) ?_
         refine op_load1 (v := (Value.int .i64 (ops.getD i O0).s)) one3 (ev_hit hN47 rfl) (hB32.cell rfl) ?_
         refine op_fn (vs := [(ptr b14 0), (Value.int .i64 (ops.getD i O0).s)]) ok18 ⟨(ev_hit hN47 rfl), ⟨(ev_hit hN47 rfl), trivial⟩⟩ (shas_ret A _ _ _ _ _ (by omega) hsb hO21 hall hno (ops.getD i O0).s (by omega)) ?_
         rintro _ w243 ⟨E244, rfl⟩
         have E244 := grown_of_below E244
         have z_w243 := E244.size
         have hro := hro.keep0 E244
         have hxa := hxa.keep0 E244
         have hsb := hsb.keep0 E244
         have hall : ∀ x9 ∈ A, Own w243 w.heap.size 5 1 x9.1 x9.2.length (x9.2.map u8v) := fun x9 hx9 => (hall x9 hx9).keep0 E244
         have hO20 := hO20.keep0 E244
         have hO21 := hO21.keep0 E244
         have hB32 := hB32.keep0 E244
         have hO48 := hO48.keep0 E244
         have hB62 := hB62.keep0 E244
         have hb := below_step0 hb E244 hb.size
         rcases Bool.eq_false_or_eq_true ((decide (sizeL (A.map Prod.snd) (ops.getD i O0).s ≠ 0))) with c89 | c89
         · -- 89T
          rw [c89]
          refine reg_nil ?_
          refine hK242 _ _ ?_
          refine wp_cond_true (ev_hit hN47 rfl) ?_
          refine seq_any fun K245 hK245 => ?_
          refine reg_from mixed ?_
          intro w247 E246
          have z_w247 := E246.size
          have hro := hro.keep0 E246
          have hxa := hxa.keep0 E246
          have hsb := hsb.keep0 E246
          have hall : ∀ x9 ∈ A, Own w247 w.heap.size 5 1 x9.1 x9.2.length (x9.2.map u8v) := fun x9 hx9 => (hall x9 hx9).keep0 E246
          have hO20 := hO20.keep0 E246
          have hO21 := hO21.keep0 E246
          have hB32 := hB32.keep0 E246
          have hO48 := hO48.keep0 E246
          have hB62 := hB62.keep0 E246
          have hb := below_step0 hb E246 hb.size
          refine from_still (m := 7) 7 (hd := [_, _, _, _, _, _, _]) (by kernel_rfl) rfl rfl ?_
          have hks := sizeL_nat (L := A.map Prod.snd) (s := (ops.getD i O0).s) (of_decide_eq_true c89)
          rw [List.length_map] at hks
          refine st_step rfl (fun _ h9 => op_move (ev_base hN47 rfl s47_4) h9) ?_
          refine st_step rfl (fun _ h9 => op_nil (ev_hit hN47 rfl) h9) ?_
          refine st_step rfl (fun _ h9 => op_field fld40_0 (ev_hit hN47 rfl) h9) ?_
          refine st_step rfl (fun _ h9 => op_load1 (v := sv) one38 (ev_hit hN47 rfl) (hsb.cell rfl) h9) ?_
          refine st_step rfl (fun _ h9 => op_field fld42_1 (ev_base hN47 rfl s47_6) h9) ?_
          refine st_step rfl (fun _ h9 => op_load1 (v := (Value.int .i64 (ops.getD i O0).s)) one3 (ev_hit hN47 rfl) (hB32.cell rfl) h9) ?_
          refine st_index_own (i := ((ops.getD i O0).s).toNat) slt38 (ev_hit hN47 rfl) hO21 (ev_hit hN47 rfl) (by omega) (by omega) ?_
          intro b248 o249 lo_b248 hA250
          have hA250 : AtV sv (((ops.getD i O0).s).toNat) b248 o249 := by simpa using hA250
          refine st_nil ?_
          refine from_seq (tl := [_, _]) (by decide) (by kernel_rfl) rfl ?_
          have hP253 := hO21
          refine op_store_own (vs := [(Value.slice none 0 0)]) size22 (ev_hit hN47 rfl) rfl rfl rfl rfl hP253 hA250 (by have h9 := hP253.1; simp only [List.length_cons, List.length_nil]; omega) ?_
          intro w251 hO254 E252
          have z_w251 := E252.size
          have hro := hro.keepO hP253 E252 (by omega)
          have hxa := hxa.keepO hP253 E252 (by decide)
          have hsb := hsb.keepO hP253 E252 (by decide)
          have hall : ∀ x9 ∈ A, Own w251 w.heap.size 5 1 x9.1 x9.2.length (x9.2.map u8v) := fun x9 hx9 => (hall x9 hx9).keepT hP253 E252 (by decide)
          have hO20 := hO20.keepT hP253 E252 (by decide)
          have hB32 := hB32.keepO hP253 E252 (by decide)
          have hO48 := hO48.keepT hP253 E252 (by decide)
          have hB62 := hB62.keepO hP253 E252 (by decide)
          have hb := below_stepO hb hP253 E252 hb.size (by omega)
          have hO254 : Own w251 w.heap.size 22 1 sv (A.set (ops.getD i O0).s.toNat ((Value.slice none 0 0, []) : ByV)).length (((A.set (ops.getD i O0).s.toNat ((Value.slice none 0 0, []) : ByV))).flatMap (fun x9 => [x9.1])) := by exact hO254.cast (by simp) (set_flat1 A Prod.fst (x := (Value.slice none 0 0, [])) (by omega))
          refine op_assign rfl ?_
          refine reg_nil ?_
          refine hK245 _ _ ?_
          refine one_reg ?_
          have hAs := set_small (k := (ops.getD i O0).s.toNat) (v := .slice none 0 0) hA
          have hall255 : ∀ x9 ∈ (A.set (ops.getD i O0).s.toNat ((Value.slice none 0 0, []) : ByV)), Own w251 w.heap.size 5 1 x9.1 x9.2.length (x9.2.map u8v) := (nil_of hall (Own.nil _ _ _ _))
          have hno255 : ∀ x9 ∈ (A.set (ops.getD i O0).s.toNat ((Value.slice none 0 0, []) : ByV)), NO x9.1 x9.2 := (nil_of hno (NO.none))
          have dja255 : ∀ x9 ∈ (A.set (ops.getD i O0).s.toNat ((Value.slice none 0 0, []) : ByV)), DJ x9.1 ua := (nil_of djaA (fun k9 (hk9 : (none : Option Nat) = some k9) => (by cases hk9)))
          have nea255 : ∀ x9 ∈ (A.set (ops.getD i O0).s.toNat ((Value.slice none 0 0, []) : ByV)), x9.1.ownBlock ≠ some b61 := (nil_of nea_b61 (ne_nil _))
          refine op_move (ev_base hN47 rfl s47_4) ?_
          refine op_fn (vs := [(ptr b14 0)]) ok19 ⟨(ev_hit hN47 rfl), trivial⟩ (scut_ret (A.set (ops.getD i O0).s.toNat ((Value.slice none 0 0, []) : ByV)) _ w.heap.size w.heap.size _ _ (by omega) hsb hO254 hall255 hno255) ?_
          rintro _ w258 ⟨E259, rfl, u257, B256, hx257, hO257, _, _, hmB256, hlB256, hsB256⟩
          have hsb_old := hsb
          have z_w258 := E259.size
          have hro := hro.keep E259 (fun k hk => .inr (by simp at hk; omega))
          have hxa := hxa.keep E259 (by simp; omega)
          have hO20 := hO20.keepX hsb_old E259 (by decide)
          have hB32 := hB32.keep E259 (by simp; omega)
          have hO48 := hO48.keepX hsb_old E259 (by decide)
          have hB62 := hB62.keep E259 (by simp; omega)
          have hall255 : ∀ x9 ∈ (A.set (ops.getD i O0).s.toNat ((Value.slice none 0 0, []) : ByV)), Own w258 w.heap.size 5 1 x9.1 x9.2.length (x9.2.map u8v) := fun x9 hx9 => (hall255 x9 hx9).keepX hsb_old E259 (by decide)
          have hb := below_step1 hb E259 hb.size (by omega)
          have hall260 : ∀ x9 ∈ B256, Own w258 w.heap.size 5 1 x9.1 x9.2.length (x9.2.map u8v) := (all_of hall255 hsB256)
          have hno260 : ∀ x9 ∈ B256, NO x9.1 x9.2 := (all_of hno255 hsB256)
          have dja260 : ∀ x9 ∈ B256, DJ x9.1 ua := (all_of dja255 hsB256)
          have nea260 : ∀ x9 ∈ B256, x9.1.ownBlock ≠ some b61 := (all_of nea255 hsB256)
          refine reg_nil ?_
          refine hK241 _ _ ?_
          refine seq_any fun K261 hK261 => ?_
          refine one_reg ?_
          refine op_move (ev_base hN47 rfl s47_3) ?_
          refine op_field fld42_1 (ev_base hN47 rfl s47_6) ?_
          refine op_load1 (v := (Value.int .i64 (ops.getD i O0).s)) one3 (ev_hit hN47 rfl) (hB32.cell rfl) ?_
          refine op_fn (vs := [(ptr p10 0), (Value.int .i64 (ops.getD i O0).s)]) ok13 ⟨(ev_hit hN47 rfl), ⟨(ev_hit hN47 rfl), trivial⟩⟩ (drop_ret La bsa na _ _ _ _ (by omega) hxa hO20 hPa (ops.getD i O0).s (by omega)) ?_
          rintro _ w263 ⟨E264, rfl, u262, n262, bs262, hx262, hO262, hP262, ro262⟩
          have dj265 : DJ v40 u262 := DJ.stepP ro262.ro dj44 (hO48.neB hxa (by decide)) (fun k hk => (hO48.lt k hk).2)
          have ne_b61_u262 : u262.ownBlock ≠ some b61 := ro262.ro.ne ne_b61_ua (hB62.ne hxa (by decide)) hB62.lt
          have dja266 : ∀ x9 ∈ B256, DJ x9.1 u262 := fun x9 hx9 => DJ.stepP ro262.ro (dja260 x9 hx9) ((hall260 x9 hx9).neB hxa (by decide)) (fun k hk => ((hall260 x9 hx9).lt k hk).2)
          have hro := hro.keepP hxa hO20 E264 (by omega) (by omega)
          have hB32 := hB32.keepP hxa hO20 E264 (by decide) (by decide)
          have hO48 := hO48.keepP hxa hO20 E264 (by decide) (.inr dj44)
          have hB62 := hB62.keepPn hxa E264 (by decide) ne_b61_ua
          have hall260 : ∀ x9 ∈ B256, Own w263 w.heap.size 5 1 x9.1 x9.2.length (x9.2.map u8v) := fun x9 hx9 => (hall260 x9 hx9).keepP hxa hO20 E264 (by decide) (.inr (dja260 x9 hx9))
          have hx257 := hx257.keepP hxa hO20 E264 (by decide) (by decide)
          have hO257 := hO257.keepP hxa hO20 E264 (by decide) (.inl (by decide))
          have z_w263 := E264.size
          have hb := below_stepR hb E264 hb.size (by omega) hO20 (by omega)
          have hfi_262 := hP262.fits
          have hAL267 : B256.map Prod.snd = (dropN La (ops.getD i O0).s) := by rw [hmB256, List.map_set, hAL]; rw [hAL] at c89; exact (drop_ok (of_decide_eq_true c89)).2.symm
          have hA267 := small_of hAL267 hP262.fits
          refine op_move (ev_hit hN47 rfl) ?_
          refine op_neq (ev_hit hN47 rfl) (ev_hit hN47 rfl) (fun c104 => ?_) (fun c104 => ?_)
          · -- 104T
           exact absurd (by rw [hAL] at c89; exact (drop_ok (of_decide_eq_true c89)).1) c104
          · -- 104F
           refine reg_nil ?_
           refine hK261 _ _ ?_
           refine wp_cond_false (ev_hit hN47 rfl) ?_
           refine wp_skip ?_
           refine hK65 _ _ ?_
           refine seq_any fun K268 hK268 => ?_
           refine seq_any fun K269 hK269 => ?_
           refine one_reg ?_
           refine op_move (ev_hit hN47 rfl) ?_
           refine op_move (ev_base hN47 rfl s47_7) ?_
           have hq270 : RdC w263 0 w263.heap.size 1 v40 bl.length (bl.map u8v) := by have hh : RdC w263 0 w263.heap.size 1 _ _ _ := (hO48.rdw.mono (L' := 0) (B' := w263.heap.size) (Nat.zero_le _) (by omega)); first | simpa using hh | simpa [Nat.add_comm, Nat.add_left_comm, Nat.add_assoc] using hh | exact hh.cast (by first | rfl | (simp; try omega)) (by first | rfl | (simp; done) | simp [u8v])
           refine op_fn (vs := [(Value.slice (some ⟨b61, 0, none⟩) bl.length (bl.length + 3)), v40]) ok22 ⟨(ev_hit hN47 rfl), ⟨(ev_hit hN47 rfl), trivial⟩⟩ (Ret.mono (Kept_ret bl bl _ v40 _ (by first | assumption | omega | (simp only [List.length_append, List.length_cons, List.length_nil, List.length_drop, List.length_take]; omega) | (dsimp only; omega) | decide | (simp [keyV, be8_len]; done)) (by first | assumption | omega | (simp only [List.length_append, List.length_cons, List.length_nil, List.length_drop, List.length_take]; omega) | (dsimp only; omega) | decide | (simp [keyV, be8_len]; done)) hB62 hq270) (R' := fun v' w' => Below w263.heap.size w263 w' ∧ v' = .bool true) fun v1 w1 h => ⟨h.1, h.2.trans (congrArg Value.bool (decide_eq_true rfl))⟩) ?_
           rintro _ w271 ⟨E272, rfl⟩
           have E272 := grown_of_below E272
           have z_w271 := E272.size
           have hro := hro.keep0 E272
           have hB32 := hB32.keep0 E272
           have hO48 := hO48.keep0 E272
           have hB62 := hB62.keep0 E272
           have hall260 : ∀ x9 ∈ B256, Own w271 w.heap.size 5 1 x9.1 x9.2.length (x9.2.map u8v) := fun x9 hx9 => (hall260 x9 hx9).keep0 E272
           have hx257 := hx257.keep0 E272
           have hO257 := hO257.keep0 E272
           have hx262 := hx262.keep0 E272
           have hO262 := hO262.keep0 E272
           have hb := below_step0 hb E272 hb.size
           refine op_not (ev_hit hN47 rfl) ?_
           refine reg_nil ?_
           refine hK269 _ _ ?_
           refine wp_cond_false (ev_hit hN47 rfl) ?_
           refine wp_skip ?_
           refine hK268 _ _ ?_
           refine seq_any fun K273 hK273 => ?_
           refine one_reg ?_
           refine op_move (ev_hit hN47 rfl) ?_
           refine op_fn (vs := [(Value.slice (some ⟨b61, 0, none⟩) bl.length (bl.length + 3))]) ok23 ⟨(ev_hit hN47 rfl), trivial⟩ (Spoil_ret _ _ _ _ _ (Own.ofRow (base := w.heap.size) (n := bl.length) (c := (bl.length + 3)) hB62 (by simp) (by omega) (by unfold maxLen; omega) (by omega))) ?_
           rintro _ w274 ⟨E275, rfl⟩
           have dj276 : DJ v40 (Value.slice (some ⟨b61, 0, none⟩) bl.length (bl.length + 3)) := fun k hk hg => by simp [Value.ownBlock] at hg; subst hg; exact ne_b61_v40 hk
           have dj277 : DJ u262 (Value.slice (some ⟨b61, 0, none⟩) bl.length (bl.length + 3)) := fun k hk hg => by simp [Value.ownBlock] at hg; subst hg; exact ne_b61_u262 hk
           have dja278 : ∀ x9 ∈ B256, DJ x9.1 (Value.slice (some ⟨b61, 0, none⟩) bl.length (bl.length + 3)) := fun x9 hx9 k hk hg => by simp [Value.ownBlock] at hg; subst hg; exact nea260 x9 hx9 hk
           have z_w274 := E275.size
           have hro := hro.keepO (Own.ofRow (base := w.heap.size) (n := bl.length) (c := (bl.length + 3)) hB62 (by simp) (by omega) (by unfold maxLen; omega) (by omega)) E275 (by omega)
           have hB32 := hB32.keepO (Own.ofRow (base := w.heap.size) (n := bl.length) (c := (bl.length + 3)) hB62 (by simp) (by omega) (by unfold maxLen; omega) (by omega)) E275 (by decide)
           have hO48 := hO48.keepD E275 dj276
           have hall260 : ∀ x9 ∈ B256, Own w274 w.heap.size 5 1 x9.1 x9.2.length (x9.2.map u8v) := fun x9 hx9 => (hall260 x9 hx9).keepD E275 (dja278 x9 hx9)
           have hx257 := hx257.keepO (Own.ofRow (base := w.heap.size) (n := bl.length) (c := (bl.length + 3)) hB62 (by simp) (by omega) (by unfold maxLen; omega) (by omega)) E275 (by decide)
           have hO257 := hO257.keepT (Own.ofRow (base := w.heap.size) (n := bl.length) (c := (bl.length + 3)) hB62 (by simp) (by omega) (by unfold maxLen; omega) (by omega)) E275 (by decide)
           have hx262 := hx262.keepO (Own.ofRow (base := w.heap.size) (n := bl.length) (c := (bl.length + 3)) hB62 (by simp) (by omega) (by unfold maxLen; omega) (by omega)) E275 (by decide)
           have hO262 := hO262.keepD E275 dj277
           have hb := below_stepO hb (Own.ofRow (base := w.heap.size) (n := bl.length) (c := (bl.length + 3)) hB62 (by simp) (by omega) (by unfold maxLen; omega) (by omega)) E275 hb.size (by omega)
           refine reg_nil ?_
           refine hK273 _ _ ?_
           refine seq_any fun K279 hK279 => ?_
           refine one_reg ?_
           refine op_move (ev_base hN47 rfl s47_3) ?_
           refine op_move (ev_base hN47 rfl s47_4) ?_
           refine op_fn (vs := [(ptr p10 0), (ptr b14 0)]) ok24 ⟨(ev_hit hN47 rfl), ⟨(ev_hit hN47 rfl), trivial⟩⟩ (same_ret (dropN La (ops.getD i O0).s) bs262 n262 _ _ _ _ (by omega) hx262 hO262 hP262 B256 _ _ _ _ (by omega) hx257 hO257 hall260 hno260 hAL267 dja266) ?_
           rintro _ w281 ⟨E282, rfl, u280, n280, bs280, hx280, hO280, hP280, ro280⟩
           have dj283 : DJ v40 u280 := DJ.stepP ro280.ro dj265 (hO48.neB hx262 (by decide)) (fun k hk => (hO48.lt k hk).2)
           have dja284 : ∀ x9 ∈ B256, DJ x9.1 u280 := fun x9 hx9 => DJ.stepP ro280.ro (dja266 x9 hx9) ((hall260 x9 hx9).neB hx262 (by decide)) (fun k hk => ((hall260 x9 hx9).lt k hk).2)
           have hro := hro.keepP hx262 hO262 E282 (by omega) (by omega)
           have hB32 := hB32.keepP hx262 hO262 E282 (by decide) (by decide)
           have hO48 := hO48.keepP hx262 hO262 E282 (by decide) (.inr dj265)
           have hall260 : ∀ x9 ∈ B256, Own w281 w.heap.size 5 1 x9.1 x9.2.length (x9.2.map u8v) := fun x9 hx9 => (hall260 x9 hx9).keepP hx262 hO262 E282 (by decide) (.inr (dja266 x9 hx9))
           have hx257 := hx257.keepP hx262 hO262 E282 (by decide) (by decide)
           have hO257 := hO257.keepP hx262 hO262 E282 (by decide) (.inl (by decide))
           have z_w281 := E282.size
           have hb := below_stepR hb E282 hb.size (by omega) hO262 (by omega)
           have hfi_280 := hP280.fits
           refine op_not (ev_hit hN47 rfl) ?_
           refine reg_nil ?_
           refine hK279 _ _ ?_
           refine wp_cond_false (ev_hit hN47 rfl) ?_
           refine wp_skip ?_
           refine hK24 _ _ ?_
           refine one_reg ?_
           refine op_move (ev_base hN47 rfl s47_5) ?_
           refine op_add (ev_hit hN47 rfl) rfl (add64 (by omega)) ?_
           refine op_assign (ev_hit hN47 rfl) ?_
           refine reg_nil ?_
           -- round 19F 26T 41F 60F 61F 62F 84F 85T 89T 104F
           exact loop_next _ hN47 hd47 ⟨i + 1, B256, u257, u280, n280, bs280, (dropN La (ops.getD i O0).s), rfl, (sl_base hN47 rfl s47_0), (sl_base hN47 rfl s47_3), (sl_base hN47 rfl s47_4), (sl_hit hN47 rfl).trans (congrArg (Value.int .i64) (by omega)), (by omega), hno260, hP280, hAL267, dja284, hb, (by omega), hro, hx280, hx257, hall260, hO280, hO257⟩ (by omega)
         · -- 89F
          rw [c89]
          refine reg_nil ?_
          refine hK242 _ _ ?_
          refine wp_cond_false (ev_hit hN47 rfl) ?_
          refine wp_skip ?_
          refine hK241 _ _ ?_
          refine seq_any fun K285 hK285 => ?_
          refine one_reg ?_
          refine op_move (ev_base hN47 rfl s47_3) ?_
          refine op_field fld42_1 (ev_base hN47 rfl s47_6) ?_
          refine op_load1 (v := (Value.int .i64 (ops.getD i O0).s)) one3 (ev_hit hN47 rfl) (hB32.cell rfl) ?_
          refine op_fn (vs := [(ptr p10 0), (Value.int .i64 (ops.getD i O0).s)]) ok13 ⟨(ev_hit hN47 rfl), ⟨(ev_hit hN47 rfl), trivial⟩⟩ (drop_ret La bsa na _ _ _ _ (by omega) hxa hO20 hPa (ops.getD i O0).s (by omega)) ?_
          rintro _ w287 ⟨E288, rfl, u286, n286, bs286, hx286, hO286, hP286, ro286⟩
          have dja289 : ∀ x9 ∈ A, DJ x9.1 u286 := fun x9 hx9 => DJ.stepP ro286.ro (djaA x9 hx9) ((hall x9 hx9).neB hxa (by decide)) (fun k hk => ((hall x9 hx9).lt k hk).2)
          have dj290 : DJ v40 u286 := DJ.stepP ro286.ro dj44 (hO48.neB hxa (by decide)) (fun k hk => (hO48.lt k hk).2)
          have ne_b61_u286 : u286.ownBlock ≠ some b61 := ro286.ro.ne ne_b61_ua (hB62.ne hxa (by decide)) hB62.lt
          have hro := hro.keepP hxa hO20 E288 (by omega) (by omega)
          have hsb := hsb.keepP hxa hO20 E288 (by decide) (by decide)
          have hall : ∀ x9 ∈ A, Own w287 w.heap.size 5 1 x9.1 x9.2.length (x9.2.map u8v) := fun x9 hx9 => (hall x9 hx9).keepP hxa hO20 E288 (by decide) (.inr (djaA x9 hx9))
          have hO21 := hO21.keepP hxa hO20 E288 (by decide) (.inl (by decide))
          have hB32 := hB32.keepP hxa hO20 E288 (by decide) (by decide)
          have hO48 := hO48.keepP hxa hO20 E288 (by decide) (.inr dj44)
          have hB62 := hB62.keepPn hxa E288 (by decide) ne_b61_ua
          have z_w287 := E288.size
          have hb := below_stepR hb E288 hb.size (by omega) hO20 (by omega)
          have hfi_286 := hP286.fits
          have hAL291 : A.map Prod.snd = (dropN La (ops.getD i O0).s) := by rw [hAL]; rw [hAL] at c89; exact (drop_none (by have h9 := of_decide_eq_false c89; omega)).2.symm
          have hA291 := small_of hAL291 hP286.fits
          refine op_move (ev_hit hN47 rfl) ?_
          refine op_neq (ev_hit hN47 rfl) (ev_hit hN47 rfl) (fun c104 => ?_) (fun c104 => ?_)
          · -- 104T
           exact absurd (by rw [hAL] at c89; exact (drop_none (by have h9 := of_decide_eq_false c89; omega)).1) c104
          · -- 104F
           refine reg_nil ?_
           refine hK285 _ _ ?_
           refine wp_cond_false (ev_hit hN47 rfl) ?_
           refine wp_skip ?_
           refine hK65 _ _ ?_
           refine seq_any fun K292 hK292 => ?_
           refine seq_any fun K293 hK293 => ?_
           refine one_reg ?_
           refine op_move (ev_hit hN47 rfl) ?_
           refine op_move (ev_base hN47 rfl s47_7) ?_
           have hq294 : RdC w287 0 w287.heap.size 1 v40 bl.length (bl.map u8v) := by have hh : RdC w287 0 w287.heap.size 1 _ _ _ := (hO48.rdw.mono (L' := 0) (B' := w287.heap.size) (Nat.zero_le _) (by omega)); first | simpa using hh | simpa [Nat.add_comm, Nat.add_left_comm, Nat.add_assoc] using hh | exact hh.cast (by first | rfl | (simp; try omega)) (by first | rfl | (simp; done) | simp [u8v])
           refine op_fn (vs := [(Value.slice (some ⟨b61, 0, none⟩) bl.length (bl.length + 3)), v40]) ok22 ⟨(ev_hit hN47 rfl), ⟨(ev_hit hN47 rfl), trivial⟩⟩ (Ret.mono (Kept_ret bl bl _ v40 _ (by first | assumption | omega | (simp only [List.length_append, List.length_cons, List.length_nil, List.length_drop, List.length_take]; omega) | (dsimp only; omega) | decide | (simp [keyV, be8_len]; done)) (by first | assumption | omega | (simp only [List.length_append, List.length_cons, List.length_nil, List.length_drop, List.length_take]; omega) | (dsimp only; omega) | decide | (simp [keyV, be8_len]; done)) hB62 hq294) (R' := fun v' w' => Below w287.heap.size w287 w' ∧ v' = .bool true) fun v1 w1 h => ⟨h.1, h.2.trans (congrArg Value.bool (decide_eq_true rfl))⟩) ?_
           rintro _ w295 ⟨E296, rfl⟩
           have E296 := grown_of_below E296
           have z_w295 := E296.size
           have hro := hro.keep0 E296
           have hsb := hsb.keep0 E296
           have hall : ∀ x9 ∈ A, Own w295 w.heap.size 5 1 x9.1 x9.2.length (x9.2.map u8v) := fun x9 hx9 => (hall x9 hx9).keep0 E296
           have hO21 := hO21.keep0 E296
           have hB32 := hB32.keep0 E296
           have hO48 := hO48.keep0 E296
           have hB62 := hB62.keep0 E296
           have hx286 := hx286.keep0 E296
           have hO286 := hO286.keep0 E296
           have hb := below_step0 hb E296 hb.size
           refine op_not (ev_hit hN47 rfl) ?_
           refine reg_nil ?_
           refine hK293 _ _ ?_
           refine wp_cond_false (ev_hit hN47 rfl) ?_
           refine wp_skip ?_
           refine hK292 _ _ ?_
           refine seq_any fun K297 hK297 => ?_
           refine one_reg ?_
           refine op_move (ev_hit hN47 rfl) ?_
           refine op_fn (vs := [(Value.slice (some ⟨b61, 0, none⟩) bl.length (bl.length + 3))]) ok23 ⟨(ev_hit hN47 rfl), trivial⟩ (Spoil_ret _ _ _ _ _ (Own.ofRow (base := w.heap.size) (n := bl.length) (c := (bl.length + 3)) hB62 (by simp) (by omega) (by unfold maxLen; omega) (by omega))) ?_
           rintro _ w298 ⟨E299, rfl⟩
           have dj300 : DJ v40 (Value.slice (some ⟨b61, 0, none⟩) bl.length (bl.length + 3)) := fun k hk hg => by simp [Value.ownBlock] at hg; subst hg; exact ne_b61_v40 hk
           have dj301 : DJ u286 (Value.slice (some ⟨b61, 0, none⟩) bl.length (bl.length + 3)) := fun k hk hg => by simp [Value.ownBlock] at hg; subst hg; exact ne_b61_u286 hk
           have dja302 : ∀ x9 ∈ A, DJ x9.1 (Value.slice (some ⟨b61, 0, none⟩) bl.length (bl.length + 3)) := fun x9 hx9 k hk hg => by simp [Value.ownBlock] at hg; subst hg; exact nea_b61 x9 hx9 hk
           have z_w298 := E299.size
           have hro := hro.keepO (Own.ofRow (base := w.heap.size) (n := bl.length) (c := (bl.length + 3)) hB62 (by simp) (by omega) (by unfold maxLen; omega) (by omega)) E299 (by omega)
           have hsb := hsb.keepO (Own.ofRow (base := w.heap.size) (n := bl.length) (c := (bl.length + 3)) hB62 (by simp) (by omega) (by unfold maxLen; omega) (by omega)) E299 (by decide)
           have hall : ∀ x9 ∈ A, Own w298 w.heap.size 5 1 x9.1 x9.2.length (x9.2.map u8v) := fun x9 hx9 => (hall x9 hx9).keepD E299 (dja302 x9 hx9)
           have hO21 := hO21.keepT (Own.ofRow (base := w.heap.size) (n := bl.length) (c := (bl.length + 3)) hB62 (by simp) (by omega) (by unfold maxLen; omega) (by omega)) E299 (by decide)
           have hB32 := hB32.keepO (Own.ofRow (base := w.heap.size) (n := bl.length) (c := (bl.length + 3)) hB62 (by simp) (by omega) (by unfold maxLen; omega) (by omega)) E299 (by decide)
           have hO48 := hO48.keepD E299 dj300
           have hx286 := hx286.keepO (Own.ofRow (base := w.heap.size) (n := bl.length) (c := (bl.length + 3)) hB62 (by simp) (by omega) (by unfold maxLen; omega) (by omega)) E299 (by decide)
           have hO286 := hO286.keepD E299 dj301
           have hb := below_stepO hb (Own.ofRow (base := w.heap.size) (n := bl.length) (c := (bl.length + 3)) hB62 (by simp) (by omega) (by unfold maxLen; omega) (by omega)) E299 hb.size (by omega)
           refine reg_nil ?_
           refine hK297 _ _ ?_
           refine seq_any fun K303 hK303 => ?_
           refine one_reg ?_
           refine op_move (ev_base hN47 rfl s47_3) ?_
           refine op_move (ev_base hN47 rfl s47_4) ?_
           refine op_fn (vs := [(ptr p10 0), (ptr b14 0)]) ok24 ⟨(ev_hit hN47 rfl), ⟨(ev_hit hN47 rfl), trivial⟩⟩ (same_ret (dropN La (ops.getD i O0).s) bs286 n286 _ _ _ _ (by omega) hx286 hO286 hP286 A _ _ _ _ (by omega) hsb hO21 hall hno hAL291 dja289) ?_
           rintro _ w305 ⟨E306, rfl, u304, n304, bs304, hx304, hO304, hP304, ro304⟩
           have dja307 : ∀ x9 ∈ A, DJ x9.1 u304 := fun x9 hx9 => DJ.stepP ro304.ro (dja289 x9 hx9) ((hall x9 hx9).neB hx286 (by decide)) (fun k hk => ((hall x9 hx9).lt k hk).2)
           have dj308 : DJ v40 u304 := DJ.stepP ro304.ro dj290 (hO48.neB hx286 (by decide)) (fun k hk => (hO48.lt k hk).2)
           have hro := hro.keepP hx286 hO286 E306 (by omega) (by omega)
           have hsb := hsb.keepP hx286 hO286 E306 (by decide) (by decide)
           have hall : ∀ x9 ∈ A, Own w305 w.heap.size 5 1 x9.1 x9.2.length (x9.2.map u8v) := fun x9 hx9 => (hall x9 hx9).keepP hx286 hO286 E306 (by decide) (.inr (dja289 x9 hx9))
           have hO21 := hO21.keepP hx286 hO286 E306 (by decide) (.inl (by decide))
           have hB32 := hB32.keepP hx286 hO286 E306 (by decide) (by decide)
           have hO48 := hO48.keepP hx286 hO286 E306 (by decide) (.inr dj290)
           have z_w305 := E306.size
           have hb := below_stepR hb E306 hb.size (by omega) hO286 (by omega)
           have hfi_304 := hP304.fits
           refine op_not (ev_hit hN47 rfl) ?_
           refine reg_nil ?_
           refine hK303 _ _ ?_
           refine wp_cond_false (ev_hit hN47 rfl) ?_
           refine wp_skip ?_
           refine hK24 _ _ ?_
           refine one_reg ?_
           refine op_move (ev_base hN47 rfl s47_5) ?_
           refine op_add (ev_hit hN47 rfl) rfl (add64 (by omega)) ?_
           refine op_assign (ev_hit hN47 rfl) ?_
           refine reg_nil ?_
           -- round 19F 26T 41F 60F 61F 62F 84F 85T 89F 104F
           exact loop_next _ hN47 hd47 ⟨i + 1, A, sv, u304, n304, bs304, (dropN La (ops.getD i O0).s), rfl, (sl_base hN47 rfl s47_0), (sl_base hN47 rfl s47_3), (sl_base hN47 rfl s47_4), (sl_hit hN47 rfl).trans (congrArg (Value.int .i64) (by omega)), (by omega), hno, hP304, hAL291, dja307, hb, (by omega), hro, hx304, hsb, hall, hO304, hO21⟩ (by omega)
        · -- 85F
         refine op_assign (ev_hit hN47 rfl) ?_
         refine reg_nil ?_
         refine hK169 _ _ ?_
         refine wp_cond_false (ev_hit hN47 rfl) ?_
         refine seq_any fun K309 hK309 => ?_
         refine one_reg ?_
         refine op_eql (ev_hit hN47 rfl) rfl (fun c106 => ?_) (fun c106 => ?_)
         · -- 106T
          refine op_assign (ev_hit hN47 rfl) ?_
          refine reg_nil ?_
          refine hK309 _ _ ?_
          refine wp_cond_true (ev_hit hN47 rfl) ?_
          refine seq_any fun K310 hK310 => ?_
          refine reg_calls (Φ := phiV [(fun uz => uz = (ptr p10 0)), (fun uz => uz = (ptr b30 1)), (fun uz => uz = (Value.int .i64 (ops.getD i O0).s)), (fun uz => uz = (Value.slice (some ⟨b61, 0, none⟩) bl.length (bl.length + 3))), (fun uz => uz = (Value.int .i64 (setE La (ops.getD i O0).s bl))), (fun uz => uz = (ptr b14 0)), (fun uz => uz = (ptr b30 1)), (fun uz => uz = (Value.int .i64 (ops.getD i O0).s)), (fun uz => uz = v40), (fun uz => uz = (Value.int .i64 (setE (A.map Prod.snd) (ops.getD i O0).s bl))), (fun uz => uz = (Value.bool (decide ((setE La (ops.getD i O0).s bl) ≠ (setE (A.map Prod.snd) (ops.getD i O0).s bl)))))]) (G := fun w' => Bx w' b30 42 [(Value.int .i64 (ops.getD i O0).k), (Value.int .i64 (ops.getD i O0).s), (Value.int .i64 (ops.getD i O0).z), (Value.int .u8 ((ops.getD i O0).x.toNat : Int))]) [4, 9] mixed (by kernel_rfl) (by kernel_rfl) (by kernel_rfl) (by kernel_rfl) hN47 (fun w1 w2 E h => h.keep0 E) hB32 (ObGs.get (ObGs.cons ?_ (ObGs.cons ?_ (ObGs.cons ?_ (ObGs.cons ?_ (ObGs.pass rfl (ObGs.cons ?_ (ObGs.cons ?_ (ObGs.cons ?_ (ObGs.cons ?_ (ObGs.pass rfl (ObGs.cons ?_ (ObGs.nil))))))))))))) (by simp only [putsL_defers]) ?_
          ·
           intro aA wA hNA hGA hbsA hdpA
           have qA_3 := (hbsA 3 rfl).trans (sl_base hN47 rfl s47_3)
           refine op_move (ev_base hNA rfl qA_3) ?_
           exact obG_end rfl rfl
          ·
           intro aA wA hNA hGA hbsA hdpA
           have qA_6 := (hbsA 6 rfl).trans (sl_base hN47 rfl s47_6)
           refine op_field fld42_1 (ev_base hNA rfl qA_6) ?_
           exact obG_end rfl rfl
          ·
           intro aA wA hNA hGA hbsA hdpA
           have qA_108 : Sl aA 108 (ptr b30 1) := hdpA 1 _ 108 (by kernel_rfl) rfl rfl
           refine op_load1 (v := (Value.int .i64 (ops.getD i O0).s)) one3 (ev_base hNA rfl qA_108) (hGA.cell rfl) ?_
           exact obG_end rfl rfl
          ·
           intro aA wA hNA hGA hbsA hdpA
           have qA_9 := (hbsA 9 rfl).trans (sl_hit hN47 rfl)
           refine op_move (ev_base hNA rfl qA_9) ?_
           exact obG_end rfl rfl
          ·
           intro aA wA hNA hGA hbsA hdpA
           have qA_4 := (hbsA 4 rfl).trans (sl_base hN47 rfl s47_4)
           refine op_move (ev_base hNA rfl qA_4) ?_
           exact obG_end rfl rfl
          ·
           intro aA wA hNA hGA hbsA hdpA
           have qA_6 := (hbsA 6 rfl).trans (sl_base hN47 rfl s47_6)
           refine op_field fld42_1 (ev_base hNA rfl qA_6) ?_
           exact obG_end rfl rfl
          ·
           intro aA wA hNA hGA hbsA hdpA
           have qA_113 : Sl aA 113 (ptr b30 1) := hdpA 6 _ 113 (by kernel_rfl) rfl rfl
           refine op_load1 (v := (Value.int .i64 (ops.getD i O0).s)) one3 (ev_base hNA rfl qA_113) (hGA.cell rfl) ?_
           exact obG_end rfl rfl
          ·
           intro aA wA hNA hGA hbsA hdpA
           have qA_7 := (hbsA 7 rfl).trans (sl_base hN47 rfl s47_7)
           refine op_move (ev_base hNA rfl qA_7) ?_
           exact obG_end rfl rfl
          ·
           intro aA wA hNA hGA hbsA hdpA
           have qA_111 : Sl aA 111 (Value.int .i64 (setE La (ops.getD i O0).s bl)) := hdpA 4 _ 111 (by kernel_rfl) rfl rfl
           have qA_116 : Sl aA 116 (Value.int .i64 (setE (A.map Prod.snd) (ops.getD i O0).s bl)) := hdpA 9 _ 116 (by kernel_rfl) rfl rfl
           refine op_cmp (b := (decide ((setE La (ops.getD i O0).s bl) ≠ (setE (A.map Prod.snd) (ops.getD i O0).s bl)))) (ev_base hNA rfl qA_111) (ev_base hNA rfl qA_116) (b_neq rfl) ?_
           exact obG_end rfl rfl
          ·
           intro w311 E311 _ a311 hN311 hbs311 hdp311 o_ ho_; obtain rfl := Option.some.inj ho_
           have z_w311 := E311.size
           have hro := hro.keep0 E311
           have hxa := hxa.keep0 E311
           have hsb := hsb.keep0 E311
           have hall : ∀ x9 ∈ A, Own w311 w.heap.size 5 1 x9.1 x9.2.length (x9.2.map u8v) := fun x9 hx9 => (hall x9 hx9).keep0 E311
           have hO20 := hO20.keep0 E311
           have hO21 := hO21.keep0 E311
           have hB32 := hB32.keep0 E311
           have hO48 := hO48.keep0 E311
           have hB62 := hB62.keep0 E311
           have hb := below_step0 hb E311 hb.size
           have q311_107 : Sl a311 107 (ptr p10 0) := hdp311 0 _ 107 (by kernel_rfl) rfl rfl
           have q311_109 : Sl a311 109 (Value.int .i64 (ops.getD i O0).s) := hdp311 2 _ 109 (by kernel_rfl) rfl rfl
           have q311_110 : Sl a311 110 (Value.slice (some ⟨b61, 0, none⟩) bl.length (bl.length + 3)) := hdp311 3 _ 110 (by kernel_rfl) rfl rfl
           have hrx312 : RdC w311 b61 (b61 + 1) 1 (Value.slice (some ⟨b61, 0, none⟩) bl.length (bl.length + 3)) (bl : By).length ((bl : By).map u8v) := (show RdC w311 b61 (b61 + 1) 1 (Value.slice (some ⟨b61, 0, none⟩) bl.length (bl.length + 3)) bl.length ((bl.map u8v)) from by simpa using (RdC.ofRow (sz := 1) (m := bl.length) (c := (bl.length + 3)) hB62 (by simp) (by omega) (by unfold maxLen; omega)))
           refine op_fn (vs := [(ptr p10 0), (Value.int .i64 (ops.getD i O0).s), (Value.slice (some ⟨b61, 0, none⟩) bl.length (bl.length + 3))]) ok20 ⟨(ev_base hN311 rfl q311_107), ⟨(ev_base hN311 rfl q311_109), ⟨(ev_base hN311 rfl q311_110), trivial⟩⟩⟩ (setx_ret La bsa na _ _ _ _ (by omega) hxa hO20 hPa (bl : By) _ _ _ hrx312 (lit_apart (hB62.ne hxa (by decide)) ne_b61_ua) hB62.lt (ops.getD i O0).s (by omega)) ?_
           rintro _ w314 ⟨E315, rfl, u313, n313, bs313, hx313, hO313, hP313, ro313⟩
           have dja316 : ∀ x9 ∈ A, DJ x9.1 u313 := fun x9 hx9 => DJ.stepP ro313.ro (djaA x9 hx9) ((hall x9 hx9).neB hxa (by decide)) (fun k hk => ((hall x9 hx9).lt k hk).2)
           have dj317 : DJ v40 u313 := DJ.stepP ro313.ro dj44 (hO48.neB hxa (by decide)) (fun k hk => (hO48.lt k hk).2)
           have ne_b61_u313 : u313.ownBlock ≠ some b61 := ro313.ro.ne ne_b61_ua (hB62.ne hxa (by decide)) hB62.lt
           have hro := hro.keepP hxa hO20 E315 (by omega) (by omega)
           have hsb := hsb.keepP hxa hO20 E315 (by decide) (by decide)
           have hall : ∀ x9 ∈ A, Own w314 w.heap.size 5 1 x9.1 x9.2.length (x9.2.map u8v) := fun x9 hx9 => (hall x9 hx9).keepP hxa hO20 E315 (by decide) (.inr (djaA x9 hx9))
           have hO21 := hO21.keepP hxa hO20 E315 (by decide) (.inl (by decide))
           have hB32 := hB32.keepP hxa hO20 E315 (by decide) (by decide)
           have hO48 := hO48.keepP hxa hO20 E315 (by decide) (.inr dj44)
           have hB62 := hB62.keepPn hxa E315 (by decide) ne_b61_ua
           have z_w314 := E315.size
           have hb := below_stepR hb E315 hb.size (by omega) hO20 (by omega)
           have hfi_313 := hP313.fits
           refine kl_end rfl rfl hB32 ?_
           intro w318 E318 _ a318 hN318 hbs318 hdp318 o_ ho_; obtain rfl := Option.some.inj ho_
           have z_w318 := E318.size
           have hro := hro.keep0 E318
           have hsb := hsb.keep0 E318
           have hall : ∀ x9 ∈ A, Own w318 w.heap.size 5 1 x9.1 x9.2.length (x9.2.map u8v) := fun x9 hx9 => (hall x9 hx9).keep0 E318
           have hO21 := hO21.keep0 E318
           have hB32 := hB32.keep0 E318
           have hO48 := hO48.keep0 E318
           have hB62 := hB62.keep0 E318
           have hx313 := hx313.keep0 E318
           have hO313 := hO313.keep0 E318
           have hb := below_step0 hb E318 hb.size
           have q318_112 : Sl a318 112 (ptr b14 0) := hdp318 5 _ 112 (by kernel_rfl) rfl rfl
           have q318_114 : Sl a318 114 (Value.int .i64 (ops.getD i O0).s) := hdp318 7 _ 114 (by kernel_rfl) rfl rfl
           have q318_115 : Sl a318 115 v40 := hdp318 8 _ 115 (by kernel_rfl) rfl rfl
           have hbl9 : bl.length = bl.length := by omega
           have hbv319 : Own w318 w.heap.size 5 1 v40 bl.length (bl.map u8v) := hO48.cast hbl9.symm rfl
           refine op_fn (vs := [(ptr b14 0), (Value.int .i64 (ops.getD i O0).s), v40]) ok21 ⟨(ev_base hN318 rfl q318_112), ⟨(ev_base hN318 rfl q318_114), ⟨(ev_base hN318 rfl q318_115), trivial⟩⟩⟩ (sset_ret A _ w.heap.size w.heap.size _ _ (by omega) hsb hO21 hall hno (by omega) (by omega) bl _ hbv319 (ops.getD i O0).s (by omega)) ?_
           rintro _ w321 ⟨E322, rfl, u320, hx320, hO320⟩
           have hsb_old := hsb
           have z_w321 := E322.size
           have hro := hro.keep E322 (fun k hk => .inr (by simp at hk; omega))
           have hall : ∀ x9 ∈ A, Own w321 w.heap.size 5 1 x9.1 x9.2.length (x9.2.map u8v) := fun x9 hx9 => (hall x9 hx9).keepX hsb_old E322 (by decide)
           have hB32 := hB32.keep E322 (by simp; omega)
           have hO48 := hO48.keepX hsb_old E322 (by decide)
           have hB62 := hB62.keep E322 (by simp; omega)
           have hx313 := hx313.keep E322 (by simp; omega)
           have hO313 := hO313.keepX hsb_old E322 (by decide)
           have hb := below_step1 hb E322 hb.size (by omega)
           have hall323 : ∀ x9 ∈ (setA A (ops.getD i O0).s (v40, bl)), Own w321 w.heap.size 5 1 x9.1 x9.2.length (x9.2.map u8v) := (setA_of hall (fun _ => hO48.cast hbl9.symm rfl))
           have hno323 : ∀ x9 ∈ (setA A (ops.getD i O0).s (v40, bl)), NO x9.1 x9.2 := (setA_of hno (fun hbd => no_of hbv319 hbd))
           have dja323 : ∀ x9 ∈ (setA A (ops.getD i O0).s (v40, bl)), DJ x9.1 u313 := (setA_of dja316 (fun _ => dj317))
           have nea323 : ∀ x9 ∈ (setA A (ops.getD i O0).s (v40, bl)), x9.1.ownBlock ≠ some b61 := (setA_of nea_b61 (fun _ => ne_b61_v40))
           have hAL324 : (setA A (ops.getD i O0).s (v40, bl)).map Prod.snd = (setN La (ops.getD i O0).s bl) := by rw [setA_map, hAL]
           have hA324 := small_of hAL324 hP313.fits
           refine kl_end rfl rfl hB32 ?_
           intro w325 E325 a325 hN325 hd325 hbs325 hph325
           have hd325 := hd325.trans ((by simp only [putsL_defers] : _ = _).trans hd47)
           have z_w325 := E325.size
           have hro := hro.keep0 E325
           have hB32 := hB32.keep0 E325
           have hO48 := hO48.keep0 E325
           have hB62 := hB62.keep0 E325
           have hx313 := hx313.keep0 E325
           have hO313 := hO313.keep0 E325
           have hall323 : ∀ x9 ∈ (setA A (ops.getD i O0).s (v40, bl)), Own w325 w.heap.size 5 1 x9.1 x9.2.length (x9.2.map u8v) := fun x9 hx9 => (hall323 x9 hx9).keep0 E325
           have hx320 := hx320.keep0 E325
           have hO320 := hO320.keep0 E325
           have hb := below_step0 hb E325 hb.size
           have s325_0 := (hbs325 0 rfl).trans (sl_base hN47 rfl s47_0)
           have s325_3 := (hbs325 3 rfl).trans (sl_base hN47 rfl s47_3)
           have s325_4 := (hbs325 4 rfl).trans (sl_base hN47 rfl s47_4)
           have s325_5 := (hbs325 5 rfl).trans (sl_base hN47 rfl s47_5)
           have s325_7 := (hbs325 7 rfl).trans (sl_base hN47 rfl s47_7)
           have s325_9 := (hbs325 9 rfl).trans (sl_hit hN47 rfl)
           have s325_117 : Sl a325 117 (Value.bool (decide ((setE La (ops.getD i O0).s bl) ≠ (setE (A.map Prod.snd) (ops.getD i O0).s bl)))) := hph325 10 _ 117 rfl rfl
           refine hK310 _ _ ?_
           refine wp_cond_split (ev_base hN325 rfl s325_117) (fun c117 => ?_) (fun c117 => ?_)
           · -- 117T
            have c117 := of_decide_eq_true c117
            exact absurd (by rw [hAL]) c117
           · -- 117F
            have c117 := of_decide_eq_false c117
            refine wp_skip ?_
            refine hK65 _ _ ?_
            refine seq_any fun K326 hK326 => ?_
            refine seq_any fun K327 hK327 => ?_
            refine one_reg ?_
            refine op_move (ev_base hN325 rfl s325_9) ?_
            refine op_move (ev_base hN325 rfl s325_7) ?_
            have hq328 : RdC w325 0 w325.heap.size 1 v40 bl.length (bl.map u8v) := by have hh : RdC w325 0 w325.heap.size 1 _ _ _ := (hO48.rdw.mono (L' := 0) (B' := w325.heap.size) (Nat.zero_le _) (by omega)); first | simpa using hh | simpa [Nat.add_comm, Nat.add_left_comm, Nat.add_assoc] using hh | exact hh.cast (by first | rfl | (simp; try omega)) (by first | rfl | (simp; done) | simp [u8v])
            refine op_fn (vs := [(Value.slice (some ⟨b61, 0, none⟩) bl.length (bl.length + 3)), v40]) ok22 ⟨(ev_hit hN325 rfl), ⟨(ev_hit hN325 rfl), trivial⟩⟩ (Ret.mono (Kept_ret bl bl _ v40 _ (by first | assumption | omega | (simp only [List.length_append, List.length_cons, List.length_nil, List.length_drop, List.length_take]; omega) | (dsimp only; omega) | decide | (simp [keyV, be8_len]; done)) (by first | assumption | omega | (simp only [List.length_append, List.length_cons, List.length_nil, List.length_drop, List.length_take]; omega) | (dsimp only; omega) | decide | (simp [keyV, be8_len]; done)) hB62 hq328) (R' := fun v' w' => Below w325.heap.size w325 w' ∧ v' = .bool true) fun v1 w1 h => ⟨h.1, h.2.trans (congrArg Value.bool (decide_eq_true rfl))⟩) ?_
            rintro _ w329 ⟨E330, rfl⟩
            have E330 := grown_of_below E330
            have z_w329 := E330.size
            have hro := hro.keep0 E330
            have hB32 := hB32.keep0 E330
            have hO48 := hO48.keep0 E330
            have hB62 := hB62.keep0 E330
            have hx313 := hx313.keep0 E330
            have hO313 := hO313.keep0 E330
            have hall323 : ∀ x9 ∈ (setA A (ops.getD i O0).s (v40, bl)), Own w329 w.heap.size 5 1 x9.1 x9.2.length (x9.2.map u8v) := fun x9 hx9 => (hall323 x9 hx9).keep0 E330
            have hx320 := hx320.keep0 E330
            have hO320 := hO320.keep0 E330
            have hb := below_step0 hb E330 hb.size
            refine op_not (ev_hit hN325 rfl) ?_
            refine reg_nil ?_
            refine hK327 _ _ ?_
            refine wp_cond_false (ev_hit hN325 rfl) ?_
            refine wp_skip ?_
            refine hK326 _ _ ?_
            refine seq_any fun K331 hK331 => ?_
            refine one_reg ?_
            refine op_move (ev_base hN325 rfl s325_9) ?_
            refine op_fn (vs := [(Value.slice (some ⟨b61, 0, none⟩) bl.length (bl.length + 3))]) ok23 ⟨(ev_hit hN325 rfl), trivial⟩ (Spoil_ret _ _ _ _ _ (Own.ofRow (base := w.heap.size) (n := bl.length) (c := (bl.length + 3)) hB62 (by simp) (by omega) (by unfold maxLen; omega) (by omega))) ?_
            rintro _ w332 ⟨E333, rfl⟩
            have dj334 : DJ v40 (Value.slice (some ⟨b61, 0, none⟩) bl.length (bl.length + 3)) := fun k hk hg => by simp [Value.ownBlock] at hg; subst hg; exact ne_b61_v40 hk
            have dj335 : DJ u313 (Value.slice (some ⟨b61, 0, none⟩) bl.length (bl.length + 3)) := fun k hk hg => by simp [Value.ownBlock] at hg; subst hg; exact ne_b61_u313 hk
            have dja336 : ∀ x9 ∈ (setA A (ops.getD i O0).s (v40, bl)), DJ x9.1 (Value.slice (some ⟨b61, 0, none⟩) bl.length (bl.length + 3)) := fun x9 hx9 k hk hg => by simp [Value.ownBlock] at hg; subst hg; exact nea323 x9 hx9 hk
            have z_w332 := E333.size
            have hro := hro.keepO (Own.ofRow (base := w.heap.size) (n := bl.length) (c := (bl.length + 3)) hB62 (by simp) (by omega) (by unfold maxLen; omega) (by omega)) E333 (by omega)
            have hB32 := hB32.keepO (Own.ofRow (base := w.heap.size) (n := bl.length) (c := (bl.length + 3)) hB62 (by simp) (by omega) (by unfold maxLen; omega) (by omega)) E333 (by decide)
            have hO48 := hO48.keepD E333 dj334
            have hx313 := hx313.keepO (Own.ofRow (base := w.heap.size) (n := bl.length) (c := (bl.length + 3)) hB62 (by simp) (by omega) (by unfold maxLen; omega) (by omega)) E333 (by decide)
            have hO313 := hO313.keepD E333 dj335
            have hall323 : ∀ x9 ∈ (setA A (ops.getD i O0).s (v40, bl)), Own w332 w.heap.size 5 1 x9.1 x9.2.length (x9.2.map u8v) := fun x9 hx9 => (hall323 x9 hx9).keepD E333 (dja336 x9 hx9)
            have hx320 := hx320.keepO (Own.ofRow (base := w.heap.size) (n := bl.length) (c := (bl.length + 3)) hB62 (by simp) (by omega) (by unfold maxLen; omega) (by omega)) E333 (by decide)
            have hO320 := hO320.keepT (Own.ofRow (base := w.heap.size) (n := bl.length) (c := (bl.length + 3)) hB62 (by simp) (by omega) (by unfold maxLen; omega) (by omega)) E333 (by decide)
            have hb := below_stepO hb (Own.ofRow (base := w.heap.size) (n := bl.length) (c := (bl.length + 3)) hB62 (by simp) (by omega) (by unfold maxLen; omega) (by omega)) E333 hb.size (by omega)
            refine reg_nil ?_
            refine hK331 _ _ ?_
            refine seq_any fun K337 hK337 => ?_
            refine one_reg ?_
            refine op_move (ev_base hN325 rfl s325_3) ?_
            refine op_move (ev_base hN325 rfl s325_4) ?_
            refine op_fn (vs := [(ptr p10 0), (ptr b14 0)]) ok24 ⟨(ev_hit hN325 rfl), ⟨(ev_hit hN325 rfl), trivial⟩⟩ (same_ret (setN La (ops.getD i O0).s bl) bs313 n313 _ _ _ _ (by omega) hx313 hO313 hP313 (setA A (ops.getD i O0).s (v40, bl)) _ _ _ _ (by omega) hx320 hO320 hall323 hno323 hAL324 dja323) ?_
            rintro _ w339 ⟨E340, rfl, u338, n338, bs338, hx338, hO338, hP338, ro338⟩
            have dj341 : DJ v40 u338 := DJ.stepP ro338.ro dj317 (hO48.neB hx313 (by decide)) (fun k hk => (hO48.lt k hk).2)
            have dja342 : ∀ x9 ∈ (setA A (ops.getD i O0).s (v40, bl)), DJ x9.1 u338 := fun x9 hx9 => DJ.stepP ro338.ro (dja323 x9 hx9) ((hall323 x9 hx9).neB hx313 (by decide)) (fun k hk => ((hall323 x9 hx9).lt k hk).2)
            have hro := hro.keepP hx313 hO313 E340 (by omega) (by omega)
            have hB32 := hB32.keepP hx313 hO313 E340 (by decide) (by decide)
            have hO48 := hO48.keepP hx313 hO313 E340 (by decide) (.inr dj317)
            have hall323 : ∀ x9 ∈ (setA A (ops.getD i O0).s (v40, bl)), Own w339 w.heap.size 5 1 x9.1 x9.2.length (x9.2.map u8v) := fun x9 hx9 => (hall323 x9 hx9).keepP hx313 hO313 E340 (by decide) (.inr (dja323 x9 hx9))
            have hx320 := hx320.keepP hx313 hO313 E340 (by decide) (by decide)
            have hO320 := hO320.keepP hx313 hO313 E340 (by decide) (.inl (by decide))
            have z_w339 := E340.size
            have hb := below_stepR hb E340 hb.size (by omega) hO313 (by omega)
            have hfi_338 := hP338.fits
            refine op_not (ev_hit hN325 rfl) ?_
            refine reg_nil ?_
            refine hK337 _ _ ?_
            refine wp_cond_false (ev_hit hN325 rfl) ?_
            refine wp_skip ?_
            refine hK24 _ _ ?_
            refine one_reg ?_
            refine op_move (ev_base hN325 rfl s325_5) ?_
            refine op_add (ev_hit hN325 rfl) rfl (add64 (by omega)) ?_
            refine op_assign (ev_hit hN325 rfl) ?_
            refine reg_nil ?_
            -- round 19F 26T 41F 60F 61F 62F 84F 85F 106T 117F
            exact loop_next _ hN325 hd325 ⟨i + 1, (setA A (ops.getD i O0).s (v40, bl)), u320, u338, n338, bs338, (setN La (ops.getD i O0).s bl), rfl, (sl_base hN325 rfl s325_0), (sl_base hN325 rfl s325_3), (sl_base hN325 rfl s325_4), (sl_hit hN325 rfl).trans (congrArg (Value.int .i64) (by omega)), (by omega), hno323, hP338, hAL324, dja342, hb, (by omega), hro, hx338, hx320, hall323, hO338, hO320⟩ (by omega)
         · -- 106F
          refine op_assign (ev_hit hN47 rfl) ?_
          refine reg_nil ?_
          refine hK309 _ _ ?_
          refine wp_cond_false (ev_hit hN47 rfl) ?_
          refine wp_skip ?_
          refine hK65 _ _ ?_
          refine seq_any fun K343 hK343 => ?_
          refine seq_any fun K344 hK344 => ?_
          refine one_reg ?_
          refine op_move (ev_hit hN47 rfl) ?_
          refine op_move (ev_base hN47 rfl s47_7) ?_
          have hq345 : RdC w63 0 w63.heap.size 1 v40 bl.length (bl.map u8v) := by have hh : RdC w63 0 w63.heap.size 1 _ _ _ := (hO48.rdw.mono (L' := 0) (B' := w63.heap.size) (Nat.zero_le _) (by omega)); first | simpa using hh | simpa [Nat.add_comm, Nat.add_left_comm, Nat.add_assoc] using hh | exact hh.cast (by first | rfl | (simp; try omega)) (by first | rfl | (simp; done) | simp [u8v])
          refine op_fn (vs := [(Value.slice (some ⟨b61, 0, none⟩) bl.length (bl.length + 3)), v40]) ok22 ⟨(ev_hit hN47 rfl), ⟨(ev_hit hN47 rfl), trivial⟩⟩ (Ret.mono (Kept_ret bl bl _ v40 _ (by first | assumption | omega | (simp only [List.length_append, List.length_cons, List.length_nil, List.length_drop, List.length_take]; omega) | (dsimp only; omega) | decide | (simp [keyV, be8_len]; done)) (by first | assumption | omega | (simp only [List.length_append, List.length_cons, List.length_nil, List.length_drop, List.length_take]; omega) | (dsimp only; omega) | decide | (simp [keyV, be8_len]; done)) hB62 hq345) (R' := fun v' w' => Below w63.heap.size w63 w' ∧ v' = .bool true) fun v1 w1 h => ⟨h.1, h.2.trans (congrArg Value.bool (decide_eq_true rfl))⟩) ?_
          rintro _ w346 ⟨E347, rfl⟩
          have E347 := grown_of_below E347
          have z_w346 := E347.size
          have hro := hro.keep0 E347
          have hxa := hxa.keep0 E347
          have hsb := hsb.keep0 E347
          have hall : ∀ x9 ∈ A, Own w346 w.heap.size 5 1 x9.1 x9.2.length (x9.2.map u8v) := fun x9 hx9 => (hall x9 hx9).keep0 E347
          have hO20 := hO20.keep0 E347
          have hO21 := hO21.keep0 E347
          have hB32 := hB32.keep0 E347
          have hO48 := hO48.keep0 E347
          have hB62 := hB62.keep0 E347
          have hb := below_step0 hb E347 hb.size
          refine op_not (ev_hit hN47 rfl) ?_
          refine reg_nil ?_
          refine hK344 _ _ ?_
          refine wp_cond_false (ev_hit hN47 rfl) ?_
          refine wp_skip ?_
          refine hK343 _ _ ?_
          refine seq_any fun K348 hK348 => ?_
          refine one_reg ?_
          refine op_move (ev_hit hN47 rfl) ?_
          refine op_fn (vs := [(Value.slice (some ⟨b61, 0, none⟩) bl.length (bl.length + 3))]) ok23 ⟨(ev_hit hN47 rfl), trivial⟩ (Spoil_ret _ _ _ _ _ (Own.ofRow (base := w.heap.size) (n := bl.length) (c := (bl.length + 3)) hB62 (by simp) (by omega) (by unfold maxLen; omega) (by omega))) ?_
          rintro _ w349 ⟨E350, rfl⟩
          have dj351 : DJ ua (Value.slice (some ⟨b61, 0, none⟩) bl.length (bl.length + 3)) := fun k hk hg => by simp [Value.ownBlock] at hg; subst hg; exact ne_b61_ua hk
          have dj352 : DJ v40 (Value.slice (some ⟨b61, 0, none⟩) bl.length (bl.length + 3)) := fun k hk hg => by simp [Value.ownBlock] at hg; subst hg; exact ne_b61_v40 hk
          have dja353 : ∀ x9 ∈ A, DJ x9.1 (Value.slice (some ⟨b61, 0, none⟩) bl.length (bl.length + 3)) := fun x9 hx9 k hk hg => by simp [Value.ownBlock] at hg; subst hg; exact nea_b61 x9 hx9 hk
          have z_w349 := E350.size
          have hro := hro.keepO (Own.ofRow (base := w.heap.size) (n := bl.length) (c := (bl.length + 3)) hB62 (by simp) (by omega) (by unfold maxLen; omega) (by omega)) E350 (by omega)
          have hxa := hxa.keepO (Own.ofRow (base := w.heap.size) (n := bl.length) (c := (bl.length + 3)) hB62 (by simp) (by omega) (by unfold maxLen; omega) (by omega)) E350 (by decide)
          have hsb := hsb.keepO (Own.ofRow (base := w.heap.size) (n := bl.length) (c := (bl.length + 3)) hB62 (by simp) (by omega) (by unfold maxLen; omega) (by omega)) E350 (by decide)
          have hall : ∀ x9 ∈ A, Own w349 w.heap.size 5 1 x9.1 x9.2.length (x9.2.map u8v) := fun x9 hx9 => (hall x9 hx9).keepD E350 (dja353 x9 hx9)
          have hO20 := hO20.keepD E350 dj351
          have hO21 := hO21.keepT (Own.ofRow (base := w.heap.size) (n := bl.length) (c := (bl.length + 3)) hB62 (by simp) (by omega) (by unfold maxLen; omega) (by omega)) E350 (by decide)
          have hB32 := hB32.keepO (Own.ofRow (base := w.heap.size) (n := bl.length) (c := (bl.length + 3)) hB62 (by simp) (by omega) (by unfold maxLen; omega) (by omega)) E350 (by decide)
          have hO48 := hO48.keepD E350 dj352
          have hb := below_stepO hb (Own.ofRow (base := w.heap.size) (n := bl.length) (c := (bl.length + 3)) hB62 (by simp) (by omega) (by unfold maxLen; omega) (by omega)) E350 hb.size (by omega)
          refine reg_nil ?_
          refine hK348 _ _ ?_
          refine seq_any fun K354 hK354 => ?_
          refine one_reg ?_
          refine op_move (ev_base hN47 rfl s47_3) ?_
          refine op_move (ev_base hN47 rfl s47_4) ?_
          refine op_fn (vs := [(ptr p10 0), (ptr b14 0)]) ok24 ⟨(ev_hit hN47 rfl), ⟨(ev_hit hN47 rfl), trivial⟩⟩ (same_ret La bsa na _ _ _ _ (by omega) hxa hO20 hPa A _ _ _ _ (by omega) hsb hO21 hall hno hAL djaA) ?_
          rintro _ w356 ⟨E357, rfl, u355, n355, bs355, hx355, hO355, hP355, ro355⟩
          have dja358 : ∀ x9 ∈ A, DJ x9.1 u355 := fun x9 hx9 => DJ.stepP ro355.ro (djaA x9 hx9) ((hall x9 hx9).neB hxa (by decide)) (fun k hk => ((hall x9 hx9).lt k hk).2)
          have dj359 : DJ v40 u355 := DJ.stepP ro355.ro dj44 (hO48.neB hxa (by decide)) (fun k hk => (hO48.lt k hk).2)
          have hro := hro.keepP hxa hO20 E357 (by omega) (by omega)
          have hsb := hsb.keepP hxa hO20 E357 (by decide) (by decide)
          have hall : ∀ x9 ∈ A, Own w356 w.heap.size 5 1 x9.1 x9.2.length (x9.2.map u8v) := fun x9 hx9 => (hall x9 hx9).keepP hxa hO20 E357 (by decide) (.inr (djaA x9 hx9))
          have hO21 := hO21.keepP hxa hO20 E357 (by decide) (.inl (by decide))
          have hB32 := hB32.keepP hxa hO20 E357 (by decide) (by decide)
          have hO48 := hO48.keepP hxa hO20 E357 (by decide) (.inr dj44)
          have z_w356 := E357.size
          have hb := below_stepR hb E357 hb.size (by omega) hO20 (by omega)
          have hfi_355 := hP355.fits
          refine op_not (ev_hit hN47 rfl) ?_
          refine reg_nil ?_
          refine hK354 _ _ ?_
          refine wp_cond_false (ev_hit hN47 rfl) ?_
          refine wp_skip ?_
          refine hK24 _ _ ?_
          refine one_reg ?_
          refine op_move (ev_base hN47 rfl s47_5) ?_
          refine op_add (ev_hit hN47 rfl) rfl (add64 (by omega)) ?_
          refine op_assign (ev_hit hN47 rfl) ?_
          refine reg_nil ?_
          -- round 19F 26T 41F 60F 61F 62F 84F 85F 106F
          exact loop_next _ hN47 hd47 ⟨i + 1, A, sv, u355, n355, bs355, La, rfl, (sl_base hN47 rfl s47_0), (sl_base hN47 rfl s47_3), (sl_base hN47 rfl s47_4), (sl_hit hN47 rfl).trans (congrArg (Value.int .i64) (by omega)), (by omega), hno, hP355, hAL, dja358, hb, (by omega), hro, hx355, hsb, hall, hO355, hO21⟩ (by omega)
  · -- 26F
   refine reg_nil ?_
   refine hK23 _ _ ?_
   refine wp_cond_false (ev_hit hN19 rfl) ?_
   refine wp_exit (then_exit (then_exit (blk_hit ?_)))
   refine hK17 _ _ ?_
   refine seq_any fun K360 hK360 => ?_
   refine one_reg ?_
   refine op_assign rfl ?_
   refine reg_nil ?_
   refine hK360 _ _ ?_
   refine wp_ret ?_
   refine ret1 rfl hd19 (ev_hit hN19 rfl) ⟨_, rfl, ?_⟩
   -- path 19F 26F
   exact ⟨hb, rfl⟩

end Go.Proofs.Ytdhpalioifjfbaa

/- What the arguments of the laws are, told by their types. -/
namespace Go.Proofs.Ytdhpalioifjfbaa
open Go.Gx Go.RowKit
theorem rd_le {w : World} {L B sz n : Nat} {v : Value} {cs : List Value} (h : RdC w L B sz v n cs) : n ≤ 9223372036854775807 := by obtain ⟨_, _, _, _, hq, hm, _⟩ := h; exact Nat.le_trans hq hm
theorem cells5 : Try.prog.cellsOf 5 = 1 := by kernel_rfl
theorem flat_u8v (l : List UInt8) : l.flatMap (fun c => [u8v c]) = l.map u8v := by induction l with | nil => rfl | cons c l ih => simp [ih]
theorem dec22 {H : Type} {enc : TypeId × Value → H} {w : World} {base : Nat} {spare : Nat → Bool} {held : Bool} : Dec enc Try.prog w base spare held 22 (fun p : Value × List UInt8 => [p.1]) (fun p => RdC w 0 w.heap.size 1 p.1 p.2.length (p.2.map u8v)) :=
  (Dec.slice Try.underlying22 (by rw [cells5]; decide) (Dec.u8 Try.underlying5) (fun _ _ => by rw [cells5]; rfl)).map fun p hp => ⟨p, rfl, by have hq := hp.1; rwa [cells5, flat_u8v] at hq⟩
end Go.Proofs.Ytdhpalioifjfbaa

/- What a list of operations is, told by its types. -/
namespace Go.Proofs.Ytdhpalioifjfbaa
open Go.Gx Go.RowKit
theorem cells42 : Try.prog.cellsOf 42 = 4 := by kernel_rfl
theorem cells3 : Try.prog.cellsOf 3 = 1 := by kernel_rfl
theorem four {l : List Value} (h : l.length = 4) : ∃ a b c d, l = [a, b, c, d] := by match l, h with | [a, b, c, d], _ => exact ⟨a, b, c, d, rfl⟩
theorem dec42 {H : Type} {enc : TypeId × Value → H} {w : World} {base : Nat} {spare : Nat → Bool} {held : Bool} : Dec enc Try.prog w base spare held 42 cellsOp OkOp := by
  intro fuel cs x h
  obtain ⟨xs, n, _, _, hl, hlen, hf⟩ := DataW.trod_struct Try.underlying42 h
  rw [cells42] at hl
  obtain ⟨c0, c1, c2, c3, rfl⟩ := four hl
  have hl4 : xs.length = 4 := hlen
  have g0 : DataW.trod enc Try.prog w base spare held n 3 (([c0, c1, c2, c3].drop 0).take (Try.prog.cellsOf 3)) = some xs[0] := (hf 0 _ rfl).trans (List.getElem?_eq_getElem (by omega))
  have g1 : DataW.trod enc Try.prog w base spare held n 3 (([c0, c1, c2, c3].drop 1).take (Try.prog.cellsOf 3)) = some xs[1] := (hf 1 _ rfl).trans (List.getElem?_eq_getElem (by omega))
  have g2 : DataW.trod enc Try.prog w base spare held n 3 (([c0, c1, c2, c3].drop 2).take (Try.prog.cellsOf 3)) = some xs[2] := (hf 2 _ rfl).trans (List.getElem?_eq_getElem (by omega))
  have g3 : DataW.trod enc Try.prog w base spare held n 5 (([c0, c1, c2, c3].drop 3).take (Try.prog.cellsOf 5)) = some xs[3] := (hf 3 _ rfl).trans (List.getElem?_eq_getElem (by omega))
  obtain ⟨k, e0, hk⟩ := Dec.int Try.underlying3 _ _ _ g0
  obtain ⟨s, e1, hs⟩ := Dec.int Try.underlying3 _ _ _ g1
  obtain ⟨z, e2, hz⟩ := Dec.int Try.underlying3 _ _ _ g2
  obtain ⟨x, e3, _⟩ := Dec.u8 Try.underlying5 _ _ _ g3
  simp only [cells3, cells5, List.drop_zero, List.drop_succ_cons, List.take_succ_cons, List.take_zero, List.cons.injEq, and_true] at e0 e1 e2 e3
  clear g0 g1 g2 g3 hf h
  obtain rfl := e0; obtain rfl := e1; obtain rfl := e2; obtain rfl := e3
  refine ⟨⟨k, s, z, x⟩, rfl, ?_, ?_, ?_⟩
  · simpa [Lit.wf, IntKind.min, IntKind.max, IntKind.signed, IntKind.bits] using hk
  · simpa [Lit.wf, IntKind.min, IntKind.max, IntKind.signed, IntKind.bits] using hs
  · simpa [Lit.wf, IntKind.min, IntKind.max, IntKind.signed, IntKind.bits] using hz
theorem dec36 {H : Type} {enc : TypeId × Value → H} {w : World} {base : Nat} {spare : Nat → Bool} {held : Bool} : Dec enc Try.prog w base spare held 36 (fun p : Value × List OpV => [p.1]) (fun p => RdC w 0 w.heap.size 4 p.1 p.2.length (p.2.flatMap cellsOp) ∧ ∀ x ∈ p.2, OkOp x) :=
  (Dec.slice Try.underlying36 (by rw [cells42]; decide) dec42 (fun _ _ => by rw [cells42]; rfl)).map fun p hp => ⟨p, rfl, by have hq := hp.1; rw [cells42] at hq; exact hq, hp.2⟩
end Go.Proofs.Ytdhpalioifjfbaa
