/- Walks, written by a program: what each function of the translation hands back. -/
import Derived.Test.YtkkongnmcfdioaaR11
namespace Go.Proofs.Ytkkongnmcfdioaa
open Go.Gx Go.RowKit
attribute [local irreducible] wpList Code.wp Calls

theorem RowApart_ret (a b : List Vl) (at8 : UInt8) (x : Vl) (v u : Value) (w : World) (hl : a.length ≤ 9223372036854775807) (hm : b.length ≤ 9223372036854775807) (oa : ∀ x ∈ a, OkV x) (ob : ∀ x ∈ b, OkV x) (ox : OkV x) (h : RdC w 0 w.heap.size 3 v a.length (a.flatMap cellsV)) (h2 : RdC w 0 w.heap.size 3 u b.length (b.flatMap cellsV)) : Ret Try.prog 12 #[v, u, (Value.int .u8 (at8.toNat : Int)), (Value.agg #[(Value.int .i64 x.k), (Value.int .i64 x.n), (Value.string (bs x.s))])] w (fun v' w' => Below w.heap.size w w' ∧ v' = .bool true) := by
  have oxs := ox.2.2
  have hb := Below.refl w.heap.size w
  refine enter (N := 65) Try.func12 rfl rfl (by simp) fun a0 hN hd hA => ?_
  have s0 : a0.tmps.getD 0 undef = v := hA 0 (by simp)
  have s1 : a0.tmps.getD 1 undef = u := hA 1 (by simp)
  have s2 : a0.tmps.getD 2 undef = (Value.int .u8 (at8.toNat : Int)) := hA 2 (by simp)
  have s3 : a0.tmps.getD 3 undef = (Value.agg #[(Value.int .i64 x.k), (Value.int .i64 x.n), (Value.string (bs x.s))]) := hA 3 (by simp)
  clear hA
  refine seq_any fun K1 hK1 => ?_
  refine one_reg ?_
  refine op_box (cs := [(Value.int .i64 x.k), (Value.int .i64 x.n), (Value.string (bs x.s))]) (ev_base hN rfl s3) rfl ?_
  intro w2 b3 lo_b3 hi_b3 hB5 E4
  have z_w2 := E4.size
  have h := h.keep0 E4
  have h2 := h2.keep0 E4
  have hb := below_step0 hb E4 hb.size
  refine op_assign rfl ?_
  refine reg_nil ?_
  refine hK1 _ _ ?_
  refine seq_any fun K6 hK6 => ?_
  refine seq_any fun K7 hK7 => ?_
  refine one_reg ?_
  refine op_fn (vs := []) ok43 trivial (begun5_ret _) ?_
  rintro _ w8 ⟨E9, rfl⟩
  have E9 := grown_of_below E9
  have z_w8 := E9.size
  have h := h.keep0 E9
  have h2 := h2.keep0 E9
  have hB5 := hB5.keep0 E9
  have hb := below_step0 hb E9 hb.size
  refine op_not (ev_hit hN rfl) ?_
  refine reg_nil ?_
  refine hK7 _ _ ?_
  refine wp_cond_false (ev_hit hN rfl) ?_
  refine wp_skip ?_
  refine hK6 _ _ ?_
  refine seq_any fun K10 hK10 => ?_
  refine seq_any fun K11 hK11 => ?_
  refine one_reg ?_
  refine op_move (ev_base hN rfl s0) ?_
  refine op_fn (vs := [v]) ok48 ⟨(ev_hit hN rfl), trivial⟩ (MayRow_ret a _ _ (by first | assumption | omega | (simp only [List.length_append, List.length_cons, List.length_nil, List.length_drop, List.length_take]; omega) | (dsimp only; omega) | decide | (simp [keyV, be8_len]; done)) oa (show RdC w8 0 w8.heap.size 3 v a.length (a.flatMap cellsV) from by simpa [cellsV] using (h.mono (L' := 0) (B' := w8.heap.size) (Nat.zero_le _) (by omega)))) ?_
  rintro _ w12 ⟨E13, rfl⟩
  have E13 := grown_of_below E13
  have z_w12 := E13.size
  have h := h.keep0 E13
  have h2 := h2.keep0 E13
  have hB5 := hB5.keep0 E13
  have hb := below_step0 hb E13 hb.size
  rcases Bool.eq_false_or_eq_true ((mayR a)) with c14 | c14
  · -- 14 True
    rw [c14]
    refine op_not (ev_hit hN rfl) ?_
    refine op_move (ev_hit hN rfl) ?_
    refine g_true (j := 3) (dj := 16) (b := false) rfl rfl rfl (ev_hit hN rfl) ?_
    refine op_move (ev_base hN rfl s1) ?_
    refine g_true (j := 3) (dj := 16) (b := false) rfl rfl rfl (ev_hit hN rfl) ?_
    refine op_fn (vs := [u]) ok48 ⟨(ev_hit hN rfl), trivial⟩ (MayRow_ret b _ _ (by first | assumption | omega | (simp only [List.length_append, List.length_cons, List.length_nil, List.length_drop, List.length_take]; omega) | (dsimp only; omega) | decide | (simp [keyV, be8_len]; done)) ob (show RdC w12 0 w12.heap.size 3 u b.length (b.flatMap cellsV) from by simpa [cellsV] using (h2.mono (L' := 0) (B' := w12.heap.size) (Nat.zero_le _) (by omega)))) ?_
    rintro _ w14 ⟨E15, rfl⟩
    have E15 := grown_of_below E15
    have z_w14 := E15.size
    have h := h.keep0 E15
    have h2 := h2.keep0 E15
    have hB5 := hB5.keep0 E15
    have hb := below_step0 hb E15 hb.size
    rcases Bool.eq_false_or_eq_true ((mayR b)) with c18 | c18
    · -- 18 True
      rw [c18]
      refine g_true (j := 3) (dj := 16) (b := false) rfl rfl rfl (ev_hit hN rfl) ?_
      refine op_not (ev_hit hN rfl) ?_
      refine op_pick_f (ev_hit hN rfl) (ev_hit hN rfl) ?_
      refine op_move (ev_hit hN rfl) ?_
      refine g_true (j := 8) (dj := 21) (b := false) rfl rfl rfl (ev_hit hN rfl) ?_
      refine op_loadA (cs := [(Value.int .i64 x.k), (Value.int .i64 x.n), (Value.string (bs x.s))]) agg50 rfl (ev_hit hN rfl) (fun j u hu => by rw [Nat.zero_add]; exact hB5.cell hu) ?_
      refine g_true (j := 8) (dj := 21) (b := false) rfl rfl rfl (ev_hit hN rfl) ?_
      refine op_fn (vs := [(Value.agg #[(Value.int .i64 x.k), (Value.int .i64 x.n), (Value.string (bs x.s))])]) ok32 ⟨(ev_hit hN rfl), trivial⟩ (MayValue_ret x _ (by first | assumption | omega | (simp only [List.length_append, List.length_cons, List.length_nil, List.length_drop, List.length_take]; omega) | (dsimp only; omega) | decide | (simp [keyV, be8_len]; done))) ?_
      rintro _ w16 ⟨E17, rfl⟩
      have E17 := grown_of_below E17
      have z_w16 := E17.size
      have h := h.keep0 E17
      have h2 := h2.keep0 E17
      have hB5 := hB5.keep0 E17
      have hb := below_step0 hb E17 hb.size
      rcases Bool.eq_false_or_eq_true ((mayV x)) with c23 | c23
      · -- 23 True
        rw [c23]
        refine g_true (j := 8) (dj := 21) (b := false) rfl rfl rfl (ev_hit hN rfl) ?_
        refine op_not (ev_hit hN rfl) ?_
        refine op_pick_f (ev_hit hN rfl) (ev_hit hN rfl) ?_
        refine reg_nil ?_
        refine hK11 _ _ ?_
        refine wp_cond_false (ev_hit hN rfl) ?_
        refine wp_skip ?_
        refine hK10 _ _ ?_
        refine seq_any fun K18 hK18 => ?_
        refine one_reg ?_
        refine op_bslice (e := 50) (pv := []) (cs := []) trivial (by kernel_rfl) ?_
        intro w19 b20 lo_b20 hi_b20 hB22 E21
        have z_w19 := E21.size
        have h := h.keep0 E21
        have h2 := h2.keep0 E21
        have hB5 := hB5.keep0 E21
        have hb := below_step0 hb E21 hb.size
        refine op_move (ev_base hN rfl s0) ?_
        have hla := mayR_len c14
        have hlb := mayR_len c18
        have hka : (at8.toNat % a.length) < a.length := Nat.mod_lt _ (by omega)
        have hP28 := (Own.ofBx (base := w.heap.size) (sz := 3) (n := 0) hB22 rfl (by decide) (by omega))
        refine op_append slt65 (ev_hit hN rfl) hP28 (ev_hit hN rfl) (Src.ofRd Try.underlying65 (by decide) h (one_val _)) (by unfold maxLen; omega) (by omega) hb.size ?_
        intro v23 w24 hO26 E25 hm27
        have z_w24 := E25.size
        have h := h.keepO hP28 E25 (by omega)
        have h2 := h2.keepO hP28 E25 (by omega)
        have hB5 := hB5.keep E25 (by simp [Value.ownBlock]; try omega)
        have hb := below_stepO hb hP28 E25 hb.size (by omega)
        have hO26 : Own w24 w.heap.size 50 3 v23 a.length ((a).flatMap cellsV) := by simpa [u8v, cellsV] using hO26
        have ne_b3_v23 : v23.ownBlock ≠ some b3 := ne_step (v := (Value.slice (some ⟨b20, 0, none⟩) 0 0)) (w1 := w19) ⟨E25, hm27⟩ (by omega) (by simp [Value.ownBlock]; try omega)
        refine op_assign (ev_hit hN rfl) ?_
        refine reg_nil ?_
        refine hK18 _ _ ?_
        refine seq_any fun K29 hK29 => ?_
        refine one_reg ?_
        refine op_move (ev_base hN rfl s2) ?_
        refine op_conv (r := (at8.toNat : Int)) (ev_hit hN rfl) us5 Try.underlying3 (wrap_i64 (by have := (at8).toNat_lt; omega)) ?_
        refine op_move (ev_hit hN rfl) ?_
        refine op_len_rd Try.underlying65 (ev_hit hN rfl) hO26.rdw ?_
        refine op_rem (r := (((at8.toNat % a.length) : Nat) : Int)) (ev_hit hN rfl) (ev_hit hN rfl) (by omega) tmod_nat ?_
        refine op_assign (ev_hit hN rfl) ?_
        refine reg_nil ?_
        refine hK29 _ _ ?_
        refine seq_any fun K30 hK30 => ?_
        refine one_reg ?_
        refine op_move (ev_hit hN rfl) ?_
        refine op_move (ev_hit hN rfl) ?_
        refine op_loadA (cs := [(Value.int .i64 x.k), (Value.int .i64 x.n), (Value.string (bs x.s))]) agg50 rfl (ev_hit hN rfl) (fun j u hu => by rw [Nat.zero_add]; exact hB5.cell hu) ?_
        refine op_index_own (i := (at8.toNat % a.length)) slt65 (ev_hit hN rfl) hO26 (ev_hit hN rfl) (by omega) (by omega) ?_
        intro b31 o32 lo_b31 hA33
        have hP36 := hO26
        refine op_store_own (vs := [(Value.int .i64 x.k), (Value.int .i64 x.n), (Value.string (bs x.s))]) size50 (ev_hit hN rfl) (ev_hit hN rfl) rfl rfl rfl hP36 hA33 (by have := flat_len (f := cellsV) (sz := 3) a (fun _ _ => rfl); simp at this ⊢; omega) ?_
        intro w34 hO37 E35
        have z_w34 := E35.size
        have h := h.keepO hP36 E35 (by omega)
        have h2 := h2.keepO hP36 E35 (by omega)
        have hB5 := hB5.keep E35 (fun hh => ne_b3_v23 hh.symm)
        have hb := below_stepO hb hP36 E35 hb.size (by omega)
        have hO37 : Own w34 w.heap.size 50 3 v23 a.length (((a.set (at8.toNat % a.length) x)).flatMap cellsV) := by first | exact hO37.cast (by simp) (flat_set hka) | exact hO37.cast (by simp) (by rw [← flat_set hka]; simp [cellsV])
        refine reg_nil ?_
        refine hK30 _ _ ?_
        refine seq_any fun K38 hK38 => ?_
        have hls : (a.set (at8.toNat % a.length) x).length ≤ 9223372036854775807 := by rw [List.length_set]; exact hl
        rcases Bool.eq_false_or_eq_true (((decide ((putR a) = (putR b))) == (decide (a = b)))) with g48 | g48
        · -- 48 True
          refine reg_quiet (Φ := phiL [(fun uz _ => uz = v), (fun uz w' => ∃ (v39 : Value), uz = v39 ∧ Own w' w34.heap.size 5 1 v39 (putR a).length ((putR a).map u8v)), (fun uz _ => uz = (Value.string (bs (putR a)))), (fun uz _ => uz = u), (fun uz w' => ∃ (v42 : Value), uz = v42 ∧ Own w' w34.heap.size 5 1 v42 (putR b).length ((putR b).map u8v)), (fun uz _ => uz = (Value.string (bs (putR b)))), (fun uz _ => uz = (Value.bool (decide ((putR a) = (putR b))))), (fun uz _ => uz = v), (fun uz _ => uz = u), (fun uz _ => uz = (Value.bool (decide (a = b)))), (fun uz _ => uz = (Value.bool true)), (fun uz _ => uz = (Value.bool true)), (fun uz _ => uz = v), (fun uz w' => ∃ (v48 : Value), uz = v48 ∧ Own w' w34.heap.size 5 1 v48 (putR a).length ((putR a).map u8v)), (fun uz _ => uz = (Value.string (bs (putR a)))), (fun uz _ => uz = v23), (fun uz w' => ∃ (v53 : Value), uz = v53 ∧ Own w' w34.heap.size 5 1 v53 (putR (a.set (at8.toNat % a.length) x)).length ((putR (a.set (at8.toNat % a.length) x)).map u8v)), (fun uz _ => uz = (Value.string (bs (putR (a.set (at8.toNat % a.length) x))))), (fun uz _ => uz = (Value.bool (decide ((putR a) = (putR (a.set (at8.toNat % a.length) x)))))), (fun uz _ => uz = v), (fun uz _ => uz = (Value.int .i64 (((at8.toNat % a.length) : Nat) : Int))), (fun uz w' => ∃ (b59 : (Nat)) (o60 : (Nat)), uz = (ptr b59 o60) ∧ PtC w' 0 w.heap.size b59 o60 [(Value.int .i64 (a.getD (at8.toNat % a.length) V0).k), (Value.int .i64 (a.getD (at8.toNat % a.length) V0).n), (Value.string (bs (a.getD (at8.toNat % a.length) V0).s))]), (fun uz _ => uz = (Value.agg #[(Value.int .i64 (a.getD (at8.toNat % a.length) V0).k), (Value.int .i64 (a.getD (at8.toNat % a.length) V0).n), (Value.string (bs (a.getD (at8.toNat % a.length) V0).s))])), (fun uz _ => uz = (Value.agg #[(Value.int .i64 x.k), (Value.int .i64 x.n), (Value.string (bs x.s))])), (fun uz _ => uz = (Value.bool (decide ((a.getD (at8.toNat % a.length) V0).k = x.k ∧ (a.getD (at8.toNat % a.length) V0).n = x.n ∧ (a.getD (at8.toNat % a.length) V0).s = x.s)))), (fun uz _ => uz = (Value.bool ((decide ((putR a) = (putR (a.set (at8.toNat % a.length) x)))) == (decide ((a.getD (at8.toNat % a.length) V0).k = x.k ∧ (a.getD (at8.toNat % a.length) V0).n = x.n ∧ (a.getD (at8.toNat % a.length) V0).s = x.s))))), (fun uz _ => uz = (Value.bool ((decide ((putR a) = (putR (a.set (at8.toNat % a.length) x)))) == (decide ((a.getD (at8.toNat % a.length) V0).k = x.k ∧ (a.getD (at8.toNat % a.length) V0).n = x.n ∧ (a.getD (at8.toNat % a.length) V0).s = x.s))))), (fun uz _ => uz = (Value.bool ((decide ((putR a) = (putR (a.set (at8.toNat % a.length) x)))) == (decide ((a.getD (at8.toNat % a.length) V0).k = x.k ∧ (a.getD (at8.toNat % a.length) V0).n = x.n ∧ (a.getD (at8.toNat % a.length) V0).s = x.s)))))]) mixed (by kernel_rfl) (by kernel_rfl) (by kernel_rfl) hN (StL.get (StL.eq (StL.cons (fun u w1 w2 E h => by obtain ⟨x0, hv, f0⟩ := h; exact ⟨x0, hv, f0.keep0 E⟩) (StL.eq (StL.eq (StL.cons (fun u w1 w2 E h => by obtain ⟨x0, hv, f0⟩ := h; exact ⟨x0, hv, f0.keep0 E⟩) (StL.eq (StL.eq (StL.eq (StL.eq (StL.eq (StL.eq (StL.eq (StL.eq (StL.cons (fun u w1 w2 E h => by obtain ⟨x0, hv, f0⟩ := h; exact ⟨x0, hv, f0.keep0 E⟩) (StL.eq (StL.eq (StL.cons (fun u w1 w2 E h => by obtain ⟨x0, hv, f0⟩ := h; exact ⟨x0, hv, f0.keep0 E⟩) (StL.eq (StL.eq (StL.eq (StL.eq (StL.cons (fun u w1 w2 E h => by obtain ⟨x0, x1, hv, f0⟩ := h; exact ⟨x0, x1, hv, f0.keep0 E⟩) (StL.eq (StL.eq (StL.eq (StL.eq (StL.eq (StL.eq (StL.nil _)))))))))))))))))))))))))))))) (ObL.get (s := 28) (ObL.cons ?_ (ObL.cons ?_ (ObL.cons ?_ (ObL.cons ?_ (ObL.cons ?_ (ObL.cons ?_ (ObL.cons ?_ (ObL.cons ?_ (ObL.cons ?_ (ObL.cons ?_ (ObL.cons ?_ (ObL.cons ?_ (ObL.cons ?_ (ObL.cons ?_ (ObL.cons ?_ (ObL.cons ?_ (ObL.cons ?_ (ObL.cons ?_ (ObL.cons ?_ (ObL.cons ?_ (ObL.cons ?_ (ObL.cons ?_ (ObL.cons ?_ (ObL.cons ?_ (ObL.cons ?_ (ObL.cons ?_ (ObL.cons ?_ (ObL.cons ?_ (ObL.nil))))))))))))))))))))))))))))) rfl) ?_
          · -- operation 0, slot 38
            intro a39 w39 hN39 hR39 hbs39 hdp39
            have hR39 : w34.grownBy w39 none := hR39
            have q39_0 : a39.tmps.getD 0 undef = v := (hbs39 0 rfl).trans (sl_base hN rfl s0)
            clear hbs39 hdp39
            refine op_move (ev_base hN39 rfl q39_0) ?_
            exact obN_end rfl rfl ((grown_refl _ _))
          · -- operation 1, slot 39
            intro a40 w40 hN40 hR40 hbs40 hdp40
            have hR40 : w34.grownBy w40 none := hR40
            have z_w40 := hR40.size
            have h := h.keep0 hR40
            have h2 := h2.keep0 hR40
            have hB5 := hB5.keep0 hR40
            have hO37 := hO37.keep0 hR40
            have hb := below_step0 hb hR40 hb.size
            have q40_38 : a40.tmps.getD 38 undef = v := hdp40 0 _ 38 (by kernel_rfl) rfl rfl
            clear hbs40 hdp40
            refine op_fn (vs := [v]) ok49 ⟨(ev_base hN40 rfl q40_38), trivial⟩ (rowPut_ret a _ _ (by first | assumption | omega | (simp only [List.length_append, List.length_cons, List.length_nil, List.length_drop, List.length_take]; omega) | (dsimp only; omega) | decide | (simp [keyV, be8_len]; done)) oa (show RdC w40 0 w40.heap.size 3 v a.length (a.flatMap cellsV) from by simpa [cellsV] using (h.mono (L' := 0) (B' := w40.heap.size) (Nat.zero_le _) (by omega)))) ?_
            rintro v41 w42 ⟨E43, hO41⟩
            have E43 := grown_of_below E43
            have z_w42 := E43.size
            have h := h.keep0 E43
            have h2 := h2.keep0 E43
            have hB5 := hB5.keep0 E43
            have hO37 := hO37.keep0 E43
            have hb := below_step0 hb E43 hb.size
            have hO41 := hO41.mono (base' := w34.heap.size) (by omega)
            exact obN_end rfl ⟨v41, rfl, hO41⟩ (E43)
          · -- operation 2, slot 40
            intro a44 w44 hN44 hR44 hbs44 hdp44
            have hR44 : w34.grownBy w44 none := hR44
            have z_w44 := hR44.size
            have h := h.keep0 hR44
            have h2 := h2.keep0 hR44
            have hB5 := hB5.keep0 hR44
            have hO37 := hO37.keep0 hR44
            have hb := below_step0 hb hR44 hb.size
            obtain ⟨v39, q44_39, hO39⟩ := hdp44 1 _ 39 (by kernel_rfl) rfl rfl
            have hO39 : Own w44 w34.heap.size 5 1 v39 (putR a).length ((putR a).map u8v) := hO39
            clear hbs44 hdp44
            refine op_str_of (bl := (putR a)) Try.underlying22 Try.underlying5 Try.underlying9 (ev_base hN44 rfl q44_39) hO39.rdw ?_
            exact obN_end rfl rfl ((grown_refl _ _))
          · -- operation 3, slot 41
            intro a45 w45 hN45 hR45 hbs45 hdp45
            have hR45 : w34.grownBy w45 none := hR45
            have q45_1 : a45.tmps.getD 1 undef = u := (hbs45 1 rfl).trans (sl_base hN rfl s1)
            clear hbs45 hdp45
            refine op_move (ev_base hN45 rfl q45_1) ?_
            exact obN_end rfl rfl ((grown_refl _ _))
          · -- operation 4, slot 42
            intro a46 w46 hN46 hR46 hbs46 hdp46
            have hR46 : w34.grownBy w46 none := hR46
            have z_w46 := hR46.size
            have h := h.keep0 hR46
            have h2 := h2.keep0 hR46
            have hB5 := hB5.keep0 hR46
            have hO37 := hO37.keep0 hR46
            have hb := below_step0 hb hR46 hb.size
            have q46_41 : a46.tmps.getD 41 undef = u := hdp46 3 _ 41 (by kernel_rfl) rfl rfl
            clear hbs46 hdp46
            refine op_fn (vs := [u]) ok49 ⟨(ev_base hN46 rfl q46_41), trivial⟩ (rowPut_ret b _ _ (by first | assumption | omega | (simp only [List.length_append, List.length_cons, List.length_nil, List.length_drop, List.length_take]; omega) | (dsimp only; omega) | decide | (simp [keyV, be8_len]; done)) ob (show RdC w46 0 w46.heap.size 3 u b.length (b.flatMap cellsV) from by simpa [cellsV] using (h2.mono (L' := 0) (B' := w46.heap.size) (Nat.zero_le _) (by omega)))) ?_
            rintro v47 w48 ⟨E49, hO47⟩
            have E49 := grown_of_below E49
            have z_w48 := E49.size
            have h := h.keep0 E49
            have h2 := h2.keep0 E49
            have hB5 := hB5.keep0 E49
            have hO37 := hO37.keep0 E49
            have hb := below_step0 hb E49 hb.size
            have hO47 := hO47.mono (base' := w34.heap.size) (by omega)
            exact obN_end rfl ⟨v47, rfl, hO47⟩ (E49)
          · -- operation 5, slot 43
            intro a50 w50 hN50 hR50 hbs50 hdp50
            have hR50 : w34.grownBy w50 none := hR50
            have z_w50 := hR50.size
            have h := h.keep0 hR50
            have h2 := h2.keep0 hR50
            have hB5 := hB5.keep0 hR50
            have hO37 := hO37.keep0 hR50
            have hb := below_step0 hb hR50 hb.size
            obtain ⟨v42, q50_42, hO42⟩ := hdp50 4 _ 42 (by kernel_rfl) rfl rfl
            have hO42 : Own w50 w34.heap.size 5 1 v42 (putR b).length ((putR b).map u8v) := hO42
            clear hbs50 hdp50
            refine op_str_of (bl := (putR b)) Try.underlying22 Try.underlying5 Try.underlying9 (ev_base hN50 rfl q50_42) hO42.rdw ?_
            exact obN_end rfl rfl ((grown_refl _ _))
          · -- operation 6, slot 44
            intro a51 w51 hN51 hR51 hbs51 hdp51
            have hR51 : w34.grownBy w51 none := hR51
            have q51_40 : a51.tmps.getD 40 undef = (Value.string (bs (putR a))) := hdp51 2 _ 40 (by kernel_rfl) rfl rfl
            have q51_43 : a51.tmps.getD 43 undef = (Value.string (bs (putR b))) := hdp51 5 _ 43 (by kernel_rfl) rfl rfl
            clear hbs51 hdp51
            refine op_seqlb (b := (decide ((putR a) = (putR b)))) (ev_base hN51 rfl q51_40) (ev_base hN51 rfl q51_43) rfl ?_
            exact obN_end rfl rfl ((grown_refl _ _))
          · -- operation 7, slot 45
            intro a52 w52 hN52 hR52 hbs52 hdp52
            have hR52 : w34.grownBy w52 none := hR52
            have q52_0 : a52.tmps.getD 0 undef = v := (hbs52 0 rfl).trans (sl_base hN rfl s0)
            clear hbs52 hdp52
            refine op_move (ev_base hN52 rfl q52_0) ?_
            exact obN_end rfl rfl ((grown_refl _ _))
          · -- operation 8, slot 46
            intro a53 w53 hN53 hR53 hbs53 hdp53
            have hR53 : w34.grownBy w53 none := hR53
            have q53_1 : a53.tmps.getD 1 undef = u := (hbs53 1 rfl).trans (sl_base hN rfl s1)
            clear hbs53 hdp53
            refine op_move (ev_base hN53 rfl q53_1) ?_
            exact obN_end rfl rfl ((grown_refl _ _))
          · -- operation 9, slot 47
            intro a54 w54 hN54 hR54 hbs54 hdp54
            have hR54 : w34.grownBy w54 none := hR54
            have z_w54 := hR54.size
            have h := h.keep0 hR54
            have h2 := h2.keep0 hR54
            have hB5 := hB5.keep0 hR54
            have hO37 := hO37.keep0 hR54
            have hb := below_step0 hb hR54 hb.size
            have q54_45 : a54.tmps.getD 45 undef = v := hdp54 7 _ 45 (by kernel_rfl) rfl rfl
            have q54_46 : a54.tmps.getD 46 undef = u := hdp54 8 _ 46 (by kernel_rfl) rfl rfl
            clear hbs54 hdp54
            refine op_fn (vs := [v, u]) ok51 ⟨(ev_base hN54 rfl q54_45), ⟨(ev_base hN54 rfl q54_46), trivial⟩⟩ (SameRow_ret a b _ _ _ (by first | assumption | omega | (simp only [List.length_append, List.length_cons, List.length_nil, List.length_drop, List.length_take]; omega) | (dsimp only; omega) | decide | (simp [keyV, be8_len]; done)) (show RdC w54 0 w54.heap.size 3 v a.length (a.flatMap cellsV) from by simpa [cellsV] using (h.mono (L' := 0) (B' := w54.heap.size) (Nat.zero_le _) (by omega))) (show RdC w54 0 w54.heap.size 3 u b.length (b.flatMap cellsV) from by simpa [cellsV] using (h2.mono (L' := 0) (B' := w54.heap.size) (Nat.zero_le _) (by omega)))) ?_
            rintro _ w55 ⟨E56, rfl⟩
            have E56 := grown_of_below E56
            have z_w55 := E56.size
            have h := h.keep0 E56
            have h2 := h2.keep0 E56
            have hB5 := hB5.keep0 E56
            have hO37 := hO37.keep0 E56
            have hb := below_step0 hb E56 hb.size
            exact obN_end rfl rfl (E56)
          · -- operation 10, slot 48
            intro a57 w57 hN57 hR57 hbs57 hdp57
            have hR57 : w34.grownBy w57 none := hR57
            have q57_44 : a57.tmps.getD 44 undef = (Value.bool (decide ((putR a) = (putR b)))) := hdp57 6 _ 44 (by kernel_rfl) rfl rfl
            have q57_47 : a57.tmps.getD 47 undef = (Value.bool (decide (a = b))) := hdp57 9 _ 47 (by kernel_rfl) rfl rfl
            clear hbs57 hdp57
            refine op_eqb Try.underlying4 (ev_base hN57 rfl q57_44) (ev_base hN57 rfl q57_47) ?_
            rw [g48]
            exact obN_end rfl rfl ((grown_refl _ _))
          · -- operation 11, slot 49
            intro a58 w58 hN58 hR58 hbs58 hdp58
            have hR58 : w34.grownBy w58 none := hR58
            have q58_48 : a58.tmps.getD 48 undef = (Value.bool true) := hdp58 10 _ 48 (by kernel_rfl) rfl rfl
            clear hbs58 hdp58
            refine op_move (ev_base hN58 rfl q58_48) ?_
            exact obN_end rfl rfl ((grown_refl _ _))
          · -- operation 12, slot 50
            intro a59 w59 hN59 hR59 hbs59 hdp59
            have hR59 : w34.grownBy w59 none := hR59
            have q59_0 : a59.tmps.getD 0 undef = v := (hbs59 0 rfl).trans (sl_base hN rfl s0)
            have q59_49 : a59.tmps.getD 49 undef = (Value.bool true) := hdp59 11 _ 49 (by kernel_rfl) rfl rfl
            clear hbs59 hdp59
            refine g_true (j := 11) (dj := 49) (b := true) rfl rfl rfl (ev_base hN59 rfl q59_49) ?_
            refine op_move (ev_base hN59 rfl q59_0) ?_
            exact obN_end rfl rfl ((grown_refl _ _))
          · -- operation 13, slot 51
            intro a60 w60 hN60 hR60 hbs60 hdp60
            have hR60 : w34.grownBy w60 none := hR60
            have z_w60 := hR60.size
            have h := h.keep0 hR60
            have h2 := h2.keep0 hR60
            have hB5 := hB5.keep0 hR60
            have hO37 := hO37.keep0 hR60
            have hb := below_step0 hb hR60 hb.size
            have q60_50 : a60.tmps.getD 50 undef = v := hdp60 12 _ 50 (by kernel_rfl) rfl rfl
            have q60_49 : a60.tmps.getD 49 undef = (Value.bool true) := hdp60 11 _ 49 (by kernel_rfl) rfl rfl
            clear hbs60 hdp60
            refine g_true (j := 11) (dj := 49) (b := true) rfl rfl rfl (ev_base hN60 rfl q60_49) ?_
            refine op_fn (vs := [v]) ok49 ⟨(ev_base hN60 rfl q60_50), trivial⟩ (rowPut_ret a _ _ (by first | assumption | omega | (simp only [List.length_append, List.length_cons, List.length_nil, List.length_drop, List.length_take]; omega) | (dsimp only; omega) | decide | (simp [keyV, be8_len]; done)) oa (show RdC w60 0 w60.heap.size 3 v a.length (a.flatMap cellsV) from by simpa [cellsV] using (h.mono (L' := 0) (B' := w60.heap.size) (Nat.zero_le _) (by omega)))) ?_
            rintro v61 w62 ⟨E63, hO61⟩
            have E63 := grown_of_below E63
            have z_w62 := E63.size
            have h := h.keep0 E63
            have h2 := h2.keep0 E63
            have hB5 := hB5.keep0 E63
            have hO37 := hO37.keep0 E63
            have hb := below_step0 hb E63 hb.size
            have hO61 := hO61.mono (base' := w34.heap.size) (by omega)
            exact obN_end rfl ⟨v61, rfl, hO61⟩ (E63)
          · -- operation 14, slot 52
            intro a64 w64 hN64 hR64 hbs64 hdp64
            have hR64 : w34.grownBy w64 none := hR64
            have z_w64 := hR64.size
            have h := h.keep0 hR64
            have h2 := h2.keep0 hR64
            have hB5 := hB5.keep0 hR64
            have hO37 := hO37.keep0 hR64
            have hb := below_step0 hb hR64 hb.size
            obtain ⟨v48, q64_51, hO48⟩ := hdp64 13 _ 51 (by kernel_rfl) rfl rfl
            have hO48 : Own w64 w34.heap.size 5 1 v48 (putR a).length ((putR a).map u8v) := hO48
            have q64_49 : a64.tmps.getD 49 undef = (Value.bool true) := hdp64 11 _ 49 (by kernel_rfl) rfl rfl
            clear hbs64 hdp64
            refine g_true (j := 11) (dj := 49) (b := true) rfl rfl rfl (ev_base hN64 rfl q64_49) ?_
            refine op_str_of (bl := (putR a)) Try.underlying22 Try.underlying5 Try.underlying9 (ev_base hN64 rfl q64_51) hO48.rdw ?_
            exact obN_end rfl rfl ((grown_refl _ _))
          · -- operation 15, slot 53
            intro a65 w65 hN65 hR65 hbs65 hdp65
            have hR65 : w34.grownBy w65 none := hR65
            have q65_9 : a65.tmps.getD 9 undef = v23 := (hbs65 9 rfl).trans (sl_hit hN rfl)
            have q65_49 : a65.tmps.getD 49 undef = (Value.bool true) := hdp65 11 _ 49 (by kernel_rfl) rfl rfl
            clear hbs65 hdp65
            refine g_true (j := 11) (dj := 49) (b := true) rfl rfl rfl (ev_base hN65 rfl q65_49) ?_
            refine op_move (ev_base hN65 rfl q65_9) ?_
            exact obN_end rfl rfl ((grown_refl _ _))
          · -- operation 16, slot 54
            intro a66 w66 hN66 hR66 hbs66 hdp66
            have hR66 : w34.grownBy w66 none := hR66
            have z_w66 := hR66.size
            have h := h.keep0 hR66
            have h2 := h2.keep0 hR66
            have hB5 := hB5.keep0 hR66
            have hO37 := hO37.keep0 hR66
            have hb := below_step0 hb hR66 hb.size
            have q66_53 : a66.tmps.getD 53 undef = v23 := hdp66 15 _ 53 (by kernel_rfl) rfl rfl
            have q66_49 : a66.tmps.getD 49 undef = (Value.bool true) := hdp66 11 _ 49 (by kernel_rfl) rfl rfl
            clear hbs66 hdp66
            refine g_true (j := 11) (dj := 49) (b := true) rfl rfl rfl (ev_base hN66 rfl q66_49) ?_
            refine op_fn (vs := [v23]) ok49 ⟨(ev_base hN66 rfl q66_53), trivial⟩ (rowPut_ret (a.set (at8.toNat % a.length) x) _ _ (by first | assumption | omega | (simp only [List.length_append, List.length_cons, List.length_nil, List.length_drop, List.length_take]; omega) | (dsimp only; omega) | decide | (simp [keyV, be8_len]; done)) (ok_set oa ox) (show RdC w66 0 w66.heap.size 3 v23 (a.set (at8.toNat % a.length) x).length ((a.set (at8.toNat % a.length) x).flatMap cellsV) from by simpa [cellsV] using (hO37.rdw.mono (L' := 0) (B' := w66.heap.size) (Nat.zero_le _) (by omega)))) ?_
            rintro v67 w68 ⟨E69, hO67⟩
            have E69 := grown_of_below E69
            have z_w68 := E69.size
            have h := h.keep0 E69
            have h2 := h2.keep0 E69
            have hB5 := hB5.keep0 E69
            have hO37 := hO37.keep0 E69
            have hb := below_step0 hb E69 hb.size
            have hO67 := hO67.mono (base' := w34.heap.size) (by omega)
            exact obN_end rfl ⟨v67, rfl, hO67⟩ (E69)
          · -- operation 17, slot 55
            intro a70 w70 hN70 hR70 hbs70 hdp70
            have hR70 : w34.grownBy w70 none := hR70
            have z_w70 := hR70.size
            have h := h.keep0 hR70
            have h2 := h2.keep0 hR70
            have hB5 := hB5.keep0 hR70
            have hO37 := hO37.keep0 hR70
            have hb := below_step0 hb hR70 hb.size
            obtain ⟨v53, q70_54, hO53⟩ := hdp70 16 _ 54 (by kernel_rfl) rfl rfl
            have hO53 : Own w70 w34.heap.size 5 1 v53 (putR (a.set (at8.toNat % a.length) x)).length ((putR (a.set (at8.toNat % a.length) x)).map u8v) := hO53
            have q70_49 : a70.tmps.getD 49 undef = (Value.bool true) := hdp70 11 _ 49 (by kernel_rfl) rfl rfl
            clear hbs70 hdp70
            refine g_true (j := 11) (dj := 49) (b := true) rfl rfl rfl (ev_base hN70 rfl q70_49) ?_
            refine op_str_of (bl := (putR (a.set (at8.toNat % a.length) x))) Try.underlying22 Try.underlying5 Try.underlying9 (ev_base hN70 rfl q70_54) hO53.rdw ?_
            exact obN_end rfl rfl ((grown_refl _ _))
          · -- operation 18, slot 56
            intro a71 w71 hN71 hR71 hbs71 hdp71
            have hR71 : w34.grownBy w71 none := hR71
            have q71_52 : a71.tmps.getD 52 undef = (Value.string (bs (putR a))) := hdp71 14 _ 52 (by kernel_rfl) rfl rfl
            have q71_55 : a71.tmps.getD 55 undef = (Value.string (bs (putR (a.set (at8.toNat % a.length) x)))) := hdp71 17 _ 55 (by kernel_rfl) rfl rfl
            have q71_49 : a71.tmps.getD 49 undef = (Value.bool true) := hdp71 11 _ 49 (by kernel_rfl) rfl rfl
            clear hbs71 hdp71
            refine g_true (j := 11) (dj := 49) (b := true) rfl rfl rfl (ev_base hN71 rfl q71_49) ?_
            refine op_seqlb (b := (decide ((putR a) = (putR (a.set (at8.toNat % a.length) x))))) (ev_base hN71 rfl q71_52) (ev_base hN71 rfl q71_55) rfl ?_
            exact obN_end rfl rfl ((grown_refl _ _))
          · -- operation 19, slot 57
            intro a72 w72 hN72 hR72 hbs72 hdp72
            have hR72 : w34.grownBy w72 none := hR72
            have q72_0 : a72.tmps.getD 0 undef = v := (hbs72 0 rfl).trans (sl_base hN rfl s0)
            have q72_49 : a72.tmps.getD 49 undef = (Value.bool true) := hdp72 11 _ 49 (by kernel_rfl) rfl rfl
            clear hbs72 hdp72
            refine g_true (j := 11) (dj := 49) (b := true) rfl rfl rfl (ev_base hN72 rfl q72_49) ?_
            refine op_move (ev_base hN72 rfl q72_0) ?_
            exact obN_end rfl rfl ((grown_refl _ _))
          · -- operation 20, slot 58
            intro a73 w73 hN73 hR73 hbs73 hdp73
            have hR73 : w34.grownBy w73 none := hR73
            have q73_10 : a73.tmps.getD 10 undef = (Value.int .i64 (((at8.toNat % a.length) : Nat) : Int)) := (hbs73 10 rfl).trans (sl_hit hN rfl)
            have q73_49 : a73.tmps.getD 49 undef = (Value.bool true) := hdp73 11 _ 49 (by kernel_rfl) rfl rfl
            clear hbs73 hdp73
            refine g_true (j := 11) (dj := 49) (b := true) rfl rfl rfl (ev_base hN73 rfl q73_49) ?_
            refine op_move (ev_base hN73 rfl q73_10) ?_
            exact obN_end rfl rfl ((grown_refl _ _))
          · -- operation 21, slot 59
            intro a74 w74 hN74 hR74 hbs74 hdp74
            have hR74 : w34.grownBy w74 none := hR74
            have z_w74 := hR74.size
            have h := h.keep0 hR74
            have h2 := h2.keep0 hR74
            have hB5 := hB5.keep0 hR74
            have hO37 := hO37.keep0 hR74
            have hb := below_step0 hb hR74 hb.size
            have q74_57 : a74.tmps.getD 57 undef = v := hdp74 19 _ 57 (by kernel_rfl) rfl rfl
            have q74_58 : a74.tmps.getD 58 undef = (Value.int .i64 (((at8.toNat % a.length) : Nat) : Int)) := hdp74 20 _ 58 (by kernel_rfl) rfl rfl
            have q74_49 : a74.tmps.getD 49 undef = (Value.bool true) := hdp74 11 _ 49 (by kernel_rfl) rfl rfl
            clear hbs74 hdp74
            refine g_true (j := 11) (dj := 49) (b := true) rfl rfl rfl (ev_base hN74 rfl q74_49) ?_
            refine op_index_rd slt65 (ev_base hN74 rfl q74_57) h (ev_base hN74 rfl q74_58) (by omega) (by omega) ?_
            intro b75 o76 h0b75 h1b75 hc77
            have hp78 : PtC w74 0 w.heap.size b75 o76 [(Value.int .i64 (a.getD (at8.toNat % a.length) V0).k), (Value.int .i64 (a.getD (at8.toNat % a.length) V0).n), (Value.string (bs (a.getD (at8.toNat % a.length) V0).s))] := ⟨h0b75, h1b75, fun j u hu => hc77 j u (by have := (List.getElem?_eq_some_iff.1 hu).1; simpa using this) ((fun j u hu => el_val (l := a) (i := (at8.toNat % a.length)) (by omega) (by omega) hu) j u hu)⟩
            exact obN_end rfl ⟨b75, o76, rfl, hp78⟩ ((grown_refl _ _))
          · -- operation 22, slot 60
            intro a79 w79 hN79 hR79 hbs79 hdp79
            have hR79 : w34.grownBy w79 none := hR79
            have z_w79 := hR79.size
            have h := h.keep0 hR79
            have h2 := h2.keep0 hR79
            have hB5 := hB5.keep0 hR79
            have hO37 := hO37.keep0 hR79
            have hb := below_step0 hb hR79 hb.size
            obtain ⟨b59, o60, q79_59, hp62⟩ := hdp79 21 _ 59 (by kernel_rfl) rfl rfl
            have hp62 : PtC w79 0 w.heap.size b59 o60 [(Value.int .i64 (a.getD (at8.toNat % a.length) V0).k), (Value.int .i64 (a.getD (at8.toNat % a.length) V0).n), (Value.string (bs (a.getD (at8.toNat % a.length) V0).s))] := hp62
            have q79_49 : a79.tmps.getD 49 undef = (Value.bool true) := hdp79 11 _ 49 (by kernel_rfl) rfl rfl
            clear hbs79 hdp79
            refine g_true (j := 11) (dj := 49) (b := true) rfl rfl rfl (ev_base hN79 rfl q79_49) ?_
            refine op_loadA (cs := [(Value.int .i64 (a.getD (at8.toNat % a.length) V0).k), (Value.int .i64 (a.getD (at8.toNat % a.length) V0).n), (Value.string (bs (a.getD (at8.toNat % a.length) V0).s))]) agg50 rfl (ev_base hN79 rfl q79_59) (fun j u hu => hp62.2.2 j u hu) ?_
            exact obN_end rfl rfl ((grown_refl _ _))
          · -- operation 23, slot 61
            intro a80 w80 hN80 hR80 hbs80 hdp80
            have hR80 : w34.grownBy w80 none := hR80
            have z_w80 := hR80.size
            have h := h.keep0 hR80
            have h2 := h2.keep0 hR80
            have hB5 := hB5.keep0 hR80
            have hO37 := hO37.keep0 hR80
            have hb := below_step0 hb hR80 hb.size
            have q80_7 : a80.tmps.getD 7 undef = (ptr b3 0) := (hbs80 7 rfl).trans (sl_hit hN rfl)
            have q80_49 : a80.tmps.getD 49 undef = (Value.bool true) := hdp80 11 _ 49 (by kernel_rfl) rfl rfl
            clear hbs80 hdp80
            refine g_true (j := 11) (dj := 49) (b := true) rfl rfl rfl (ev_base hN80 rfl q80_49) ?_
            refine op_loadA (cs := [(Value.int .i64 x.k), (Value.int .i64 x.n), (Value.string (bs x.s))]) agg50 rfl (ev_base hN80 rfl q80_7) (fun j u hu => by rw [Nat.zero_add]; exact hB5.cell hu) ?_
            exact obN_end rfl rfl ((grown_refl _ _))
          · -- operation 24, slot 62
            intro a81 w81 hN81 hR81 hbs81 hdp81
            have hR81 : w34.grownBy w81 none := hR81
            have q81_60 : a81.tmps.getD 60 undef = (Value.agg #[(Value.int .i64 (a.getD (at8.toNat % a.length) V0).k), (Value.int .i64 (a.getD (at8.toNat % a.length) V0).n), (Value.string (bs (a.getD (at8.toNat % a.length) V0).s))]) := hdp81 22 _ 60 (by kernel_rfl) rfl rfl
            have q81_61 : a81.tmps.getD 61 undef = (Value.agg #[(Value.int .i64 x.k), (Value.int .i64 x.n), (Value.string (bs x.s))]) := hdp81 23 _ 61 (by kernel_rfl) rfl rfl
            have q81_49 : a81.tmps.getD 49 undef = (Value.bool true) := hdp81 11 _ 49 (by kernel_rfl) rfl rfl
            clear hbs81 hdp81
            refine g_true (j := 11) (dj := 49) (b := true) rfl rfl rfl (ev_base hN81 rfl q81_49) ?_
            refine op_aeql (xs := [(Value.int .i64 (a.getD (at8.toNat % a.length) V0).k), (Value.int .i64 (a.getD (at8.toNat % a.length) V0).n), (Value.string (bs (a.getD (at8.toNat % a.length) V0).s))]) (ys := [(Value.int .i64 x.k), (Value.int .i64 x.n), (Value.string (bs x.s))]) (b' := (decide ((a.getD (at8.toNat % a.length) V0).k = x.k ∧ (a.getD (at8.toNat % a.length) V0).n = x.n ∧ (a.getD (at8.toNat % a.length) V0).s = x.s))) (ev_base hN81 rfl q81_60) (ev_base hN81 rfl q81_61) (eq50 (a.getD (at8.toNat % a.length) V0).k x.k (a.getD (at8.toNat % a.length) V0).n x.n (a.getD (at8.toNat % a.length) V0).s x.s) rfl ?_
            exact obN_end rfl rfl ((grown_refl _ _))
          · -- operation 25, slot 63
            intro a82 w82 hN82 hR82 hbs82 hdp82
            have hR82 : w34.grownBy w82 none := hR82
            have q82_56 : a82.tmps.getD 56 undef = (Value.bool (decide ((putR a) = (putR (a.set (at8.toNat % a.length) x))))) := hdp82 18 _ 56 (by kernel_rfl) rfl rfl
            have q82_62 : a82.tmps.getD 62 undef = (Value.bool (decide ((a.getD (at8.toNat % a.length) V0).k = x.k ∧ (a.getD (at8.toNat % a.length) V0).n = x.n ∧ (a.getD (at8.toNat % a.length) V0).s = x.s))) := hdp82 24 _ 62 (by kernel_rfl) rfl rfl
            have q82_49 : a82.tmps.getD 49 undef = (Value.bool true) := hdp82 11 _ 49 (by kernel_rfl) rfl rfl
            clear hbs82 hdp82
            refine g_true (j := 11) (dj := 49) (b := true) rfl rfl rfl (ev_base hN82 rfl q82_49) ?_
            refine op_eqb Try.underlying4 (ev_base hN82 rfl q82_56) (ev_base hN82 rfl q82_62) ?_
            exact obN_end rfl rfl ((grown_refl _ _))
          · -- operation 26, slot 64
            intro a83 w83 hN83 hR83 hbs83 hdp83
            have hR83 : w34.grownBy w83 none := hR83
            have q83_49 : a83.tmps.getD 49 undef = (Value.bool true) := hdp83 11 _ 49 (by kernel_rfl) rfl rfl
            have q83_63 : a83.tmps.getD 63 undef = (Value.bool ((decide ((putR a) = (putR (a.set (at8.toNat % a.length) x)))) == (decide ((a.getD (at8.toNat % a.length) V0).k = x.k ∧ (a.getD (at8.toNat % a.length) V0).n = x.n ∧ (a.getD (at8.toNat % a.length) V0).s = x.s)))) := hdp83 25 _ 63 (by kernel_rfl) rfl rfl
            clear hbs83 hdp83
            refine op_pick_t (ev_base hN83 rfl q83_49) (ev_base hN83 rfl q83_63) ?_
            exact obN_end rfl rfl ((grown_refl _ _))
          · -- operation 27, slot 8
            intro a84 w84 hN84 hR84 hbs84 hdp84
            have hR84 : w34.grownBy w84 none := hR84
            have q84_64 : a84.tmps.getD 64 undef = (Value.bool ((decide ((putR a) = (putR (a.set (at8.toNat % a.length) x)))) == (decide ((a.getD (at8.toNat % a.length) V0).k = x.k ∧ (a.getD (at8.toNat % a.length) V0).n = x.n ∧ (a.getD (at8.toNat % a.length) V0).s = x.s)))) := hdp84 26 _ 64 (by kernel_rfl) rfl rfl
            clear hbs84 hdp84
            refine op_assign (ev_base hN84 rfl q84_64) ?_
            exact obN_end rfl rfl ((grown_refl _ _))
          · -- behind the region
            intro a85 w85 hN85 hd85 hbs85 hph85 E85
            have hd85 := hd85.trans hd
            have s85_0 : a85.tmps.getD 0 undef = v := (hbs85 0 rfl).trans (sl_base hN rfl s0)
            have s85_1 : a85.tmps.getD 1 undef = u := (hbs85 1 rfl).trans (sl_base hN rfl s1)
            have s85_2 : a85.tmps.getD 2 undef = (Value.int .u8 (at8.toNat : Int)) := (hbs85 2 rfl).trans (sl_base hN rfl s2)
            have s85_3 : a85.tmps.getD 3 undef = (Value.agg #[(Value.int .i64 x.k), (Value.int .i64 x.n), (Value.string (bs x.s))]) := (hbs85 3 rfl).trans (sl_base hN rfl s3)
            have s85_7 : a85.tmps.getD 7 undef = (ptr b3 0) := (hbs85 7 rfl).trans (sl_hit hN rfl)
            have s85_8 : a85.tmps.getD 8 undef = (Value.bool ((decide ((putR a) = (putR (a.set (at8.toNat % a.length) x)))) == (decide ((a.getD (at8.toNat % a.length) V0).k = x.k ∧ (a.getD (at8.toNat % a.length) V0).n = x.n ∧ (a.getD (at8.toNat % a.length) V0).s = x.s)))) := hph85 27 _ 8 rfl rfl
            have s85_9 : a85.tmps.getD 9 undef = v23 := (hbs85 9 rfl).trans (sl_hit hN rfl)
            have s85_10 : a85.tmps.getD 10 undef = (Value.int .i64 (((at8.toNat % a.length) : Nat) : Int)) := (hbs85 10 rfl).trans (sl_hit hN rfl)
            have s85_11 : a85.tmps.getD 11 undef = (Value.bool true) := (hbs85 11 rfl).trans (sl_hit hN rfl)
            have s85_12 : a85.tmps.getD 12 undef = (Value.bool false) := (hbs85 12 rfl).trans (sl_hit hN rfl)
            have s85_13 : a85.tmps.getD 13 undef = v := (hbs85 13 rfl).trans (sl_hit hN rfl)
            have s85_14 : a85.tmps.getD 14 undef = (Value.bool true) := (hbs85 14 rfl).trans (sl_hit hN rfl)
            have s85_15 : a85.tmps.getD 15 undef = (Value.bool false) := (hbs85 15 rfl).trans (sl_hit hN rfl)
            have s85_16 : a85.tmps.getD 16 undef = (Value.bool false) := (hbs85 16 rfl).trans (sl_hit hN rfl)
            have s85_17 : a85.tmps.getD 17 undef = u := (hbs85 17 rfl).trans (sl_hit hN rfl)
            have s85_18 : a85.tmps.getD 18 undef = (Value.bool true) := (hbs85 18 rfl).trans (sl_hit hN rfl)
            have s85_19 : a85.tmps.getD 19 undef = (Value.bool false) := (hbs85 19 rfl).trans (sl_hit hN rfl)
            have s85_20 : a85.tmps.getD 20 undef = (Value.bool false) := (hbs85 20 rfl).trans (sl_hit hN rfl)
            have s85_21 : a85.tmps.getD 21 undef = (Value.bool false) := (hbs85 21 rfl).trans (sl_hit hN rfl)
            have s85_22 : a85.tmps.getD 22 undef = (Value.agg #[(Value.int .i64 x.k), (Value.int .i64 x.n), (Value.string (bs x.s))]) := (hbs85 22 rfl).trans (sl_hit hN rfl)
            have s85_23 : a85.tmps.getD 23 undef = (Value.bool true) := (hbs85 23 rfl).trans (sl_hit hN rfl)
            have s85_24 : a85.tmps.getD 24 undef = (Value.bool false) := (hbs85 24 rfl).trans (sl_hit hN rfl)
            have s85_25 : a85.tmps.getD 25 undef = (Value.bool false) := (hbs85 25 rfl).trans (sl_hit hN rfl)
            have s85_26 : a85.tmps.getD 26 undef = (Value.slice (some ⟨b20, 0, none⟩) 0 0) := (hbs85 26 rfl).trans (sl_hit hN rfl)
            have s85_27 : a85.tmps.getD 27 undef = v := (hbs85 27 rfl).trans (sl_hit hN rfl)
            have s85_28 : a85.tmps.getD 28 undef = v23 := (hbs85 28 rfl).trans (sl_hit hN rfl)
            have s85_29 : a85.tmps.getD 29 undef = (Value.int .u8 (at8.toNat : Int)) := (hbs85 29 rfl).trans (sl_hit hN rfl)
            have s85_30 : a85.tmps.getD 30 undef = (Value.int .i64 (at8.toNat : Int)) := (hbs85 30 rfl).trans (sl_hit hN rfl)
            have s85_31 : a85.tmps.getD 31 undef = v23 := (hbs85 31 rfl).trans (sl_hit hN rfl)
            have s85_32 : a85.tmps.getD 32 undef = (Value.int .i64 ((a.length : Nat) : Int)) := (hbs85 32 rfl).trans (sl_hit hN rfl)
            have s85_33 : a85.tmps.getD 33 undef = (Value.int .i64 (((at8.toNat % a.length) : Nat) : Int)) := (hbs85 33 rfl).trans (sl_hit hN rfl)
            have s85_34 : a85.tmps.getD 34 undef = v23 := (hbs85 34 rfl).trans (sl_hit hN rfl)
            have s85_35 : a85.tmps.getD 35 undef = (Value.int .i64 (((at8.toNat % a.length) : Nat) : Int)) := (hbs85 35 rfl).trans (sl_hit hN rfl)
            have s85_36 : a85.tmps.getD 36 undef = (Value.agg #[(Value.int .i64 x.k), (Value.int .i64 x.n), (Value.string (bs x.s))]) := (hbs85 36 rfl).trans (sl_hit hN rfl)
            have s85_37 : a85.tmps.getD 37 undef = (ptr b31 o32) := (hbs85 37 rfl).trans (sl_hit hN rfl)
            have s85_38 : a85.tmps.getD 38 undef = v := hph85 0 _ 38 rfl rfl
            obtain ⟨v39, s85_39, hO39⟩ := hph85 1 _ 39 rfl rfl
            have hO39 : Own w85 w34.heap.size 5 1 v39 (putR a).length ((putR a).map u8v) := hO39
            have s85_40 : a85.tmps.getD 40 undef = (Value.string (bs (putR a))) := hph85 2 _ 40 rfl rfl
            have s85_41 : a85.tmps.getD 41 undef = u := hph85 3 _ 41 rfl rfl
            obtain ⟨v42, s85_42, hO42⟩ := hph85 4 _ 42 rfl rfl
            have hO42 : Own w85 w34.heap.size 5 1 v42 (putR b).length ((putR b).map u8v) := hO42
            have s85_43 : a85.tmps.getD 43 undef = (Value.string (bs (putR b))) := hph85 5 _ 43 rfl rfl
            have s85_44 : a85.tmps.getD 44 undef = (Value.bool (decide ((putR a) = (putR b)))) := hph85 6 _ 44 rfl rfl
            have s85_45 : a85.tmps.getD 45 undef = v := hph85 7 _ 45 rfl rfl
            have s85_46 : a85.tmps.getD 46 undef = u := hph85 8 _ 46 rfl rfl
            have s85_47 : a85.tmps.getD 47 undef = (Value.bool (decide (a = b))) := hph85 9 _ 47 rfl rfl
            have s85_48 : a85.tmps.getD 48 undef = (Value.bool true) := hph85 10 _ 48 rfl rfl
            have s85_49 : a85.tmps.getD 49 undef = (Value.bool true) := hph85 11 _ 49 rfl rfl
            have s85_50 : a85.tmps.getD 50 undef = v := hph85 12 _ 50 rfl rfl
            obtain ⟨v48, s85_51, hO48⟩ := hph85 13 _ 51 rfl rfl
            have hO48 : Own w85 w34.heap.size 5 1 v48 (putR a).length ((putR a).map u8v) := hO48
            have s85_52 : a85.tmps.getD 52 undef = (Value.string (bs (putR a))) := hph85 14 _ 52 rfl rfl
            have s85_53 : a85.tmps.getD 53 undef = v23 := hph85 15 _ 53 rfl rfl
            obtain ⟨v53, s85_54, hO53⟩ := hph85 16 _ 54 rfl rfl
            have hO53 : Own w85 w34.heap.size 5 1 v53 (putR (a.set (at8.toNat % a.length) x)).length ((putR (a.set (at8.toNat % a.length) x)).map u8v) := hO53
            have s85_55 : a85.tmps.getD 55 undef = (Value.string (bs (putR (a.set (at8.toNat % a.length) x)))) := hph85 17 _ 55 rfl rfl
            have s85_56 : a85.tmps.getD 56 undef = (Value.bool (decide ((putR a) = (putR (a.set (at8.toNat % a.length) x))))) := hph85 18 _ 56 rfl rfl
            have s85_57 : a85.tmps.getD 57 undef = v := hph85 19 _ 57 rfl rfl
            have s85_58 : a85.tmps.getD 58 undef = (Value.int .i64 (((at8.toNat % a.length) : Nat) : Int)) := hph85 20 _ 58 rfl rfl
            obtain ⟨b59, o60, s85_59, hp62⟩ := hph85 21 _ 59 rfl rfl
            have hp62 : PtC w85 0 w.heap.size b59 o60 [(Value.int .i64 (a.getD (at8.toNat % a.length) V0).k), (Value.int .i64 (a.getD (at8.toNat % a.length) V0).n), (Value.string (bs (a.getD (at8.toNat % a.length) V0).s))] := hp62
            have s85_60 : a85.tmps.getD 60 undef = (Value.agg #[(Value.int .i64 (a.getD (at8.toNat % a.length) V0).k), (Value.int .i64 (a.getD (at8.toNat % a.length) V0).n), (Value.string (bs (a.getD (at8.toNat % a.length) V0).s))]) := hph85 22 _ 60 rfl rfl
            have s85_61 : a85.tmps.getD 61 undef = (Value.agg #[(Value.int .i64 x.k), (Value.int .i64 x.n), (Value.string (bs x.s))]) := hph85 23 _ 61 rfl rfl
            have s85_62 : a85.tmps.getD 62 undef = (Value.bool (decide ((a.getD (at8.toNat % a.length) V0).k = x.k ∧ (a.getD (at8.toNat % a.length) V0).n = x.n ∧ (a.getD (at8.toNat % a.length) V0).s = x.s))) := hph85 24 _ 62 rfl rfl
            have s85_63 : a85.tmps.getD 63 undef = (Value.bool ((decide ((putR a) = (putR (a.set (at8.toNat % a.length) x)))) == (decide ((a.getD (at8.toNat % a.length) V0).k = x.k ∧ (a.getD (at8.toNat % a.length) V0).n = x.n ∧ (a.getD (at8.toNat % a.length) V0).s = x.s)))) := hph85 25 _ 63 rfl rfl
            have s85_64 : a85.tmps.getD 64 undef = (Value.bool ((decide ((putR a) = (putR (a.set (at8.toNat % a.length) x)))) == (decide ((a.getD (at8.toNat % a.length) V0).k = x.k ∧ (a.getD (at8.toNat % a.length) V0).n = x.n ∧ (a.getD (at8.toNat % a.length) V0).s = x.s)))) := hph85 26 _ 64 rfl rfl
            clear hbs85 hph85
            have E85 : w34.grownBy w85 none := E85
            have z_w85 := E85.size
            have h := h.keep0 E85
            have h2 := h2.keep0 E85
            have hB5 := hB5.keep0 E85
            have hO37 := hO37.keep0 E85
            have hb := below_step0 hb E85 hb.size
            refine hK38 _ _ ?_
            refine wp_ret ?_
            refine ret1 rfl hd85 (ev_base hN85 rfl s85_8) ⟨_, rfl, ?_⟩
            -- path 14T 18T 23T 48T
            exact ⟨hb, congrArg Value.bool (eqd (putR_set c14 c23 oa ox hka))⟩
        · -- 48 False
          exact absurd (g48.symm.trans (eqd (putR_iff c14 c18 oa ob))) (by decide)
      · -- 23 False
        rw [c23]
        refine g_true (j := 8) (dj := 21) (b := false) rfl rfl rfl (ev_hit hN rfl) ?_
        refine op_not (ev_hit hN rfl) ?_
        refine op_pick_f (ev_hit hN rfl) (ev_hit hN rfl) ?_
        refine reg_nil ?_
        refine hK11 _ _ ?_
        refine wp_cond_true (ev_hit hN rfl) ?_
        refine seq_any fun K86 hK86 => ?_
        refine one_reg ?_
        refine op_assign rfl ?_
        refine reg_nil ?_
        refine hK86 _ _ ?_
        refine wp_ret (then_ret ( ?_))
        refine ret1 rfl hd (ev_hit hN rfl) ⟨_, rfl, ?_⟩
        -- path 14T 18T 23F
        exact ⟨hb, rfl⟩
    · -- 18 False
      rw [c18]
      refine g_true (j := 3) (dj := 16) (b := false) rfl rfl rfl (ev_hit hN rfl) ?_
      refine op_not (ev_hit hN rfl) ?_
      refine op_pick_f (ev_hit hN rfl) (ev_hit hN rfl) ?_
      refine op_move (ev_hit hN rfl) ?_
      refine g_false (j := 8) (dj := 21) (b := false) rfl rfl rfl (ev_hit hN rfl) rfl rfl ?_
      refine g_false (j := 8) (dj := 21) (b := false) rfl rfl rfl (ev_hit hN rfl) rfl rfl ?_
      refine g_false (j := 8) (dj := 21) (b := false) rfl rfl rfl (ev_hit hN rfl) rfl rfl ?_
      refine op_pick_t (ev_hit hN rfl) rfl ?_
      refine reg_nil ?_
      refine hK11 _ _ ?_
      refine wp_cond_true (ev_hit hN rfl) ?_
      refine seq_any fun K87 hK87 => ?_
      refine one_reg ?_
      refine op_assign rfl ?_
      refine reg_nil ?_
      refine hK87 _ _ ?_
      refine wp_ret (then_ret ( ?_))
      refine ret1 rfl hd (ev_hit hN rfl) ⟨_, rfl, ?_⟩
      -- path 14T 18F
      exact ⟨hb, rfl⟩
  · -- 14 False
    rw [c14]
    refine op_not (ev_hit hN rfl) ?_
    refine op_move (ev_hit hN rfl) ?_
    refine g_false (j := 3) (dj := 16) (b := false) rfl rfl rfl (ev_hit hN rfl) rfl rfl ?_
    refine g_false (j := 3) (dj := 16) (b := false) rfl rfl rfl (ev_hit hN rfl) rfl rfl ?_
    refine g_false (j := 3) (dj := 16) (b := false) rfl rfl rfl (ev_hit hN rfl) rfl rfl ?_
    refine op_pick_t (ev_hit hN rfl) rfl ?_
    refine op_move (ev_hit hN rfl) ?_
    refine g_false (j := 8) (dj := 21) (b := false) rfl rfl rfl (ev_hit hN rfl) rfl rfl ?_
    refine g_false (j := 8) (dj := 21) (b := false) rfl rfl rfl (ev_hit hN rfl) rfl rfl ?_
    refine g_false (j := 8) (dj := 21) (b := false) rfl rfl rfl (ev_hit hN rfl) rfl rfl ?_
    refine op_pick_t (ev_hit hN rfl) rfl ?_
    refine reg_nil ?_
    refine hK11 _ _ ?_
    refine wp_cond_true (ev_hit hN rfl) ?_
    refine seq_any fun K88 hK88 => ?_
    refine one_reg ?_
    refine op_assign rfl ?_
    refine reg_nil ?_
    refine hK88 _ _ ?_
    refine wp_ret (then_ret ( ?_))
    refine ret1 rfl hd (ev_hit hN rfl) ⟨_, rfl, ?_⟩
    -- path 14F
    exact ⟨hb, rfl⟩

end Go.Proofs.Ytkkongnmcfdioaa
