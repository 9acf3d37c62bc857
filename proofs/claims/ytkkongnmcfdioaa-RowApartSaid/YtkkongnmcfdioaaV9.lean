/- Walks, written by a program: what each function of the translation hands back. -/
import Derived.Test.YtkkongnmcfdioaaV8
import Derived.Test.YtkkongnmcfdioaaVPlain
namespace Go.Proofs.Ytkkongnmcfdioaa
open Go.Gx Go.RowKit
attribute [local irreducible] wpList Code.wp Calls

theorem ValueInts_ret (a b : Int) (w : World) (ha : -9223372036854775808 ≤ a ∧ a ≤ 9223372036854775807) (hb2 : -9223372036854775808 ≤ b ∧ b ≤ 9223372036854775807) : Ret Try.prog 8 #[(Value.int .i64 a), (Value.int .i64 b)] w (fun v' w' => Below w.heap.size w w' ∧ v' = .bool true) := by
  have hb := Below.refl w.heap.size w
  refine enter (N := 43) Try.func8 rfl rfl (by simp) fun a0 hN hd hA => ?_
  have s0 : a0.tmps.getD 0 undef = (Value.int .i64 a) := hA 0 (by simp)
  have s1 : a0.tmps.getD 1 undef = (Value.int .i64 b) := hA 1 (by simp)
  clear hA
  refine seq_any fun K887 hK887 => ?_
  refine one_reg ?_
  refine op_assign rfl ?_
  refine reg_nil ?_
  refine hK887 _ _ ?_
  refine seq_any fun K888 hK888 => ?_
  refine seq_any fun K889 hK889 => ?_
  refine one_reg ?_
  refine op_fn (vs := []) ok30 trivial (begun4_ret _) ?_
  rintro _ w890 ⟨E891, rfl⟩
  have E891 := grown_of_below E891
  have z_w890 := E891.size
  have hb := below_step0 hb E891 hb.size
  refine op_not (ev_hit hN rfl) ?_
  refine reg_nil ?_
  refine hK889 _ _ ?_
  refine wp_cond_false (ev_hit hN rfl) ?_
  refine wp_skip ?_
  refine hK888 _ _ ?_
  refine seq_any fun K892 hK892 => ?_
  refine reg_quiet (Φ := phiL [(fun u _ => u = (Value.int .i64 a)), (fun u _ => u = (Value.agg #[(Value.int .i64 1), (Value.int .i64 a), (Value.string (bs []))])), (fun u w' => ∃ (v894 : Value), u = v894 ∧ Own w' w890.heap.size 5 1 v894 (keyV ⟨1, a, []⟩).length ((keyV ⟨1, a, []⟩).map u8v)), (fun u _ => u = (Value.string (bs (keyV ⟨1, a, []⟩)))), (fun u _ => u = (Value.int .i64 b)), (fun u _ => u = (Value.agg #[(Value.int .i64 1), (Value.int .i64 b), (Value.string (bs []))])), (fun u w' => ∃ (v899 : Value), u = v899 ∧ Own w' w890.heap.size 5 1 v899 (keyV ⟨1, b, []⟩).length ((keyV ⟨1, b, []⟩).map u8v)), (fun u _ => u = (Value.string (bs (keyV ⟨1, b, []⟩)))), (fun u _ => u = (Value.string (bs (keyV ⟨1, a, []⟩)))), (fun u _ => u = (Value.string (bs (keyV ⟨1, b, []⟩))))]) mixed (by kernel_rfl) (by kernel_rfl) (by kernel_rfl) hN (StL.get (StL.eq (StL.eq (StL.cons (fun u w1 w2 E h => by obtain ⟨x0, hv, f0⟩ := h; exact ⟨x0, hv, f0.keep0 E⟩) (StL.eq (StL.eq (StL.eq (StL.cons (fun u w1 w2 E h => by obtain ⟨x0, hv, f0⟩ := h; exact ⟨x0, hv, f0.keep0 E⟩) (StL.eq (StL.eq (StL.eq (StL.nil _)))))))))))) (ObL.get (s := 10) (ObL.cons ?_ (ObL.cons ?_ (ObL.cons ?_ (ObL.cons ?_ (ObL.cons ?_ (ObL.cons ?_ (ObL.cons ?_ (ObL.cons ?_ (ObL.cons ?_ (ObL.cons ?_ (ObL.nil))))))))))) rfl) ?_
  · -- operation 0, slot 10
    intro a893 w893 hN893 hR893 hbs893 hdp893
    have hR893 : w890.grownBy w893 none := hR893
    have q893_0 : a893.tmps.getD 0 undef = (Value.int .i64 a) := (hbs893 0 rfl).trans (sl_base hN rfl s0)
    clear hbs893 hdp893
    refine op_move (ev_base hN893 rfl q893_0) ?_
    exact obN_end rfl rfl ((grown_refl _ _))
  · -- operation 1, slot 11
    intro a894 w894 hN894 hR894 hbs894 hdp894
    have hR894 : w890.grownBy w894 none := hR894
    have q894_10 : a894.tmps.getD 10 undef = (Value.int .i64 a) := hdp894 0 _ 10 (by kernel_rfl) rfl rfl
    clear hbs894 hdp894
    refine op_build (pv := [(0, (Value.int .i64 1)), (1, (Value.int .i64 a))]) (v := (Value.agg #[(Value.int .i64 1), (Value.int .i64 a), (Value.string (bs []))])) ⟨rfl, rfl, ⟨rfl, (ev_base hN894 rfl q894_10), trivial⟩⟩ (by kernel_rfl) ?_
    exact obN_end rfl rfl ((grown_refl _ _))
  · -- operation 2, slot 12
    intro a895 w895 hN895 hR895 hbs895 hdp895
    have hR895 : w890.grownBy w895 none := hR895
    have z_w895 := hR895.size
    have hb := below_step0 hb hR895 hb.size
    have q895_11 : a895.tmps.getD 11 undef = (Value.agg #[(Value.int .i64 1), (Value.int .i64 a), (Value.string (bs []))]) := hdp895 1 _ 11 (by kernel_rfl) rfl rfl
    clear hbs895 hdp895
    have hq896 : RdC w895 0 w895.heap.size 1 (Value.slice none 0 0) ([] : List UInt8).length (([] : List UInt8).map u8v) := by have hh : RdC w895 0 w895.heap.size 1 _ _ _ := ((RdC.nil _ 0 0 1).mono (L' := 0) (B' := w895.heap.size) (Nat.zero_le _) (by omega)); first | simpa using hh | simpa [Nat.add_comm, Nat.add_left_comm, Nat.add_assoc] using hh
    refine op_fn (vs := [(Value.slice none 0 0), (Value.agg #[(Value.int .i64 1), (Value.int .i64 a), (Value.string (bs []))])]) ok34 ⟨rfl, ⟨(ev_base hN895 rfl q895_11), trivial⟩⟩ (Key_ret [] ⟨1, a, []⟩ _ _ (by first | assumption | omega | (simp only [List.length_append, List.length_cons, List.length_nil, List.length_drop, List.length_take]; omega) | (dsimp only; omega) | decide | (simp [keyV, be8_len]; done)) (by first | assumption | omega | (simp only [List.length_append, List.length_cons, List.length_nil, List.length_drop, List.length_take]; omega) | (dsimp only; omega) | decide | (simp [keyV, be8_len]; done)) (by first | assumption | omega | (simp only [List.length_append, List.length_cons, List.length_nil, List.length_drop, List.length_take]; omega) | (dsimp only; omega) | decide | (simp [keyV, be8_len]; done)) hq896) ?_
    rintro v897 w899 ⟨E900, hO898⟩
    have E900 := grown_of_below E900
    have z_w899 := E900.size
    have hb := below_step0 hb E900 hb.size
    have hO898 : Own w899 w890.heap.size 5 1 v897 (keyV ⟨1, a, []⟩).length ((keyV ⟨1, a, []⟩).map u8v) := by simpa using hO898.mono (base' := w890.heap.size) (by omega)
    exact obN_end rfl ⟨v897, rfl, hO898⟩ (E900)
  · -- operation 3, slot 13
    intro a901 w901 hN901 hR901 hbs901 hdp901
    have hR901 : w890.grownBy w901 none := hR901
    have z_w901 := hR901.size
    have hb := below_step0 hb hR901 hb.size
    obtain ⟨v894, q901_12, hO895⟩ := hdp901 2 _ 12 (by kernel_rfl) rfl rfl
    have hO895 : Own w901 w890.heap.size 5 1 v894 (keyV ⟨1, a, []⟩).length ((keyV ⟨1, a, []⟩).map u8v) := hO895
    clear hbs901 hdp901
    refine op_str_of (bl := (keyV ⟨1, a, []⟩)) Try.underlying22 Try.underlying5 Try.underlying9 (ev_base hN901 rfl q901_12) hO895.rdw ?_
    exact obN_end rfl rfl ((grown_refl _ _))
  · -- operation 4, slot 14
    intro a902 w902 hN902 hR902 hbs902 hdp902
    have hR902 : w890.grownBy w902 none := hR902
    have q902_1 : a902.tmps.getD 1 undef = (Value.int .i64 b) := (hbs902 1 rfl).trans (sl_base hN rfl s1)
    clear hbs902 hdp902
    refine op_move (ev_base hN902 rfl q902_1) ?_
    exact obN_end rfl rfl ((grown_refl _ _))
  · -- operation 5, slot 15
    intro a903 w903 hN903 hR903 hbs903 hdp903
    have hR903 : w890.grownBy w903 none := hR903
    have q903_14 : a903.tmps.getD 14 undef = (Value.int .i64 b) := hdp903 4 _ 14 (by kernel_rfl) rfl rfl
    clear hbs903 hdp903
    refine op_build (pv := [(0, (Value.int .i64 1)), (1, (Value.int .i64 b))]) (v := (Value.agg #[(Value.int .i64 1), (Value.int .i64 b), (Value.string (bs []))])) ⟨rfl, rfl, ⟨rfl, (ev_base hN903 rfl q903_14), trivial⟩⟩ (by kernel_rfl) ?_
    exact obN_end rfl rfl ((grown_refl _ _))
  · -- operation 6, slot 16
    intro a904 w904 hN904 hR904 hbs904 hdp904
    have hR904 : w890.grownBy w904 none := hR904
    have z_w904 := hR904.size
    have hb := below_step0 hb hR904 hb.size
    have q904_15 : a904.tmps.getD 15 undef = (Value.agg #[(Value.int .i64 1), (Value.int .i64 b), (Value.string (bs []))]) := hdp904 5 _ 15 (by kernel_rfl) rfl rfl
    clear hbs904 hdp904
    have hq905 : RdC w904 0 w904.heap.size 1 (Value.slice none 0 0) ([] : List UInt8).length (([] : List UInt8).map u8v) := by have hh : RdC w904 0 w904.heap.size 1 _ _ _ := ((RdC.nil _ 0 0 1).mono (L' := 0) (B' := w904.heap.size) (Nat.zero_le _) (by omega)); first | simpa using hh | simpa [Nat.add_comm, Nat.add_left_comm, Nat.add_assoc] using hh
    refine op_fn (vs := [(Value.slice none 0 0), (Value.agg #[(Value.int .i64 1), (Value.int .i64 b), (Value.string (bs []))])]) ok34 ⟨rfl, ⟨(ev_base hN904 rfl q904_15), trivial⟩⟩ (Key_ret [] ⟨1, b, []⟩ _ _ (by first | assumption | omega | (simp only [List.length_append, List.length_cons, List.length_nil, List.length_drop, List.length_take]; omega) | (dsimp only; omega) | decide | (simp [keyV, be8_len]; done)) (by first | assumption | omega | (simp only [List.length_append, List.length_cons, List.length_nil, List.length_drop, List.length_take]; omega) | (dsimp only; omega) | decide | (simp [keyV, be8_len]; done)) (by first | assumption | omega | (simp only [List.length_append, List.length_cons, List.length_nil, List.length_drop, List.length_take]; omega) | (dsimp only; omega) | decide | (simp [keyV, be8_len]; done)) hq905) ?_
    rintro v906 w908 ⟨E909, hO907⟩
    have E909 := grown_of_below E909
    have z_w908 := E909.size
    have hb := below_step0 hb E909 hb.size
    have hO907 : Own w908 w890.heap.size 5 1 v906 (keyV ⟨1, b, []⟩).length ((keyV ⟨1, b, []⟩).map u8v) := by simpa using hO907.mono (base' := w890.heap.size) (by omega)
    exact obN_end rfl ⟨v906, rfl, hO907⟩ (E909)
  · -- operation 7, slot 17
    intro a910 w910 hN910 hR910 hbs910 hdp910
    have hR910 : w890.grownBy w910 none := hR910
    have z_w910 := hR910.size
    have hb := below_step0 hb hR910 hb.size
    obtain ⟨v899, q910_16, hO900⟩ := hdp910 6 _ 16 (by kernel_rfl) rfl rfl
    have hO900 : Own w910 w890.heap.size 5 1 v899 (keyV ⟨1, b, []⟩).length ((keyV ⟨1, b, []⟩).map u8v) := hO900
    clear hbs910 hdp910
    refine op_str_of (bl := (keyV ⟨1, b, []⟩)) Try.underlying22 Try.underlying5 Try.underlying9 (ev_base hN910 rfl q910_16) hO900.rdw ?_
    exact obN_end rfl rfl ((grown_refl _ _))
  · -- operation 8, slot 5
    intro a911 w911 hN911 hR911 hbs911 hdp911
    have hR911 : w890.grownBy w911 none := hR911
    have q911_13 : a911.tmps.getD 13 undef = (Value.string (bs (keyV ⟨1, a, []⟩))) := hdp911 3 _ 13 (by kernel_rfl) rfl rfl
    clear hbs911 hdp911
    refine op_assign (ev_base hN911 rfl q911_13) ?_
    exact obN_end rfl rfl ((grown_refl _ _))
  · -- operation 9, slot 6
    intro a912 w912 hN912 hR912 hbs912 hdp912
    have hR912 : w890.grownBy w912 none := hR912
    have q912_17 : a912.tmps.getD 17 undef = (Value.string (bs (keyV ⟨1, b, []⟩))) := hdp912 7 _ 17 (by kernel_rfl) rfl rfl
    clear hbs912 hdp912
    refine op_assign (ev_base hN912 rfl q912_17) ?_
    exact obN_end rfl rfl ((grown_refl _ _))
  · -- behind the region
    intro a913 w913 hN913 hd913 hbs913 hph913 E913
    have hd913 := hd913.trans hd
    have s913_0 : a913.tmps.getD 0 undef = (Value.int .i64 a) := (hbs913 0 rfl).trans (sl_base hN rfl s0)
    have s913_1 : a913.tmps.getD 1 undef = (Value.int .i64 b) := (hbs913 1 rfl).trans (sl_base hN rfl s1)
    have s913_4 : a913.tmps.getD 4 undef = (Value.bool false) := (hbs913 4 rfl).trans (sl_hit hN rfl)
    have s913_5 : a913.tmps.getD 5 undef = (Value.string (bs (keyV ⟨1, a, []⟩))) := hph913 8 _ 5 rfl rfl
    have s913_6 : a913.tmps.getD 6 undef = (Value.string (bs (keyV ⟨1, b, []⟩))) := hph913 9 _ 6 rfl rfl
    have s913_8 : a913.tmps.getD 8 undef = (Value.bool true) := (hbs913 8 rfl).trans (sl_hit hN rfl)
    have s913_9 : a913.tmps.getD 9 undef = (Value.bool false) := (hbs913 9 rfl).trans (sl_hit hN rfl)
    have s913_10 : a913.tmps.getD 10 undef = (Value.int .i64 a) := hph913 0 _ 10 rfl rfl
    have s913_11 : a913.tmps.getD 11 undef = (Value.agg #[(Value.int .i64 1), (Value.int .i64 a), (Value.string (bs []))]) := hph913 1 _ 11 rfl rfl
    obtain ⟨v894, s913_12, hO895⟩ := hph913 2 _ 12 rfl rfl
    have hO895 : Own w913 w890.heap.size 5 1 v894 (keyV ⟨1, a, []⟩).length ((keyV ⟨1, a, []⟩).map u8v) := hO895
    have s913_13 : a913.tmps.getD 13 undef = (Value.string (bs (keyV ⟨1, a, []⟩))) := hph913 3 _ 13 rfl rfl
    have s913_14 : a913.tmps.getD 14 undef = (Value.int .i64 b) := hph913 4 _ 14 rfl rfl
    have s913_15 : a913.tmps.getD 15 undef = (Value.agg #[(Value.int .i64 1), (Value.int .i64 b), (Value.string (bs []))]) := hph913 5 _ 15 rfl rfl
    obtain ⟨v899, s913_16, hO900⟩ := hph913 6 _ 16 rfl rfl
    have hO900 : Own w913 w890.heap.size 5 1 v899 (keyV ⟨1, b, []⟩).length ((keyV ⟨1, b, []⟩).map u8v) := hO900
    have s913_17 : a913.tmps.getD 17 undef = (Value.string (bs (keyV ⟨1, b, []⟩))) := hph913 7 _ 17 rfl rfl
    clear hbs913 hph913
    have E913 : w890.grownBy w913 none := E913
    have z_w913 := E913.size
    have hb := below_step0 hb E913 hb.size
    refine hK892 _ _ ?_
    refine seq_any fun K914 hK914 => ?_
    refine one_reg ?_
    refine op_assign rfl ?_
    refine reg_nil ?_
    refine hK914 _ _ ?_
    refine seq_any fun K915 hK915 => ?_
    refine seq_any fun K916 hK916 => ?_
    refine one_reg ?_
    refine op_move (ev_base hN913 rfl s913_0) ?_
    refine op_move (ev_base hN913 rfl s913_1) ?_
    refine op_lss (ev_hit hN913 rfl) (ev_hit hN913 rfl) (fun c20 => ?_) (fun c20 => ?_)
    · -- 20 True
      refine reg_nil ?_
      refine hK916 _ _ ?_
      refine wp_cond_true (ev_hit hN913 rfl) ?_
      refine one_reg ?_
      refine op_assign rfl ?_
      refine reg_nil ?_
      refine hK915 _ _ ?_
      refine seq_any fun K917 hK917 => ?_
      refine one_reg ?_
      refine op_move (ev_base hN913 rfl s913_5) ?_
      refine op_len_str Try.underlying9 (ev_hit hN913 rfl) ?_
      refine op_eql (ev_hit hN913 rfl) rfl (fun c26 => ?_) (fun c26 => ?_)
      · -- 26 True
        refine op_move (ev_hit hN913 rfl) ?_
        refine g_true (j := 3) (dj := 27) (b := true) rfl rfl rfl (ev_hit hN913 rfl) ?_
        refine op_move (ev_base hN913 rfl s913_5) ?_
        refine g_true (j := 3) (dj := 27) (b := true) rfl rfl rfl (ev_hit hN913 rfl) ?_
        refine op_move (ev_base hN913 rfl s913_6) ?_
        refine g_true (j := 3) (dj := 27) (b := true) rfl rfl rfl (ev_hit hN913 rfl) ?_
        refine op_fn (vs := [(Value.string (bs (keyV ⟨1, a, []⟩))), (Value.string (bs (keyV ⟨1, b, []⟩)))]) ok42 ⟨(ev_hit hN913 rfl), ⟨(ev_hit hN913 rfl), trivial⟩⟩ (CompareText_ret (keyV ⟨1, a, []⟩) (keyV ⟨1, b, []⟩) _ (by first | assumption | omega | (simp only [List.length_append, List.length_cons, List.length_nil, List.length_drop, List.length_take]; omega) | (dsimp only; omega) | decide | (simp [keyV, be8_len]; done)) (by first | assumption | omega | (simp only [List.length_append, List.length_cons, List.length_nil, List.length_drop, List.length_take]; omega) | (dsimp only; omega) | decide | (simp [keyV, be8_len]; done))) ?_
        rintro _ w918 ⟨E919, rfl⟩
        have E919 := grown_of_below E919
        have z_w918 := E919.size
        have hO895 := hO895.keep0 E919
        have hO900 := hO900.keep0 E919
        have hb := below_step0 hb E919 hb.size
        refine g_true (j := 3) (dj := 27) (b := true) rfl rfl rfl (ev_hit hN913 rfl) ?_
        refine op_move (ev_hit hN913 rfl) ?_
        refine g_true (j := 3) (dj := 27) (b := true) rfl rfl rfl (ev_hit hN913 rfl) ?_
        refine op_eql (ev_hit hN913 rfl) (ev_hit hN913 rfl) (fun c32 => ?_) (fun c32 => ?_)
        · -- 32 True
          refine op_pick_t (ev_hit hN913 rfl) (ev_hit hN913 rfl) ?_
          refine op_move (ev_hit hN913 rfl) ?_
          refine g_true (j := 10) (dj := 34) (b := true) rfl rfl rfl (ev_hit hN913 rfl) ?_
          refine op_move (ev_base hN913 rfl s913_0) ?_
          refine g_true (j := 10) (dj := 34) (b := true) rfl rfl rfl (ev_hit hN913 rfl) ?_
          refine op_build (pv := [(0, (Value.int .i64 1)), (1, (Value.int .i64 a))]) (v := (Value.agg #[(Value.int .i64 1), (Value.int .i64 a), (Value.string (bs []))])) ⟨rfl, rfl, ⟨rfl, (ev_hit hN913 rfl), trivial⟩⟩ (by kernel_rfl) ?_
          refine g_true (j := 10) (dj := 34) (b := true) rfl rfl rfl (ev_hit hN913 rfl) ?_
          refine op_move (ev_base hN913 rfl s913_1) ?_
          refine g_true (j := 10) (dj := 34) (b := true) rfl rfl rfl (ev_hit hN913 rfl) ?_
          refine op_build (pv := [(0, (Value.int .i64 1)), (1, (Value.int .i64 b))]) (v := (Value.agg #[(Value.int .i64 1), (Value.int .i64 b), (Value.string (bs []))])) ⟨rfl, rfl, ⟨rfl, (ev_hit hN913 rfl), trivial⟩⟩ (by kernel_rfl) ?_
          refine g_true (j := 10) (dj := 34) (b := true) rfl rfl rfl (ev_hit hN913 rfl) ?_
          refine op_fn (vs := [(Value.agg #[(Value.int .i64 1), (Value.int .i64 a), (Value.string (bs []))]), (Value.agg #[(Value.int .i64 1), (Value.int .i64 b), (Value.string (bs []))])]) ok35 ⟨(ev_hit hN913 rfl), ⟨(ev_hit hN913 rfl), trivial⟩⟩ (Compare_ret ⟨1, a, []⟩ ⟨1, b, []⟩ _) ?_
          rintro _ w920 ⟨E921, rfl⟩
          have E921 := grown_of_below E921
          have z_w920 := E921.size
          have hO895 := hO895.keep0 E921
          have hO900 := hO900.keep0 E921
          have hb := below_step0 hb E921 hb.size
          refine g_true (j := 10) (dj := 34) (b := true) rfl rfl rfl (ev_hit hN913 rfl) ?_
          refine op_move (ev_hit hN913 rfl) ?_
          refine g_true (j := 10) (dj := 34) (b := true) rfl rfl rfl (ev_hit hN913 rfl) ?_
          refine op_eql (ev_hit hN913 rfl) (ev_hit hN913 rfl) (fun c41 => ?_) (fun c41 => ?_)
          · -- 41 True
            refine op_pick_t (ev_hit hN913 rfl) (ev_hit hN913 rfl) ?_
            refine op_assign (ev_hit hN913 rfl) ?_
            refine reg_nil ?_
            refine hK917 _ _ ?_
            refine wp_ret ?_
            refine ret1 rfl hd913 (ev_hit hN913 rfl) ⟨_, rfl, ?_⟩
            -- path 20T 26T 32T 41T
            exact ⟨hb, rfl⟩
          · -- 41 False
            exact absurd (by simp only [cmpW, cmpI, cmpT]; (repeat' split) <;> omega) c41
        · -- 32 False
          exact absurd (by have := key_int ha hb2; simp only [keyV, if_true]; rw [this]; simp only [cmpI]; (repeat' split) <;> omega) c32
      · -- 26 False
        exact absurd (by simp [keyV, be8_len]) c26
    · -- 20 False
      refine reg_nil ?_
      refine hK916 _ _ ?_
      refine wp_cond_false (ev_hit hN913 rfl) ?_
      refine seq_any fun K922 hK922 => ?_
      refine one_reg ?_
      refine op_move (ev_base hN913 rfl s913_0) ?_
      refine op_move (ev_base hN913 rfl s913_1) ?_
      refine op_gtr (ev_hit hN913 rfl) (ev_hit hN913 rfl) (fun c23 => ?_) (fun c23 => ?_)
      · -- 23 True
        refine reg_nil ?_
        refine hK922 _ _ ?_
        refine wp_cond_true (ev_hit hN913 rfl) ?_
        refine one_reg ?_
        refine op_assign rfl ?_
        refine reg_nil ?_
        refine hK915 _ _ ?_
        refine seq_any fun K923 hK923 => ?_
        refine one_reg ?_
        refine op_move (ev_base hN913 rfl s913_5) ?_
        refine op_len_str Try.underlying9 (ev_hit hN913 rfl) ?_
        refine op_eql (ev_hit hN913 rfl) rfl (fun c26 => ?_) (fun c26 => ?_)
        · -- 26 True
          refine op_move (ev_hit hN913 rfl) ?_
          refine g_true (j := 3) (dj := 27) (b := true) rfl rfl rfl (ev_hit hN913 rfl) ?_
          refine op_move (ev_base hN913 rfl s913_5) ?_
          refine g_true (j := 3) (dj := 27) (b := true) rfl rfl rfl (ev_hit hN913 rfl) ?_
          refine op_move (ev_base hN913 rfl s913_6) ?_
          refine g_true (j := 3) (dj := 27) (b := true) rfl rfl rfl (ev_hit hN913 rfl) ?_
          refine op_fn (vs := [(Value.string (bs (keyV ⟨1, a, []⟩))), (Value.string (bs (keyV ⟨1, b, []⟩)))]) ok42 ⟨(ev_hit hN913 rfl), ⟨(ev_hit hN913 rfl), trivial⟩⟩ (CompareText_ret (keyV ⟨1, a, []⟩) (keyV ⟨1, b, []⟩) _ (by first | assumption | omega | (simp only [List.length_append, List.length_cons, List.length_nil, List.length_drop, List.length_take]; omega) | (dsimp only; omega) | decide | (simp [keyV, be8_len]; done)) (by first | assumption | omega | (simp only [List.length_append, List.length_cons, List.length_nil, List.length_drop, List.length_take]; omega) | (dsimp only; omega) | decide | (simp [keyV, be8_len]; done))) ?_
          rintro _ w924 ⟨E925, rfl⟩
          have E925 := grown_of_below E925
          have z_w924 := E925.size
          have hO895 := hO895.keep0 E925
          have hO900 := hO900.keep0 E925
          have hb := below_step0 hb E925 hb.size
          refine g_true (j := 3) (dj := 27) (b := true) rfl rfl rfl (ev_hit hN913 rfl) ?_
          refine op_move (ev_hit hN913 rfl) ?_
          refine g_true (j := 3) (dj := 27) (b := true) rfl rfl rfl (ev_hit hN913 rfl) ?_
          refine op_eql (ev_hit hN913 rfl) (ev_hit hN913 rfl) (fun c32 => ?_) (fun c32 => ?_)
          · -- 32 True
            refine op_pick_t (ev_hit hN913 rfl) (ev_hit hN913 rfl) ?_
            refine op_move (ev_hit hN913 rfl) ?_
            refine g_true (j := 10) (dj := 34) (b := true) rfl rfl rfl (ev_hit hN913 rfl) ?_
            refine op_move (ev_base hN913 rfl s913_0) ?_
            refine g_true (j := 10) (dj := 34) (b := true) rfl rfl rfl (ev_hit hN913 rfl) ?_
            refine op_build (pv := [(0, (Value.int .i64 1)), (1, (Value.int .i64 a))]) (v := (Value.agg #[(Value.int .i64 1), (Value.int .i64 a), (Value.string (bs []))])) ⟨rfl, rfl, ⟨rfl, (ev_hit hN913 rfl), trivial⟩⟩ (by kernel_rfl) ?_
            refine g_true (j := 10) (dj := 34) (b := true) rfl rfl rfl (ev_hit hN913 rfl) ?_
            refine op_move (ev_base hN913 rfl s913_1) ?_
            refine g_true (j := 10) (dj := 34) (b := true) rfl rfl rfl (ev_hit hN913 rfl) ?_
            refine op_build (pv := [(0, (Value.int .i64 1)), (1, (Value.int .i64 b))]) (v := (Value.agg #[(Value.int .i64 1), (Value.int .i64 b), (Value.string (bs []))])) ⟨rfl, rfl, ⟨rfl, (ev_hit hN913 rfl), trivial⟩⟩ (by kernel_rfl) ?_
            refine g_true (j := 10) (dj := 34) (b := true) rfl rfl rfl (ev_hit hN913 rfl) ?_
            refine op_fn (vs := [(Value.agg #[(Value.int .i64 1), (Value.int .i64 a), (Value.string (bs []))]), (Value.agg #[(Value.int .i64 1), (Value.int .i64 b), (Value.string (bs []))])]) ok35 ⟨(ev_hit hN913 rfl), ⟨(ev_hit hN913 rfl), trivial⟩⟩ (Compare_ret ⟨1, a, []⟩ ⟨1, b, []⟩ _) ?_
            rintro _ w926 ⟨E927, rfl⟩
            have E927 := grown_of_below E927
            have z_w926 := E927.size
            have hO895 := hO895.keep0 E927
            have hO900 := hO900.keep0 E927
            have hb := below_step0 hb E927 hb.size
            refine g_true (j := 10) (dj := 34) (b := true) rfl rfl rfl (ev_hit hN913 rfl) ?_
            refine op_move (ev_hit hN913 rfl) ?_
            refine g_true (j := 10) (dj := 34) (b := true) rfl rfl rfl (ev_hit hN913 rfl) ?_
            refine op_eql (ev_hit hN913 rfl) (ev_hit hN913 rfl) (fun c41 => ?_) (fun c41 => ?_)
            · -- 41 True
              refine op_pick_t (ev_hit hN913 rfl) (ev_hit hN913 rfl) ?_
              refine op_assign (ev_hit hN913 rfl) ?_
              refine reg_nil ?_
              refine hK923 _ _ ?_
              refine wp_ret ?_
              refine ret1 rfl hd913 (ev_hit hN913 rfl) ⟨_, rfl, ?_⟩
              -- path 20F 23T 26T 32T 41T
              exact ⟨hb, rfl⟩
            · -- 41 False
              exact absurd (by simp only [cmpW, cmpI, cmpT]; (repeat' split) <;> omega) c41
          · -- 32 False
            exact absurd (by have := key_int ha hb2; simp only [keyV, if_true]; rw [this]; simp only [cmpI]; (repeat' split) <;> omega) c32
        · -- 26 False
          exact absurd (by simp [keyV, be8_len]) c26
      · -- 23 False
        refine reg_nil ?_
        refine hK922 _ _ ?_
        refine wp_cond_false (ev_hit hN913 rfl) ?_
        refine wp_skip ?_
        refine hK915 _ _ ?_
        refine seq_any fun K928 hK928 => ?_
        refine one_reg ?_
        refine op_move (ev_base hN913 rfl s913_5) ?_
        refine op_len_str Try.underlying9 (ev_hit hN913 rfl) ?_
        refine op_eql (ev_hit hN913 rfl) rfl (fun c26 => ?_) (fun c26 => ?_)
        · -- 26 True
          refine op_move (ev_hit hN913 rfl) ?_
          refine g_true (j := 3) (dj := 27) (b := true) rfl rfl rfl (ev_hit hN913 rfl) ?_
          refine op_move (ev_base hN913 rfl s913_5) ?_
          refine g_true (j := 3) (dj := 27) (b := true) rfl rfl rfl (ev_hit hN913 rfl) ?_
          refine op_move (ev_base hN913 rfl s913_6) ?_
          refine g_true (j := 3) (dj := 27) (b := true) rfl rfl rfl (ev_hit hN913 rfl) ?_
          refine op_fn (vs := [(Value.string (bs (keyV ⟨1, a, []⟩))), (Value.string (bs (keyV ⟨1, b, []⟩)))]) ok42 ⟨(ev_hit hN913 rfl), ⟨(ev_hit hN913 rfl), trivial⟩⟩ (CompareText_ret (keyV ⟨1, a, []⟩) (keyV ⟨1, b, []⟩) _ (by first | assumption | omega | (simp only [List.length_append, List.length_cons, List.length_nil, List.length_drop, List.length_take]; omega) | (dsimp only; omega) | decide | (simp [keyV, be8_len]; done)) (by first | assumption | omega | (simp only [List.length_append, List.length_cons, List.length_nil, List.length_drop, List.length_take]; omega) | (dsimp only; omega) | decide | (simp [keyV, be8_len]; done))) ?_
          rintro _ w929 ⟨E930, rfl⟩
          have E930 := grown_of_below E930
          have z_w929 := E930.size
          have hO895 := hO895.keep0 E930
          have hO900 := hO900.keep0 E930
          have hb := below_step0 hb E930 hb.size
          refine g_true (j := 3) (dj := 27) (b := true) rfl rfl rfl (ev_hit hN913 rfl) ?_
          refine op_move (ev_hit hN913 rfl) ?_
          refine g_true (j := 3) (dj := 27) (b := true) rfl rfl rfl (ev_hit hN913 rfl) ?_
          refine op_eql (ev_hit hN913 rfl) (ev_hit hN913 rfl) (fun c32 => ?_) (fun c32 => ?_)
          · -- 32 True
            refine op_pick_t (ev_hit hN913 rfl) (ev_hit hN913 rfl) ?_
            refine op_move (ev_hit hN913 rfl) ?_
            refine g_true (j := 10) (dj := 34) (b := true) rfl rfl rfl (ev_hit hN913 rfl) ?_
            refine op_move (ev_base hN913 rfl s913_0) ?_
            refine g_true (j := 10) (dj := 34) (b := true) rfl rfl rfl (ev_hit hN913 rfl) ?_
            refine op_build (pv := [(0, (Value.int .i64 1)), (1, (Value.int .i64 a))]) (v := (Value.agg #[(Value.int .i64 1), (Value.int .i64 a), (Value.string (bs []))])) ⟨rfl, rfl, ⟨rfl, (ev_hit hN913 rfl), trivial⟩⟩ (by kernel_rfl) ?_
            refine g_true (j := 10) (dj := 34) (b := true) rfl rfl rfl (ev_hit hN913 rfl) ?_
            refine op_move (ev_base hN913 rfl s913_1) ?_
            refine g_true (j := 10) (dj := 34) (b := true) rfl rfl rfl (ev_hit hN913 rfl) ?_
            refine op_build (pv := [(0, (Value.int .i64 1)), (1, (Value.int .i64 b))]) (v := (Value.agg #[(Value.int .i64 1), (Value.int .i64 b), (Value.string (bs []))])) ⟨rfl, rfl, ⟨rfl, (ev_hit hN913 rfl), trivial⟩⟩ (by kernel_rfl) ?_
            refine g_true (j := 10) (dj := 34) (b := true) rfl rfl rfl (ev_hit hN913 rfl) ?_
            refine op_fn (vs := [(Value.agg #[(Value.int .i64 1), (Value.int .i64 a), (Value.string (bs []))]), (Value.agg #[(Value.int .i64 1), (Value.int .i64 b), (Value.string (bs []))])]) ok35 ⟨(ev_hit hN913 rfl), ⟨(ev_hit hN913 rfl), trivial⟩⟩ (Compare_ret ⟨1, a, []⟩ ⟨1, b, []⟩ _) ?_
            rintro _ w931 ⟨E932, rfl⟩
            have E932 := grown_of_below E932
            have z_w931 := E932.size
            have hO895 := hO895.keep0 E932
            have hO900 := hO900.keep0 E932
            have hb := below_step0 hb E932 hb.size
            refine g_true (j := 10) (dj := 34) (b := true) rfl rfl rfl (ev_hit hN913 rfl) ?_
            refine op_move (ev_hit hN913 rfl) ?_
            refine g_true (j := 10) (dj := 34) (b := true) rfl rfl rfl (ev_hit hN913 rfl) ?_
            refine op_eql (ev_hit hN913 rfl) (ev_hit hN913 rfl) (fun c41 => ?_) (fun c41 => ?_)
            · -- 41 True
              refine op_pick_t (ev_hit hN913 rfl) (ev_hit hN913 rfl) ?_
              refine op_assign (ev_hit hN913 rfl) ?_
              refine reg_nil ?_
              refine hK928 _ _ ?_
              refine wp_ret ?_
              refine ret1 rfl hd913 (ev_hit hN913 rfl) ⟨_, rfl, ?_⟩
              -- path 20F 23F 26T 32T 41T
              exact ⟨hb, rfl⟩
            · -- 41 False
              exact absurd (by simp only [cmpW, cmpI, cmpT]; (repeat' split) <;> omega) c41
          · -- 32 False
            exact absurd (by have := key_int ha hb2; simp only [keyV, if_true]; rw [this]; simp only [cmpI]; (repeat' split) <;> omega) c32
        · -- 26 False
          exact absurd (by simp [keyV, be8_len]) c26

end Go.Proofs.Ytkkongnmcfdioaa
