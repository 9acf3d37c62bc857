/- Walks, written by a program: what each function of the translation hands back. -/
import Derived.Test.YtcpfdfejojghbaaB2
namespace Go.Proofs.Ytcpfdfejojghbaa
open Go.Gx Go.RowKit
attribute [local irreducible] wpList wpStill Code.wp Calls

theorem InsK {n i ub : Nat} {v x0 : Value} {cs : List Value} {w : World} (hO : Own w 0 27 1 v n cs) (hU : Bx w ub 27 [x0]) (h1 : cs.all Value.oneCell' = true) (hx1 : ([x0]).all Value.oneCell' = true) (hi : i ≤ n) (hn : n ≤ 1000) (hne : v.ownBlock ≠ some ub) : Ret Try.prog 67 #[v, (Value.int .i64 ((i : Nat) : Int)), (Value.slice (some ⟨ub, 0, none⟩) 1 1)] w (fun v' w' => w.grownBy w' v.ownBlock ∧ Own w' 0 27 1 v' (n + 1) (cs.take (i * 1) ++ [x0] ++ cs.drop (i * 1)) ∧ (v'.ownBlock = v.ownBlock ∨ ∀ k, v'.ownBlock = some k → w.heap.size ≤ k)) := by
 have h0 : 0 ≤ w.heap.size := Nat.zero_le _
 have hlt := hU.lt
 have hO0 := hO.1
 have hb := grown_refl w v.ownBlock
 refine enter (N := 95) Try.func67 rfl rfl (by simp) fun a0 hN hd hA => ?_
 have s0 : a0.tmps.getD 0 undef = v := hA 0 (by simp)
 have s1 : a0.tmps.getD 1 undef = (Value.int .i64 ((i : Nat) : Int)) := hA 1 (by simp)
 have s2 : a0.tmps.getD 2 undef = (Value.slice (some ⟨ub, 0, none⟩) 1 1) := hA 2 (by simp)
 clear hA
 refine seq_any fun K773 hK773 => ?_
 refine one_reg ?_
 refine op_assign rfl ?_
 refine reg_nil ?_
 refine hK773 _ _ ?_
 refine seq_any fun K774 hK774 => ?_
 refine one_reg ?_
 refine op_move (ev_base hN rfl s0) ?_
 refine op_move (ev_base hN rfl s1) ?_
 refine op_slice_cutS (k := i) slt90 (ev_hit hN rfl) hO (ev_hit hN rfl) (by omega) hi ?_
 refine reg_nil ?_
 refine hK774 _ _ ?_
 refine seq_any fun K775 hK775 => ?_
 refine one_reg ?_
 refine op_move (ev_base hN rfl s2) ?_
 refine op_len_rd Try.underlying90 (ev_hit hN rfl) (RdC.ofBx (sz := 1) (n := 1) hU rfl (by decide)) ?_
 refine op_assign (ev_hit hN rfl) ?_
 refine reg_nil ?_
 refine hK775 _ _ ?_
 refine seq_any fun K776 hK776 => ?_
 refine seq_any fun K777 hK777 => ?_
 refine one_reg ?_
 refine op_move (ev_hit hN rfl) ?_
 refine op_bin (v := .bool false) (ev_hit hN rfl) rfl (by rw [binOp_eql]; rfl) ?_
 refine reg_nil ?_
 refine hK777 _ _ ?_
 refine wp_cond_false (ev_hit hN rfl) ?_
 refine wp_skip ?_
 refine hK776 _ _ ?_
 refine seq_any fun K778 hK778 => ?_
 refine one_reg ?_
 refine op_move (ev_base hN rfl s0) ?_
 refine op_len_rd Try.underlying90 (ev_hit hN rfl) hO.rdw ?_
 refine op_assign (ev_hit hN rfl) ?_
 refine reg_nil ?_
 refine hK778 _ _ ?_
 refine seq_any fun K779 hK779 => ?_
 refine seq_any fun K780 hK780 => ?_
 refine one_reg ?_
 refine op_move (ev_base hN rfl s1) ?_
 refine op_move (ev_hit hN rfl) ?_
 refine op_eql (ev_hit hN rfl) (ev_hit hN rfl) (fun c22 => ?_) (fun c22 => ?_)
 · -- 22T
  refine reg_nil ?_
  refine hK780 _ _ ?_
  refine wp_cond_true (ev_hit hN rfl) ?_
  refine seq_any fun K781 hK781 => ?_
  refine one_reg ?_
  refine op_move (ev_base hN rfl s0) ?_
  refine op_move (ev_base hN rfl s2) ?_
  have hP787 := hO
  refine op_append slt90 (ev_hit hN rfl) hP787 (ev_hit hN rfl) (Src.ofRd Try.underlying90 (by decide) (RdC.ofBx (sz := 1) (n := 1) hU rfl (by decide)) hx1) (by unfold maxLen; omega) (by omega) (Nat.le_trans (by assumption) hb.size) ?_
  intro v782 w783 hO785 E784 hm786
  have z_w783 := E784.size
  have hU := hU.keep E784 (fun hh => hne hh.symm)
  have hb := grow_stepX hb E784 rfl
  have hO785 : Own w783 0 27 1 v782 (n + 1) ((cs ++ [x0])) := by simpa [u8v, sv] using hO785
  have ne_ub_v782 : v782.ownBlock ≠ some ub := ne_step (w1 := w) ⟨E784, hm786⟩ (by omega) hne
  refine op_assign (ev_hit hN rfl) ?_
  refine reg_nil ?_
  refine hK781 _ _ ?_
  refine wp_ret (then_ret ( ?_))
  refine ret1 rfl hd (ev_hit hN rfl) ⟨_, rfl, ?_⟩
  -- path 22T
  exact ⟨hb, hO785.cast rfl (by rw [show i = n by omega]; exact (ins_end hO0).symm), hm786⟩
 · -- 22F
  refine reg_nil ?_
  refine hK780 _ _ ?_
  refine wp_cond_false (ev_hit hN rfl) ?_
  refine wp_skip ?_
  refine hK779 _ _ ?_
  refine seq_any fun K788 hK788 => ?_
  refine seq_any fun K789 hK789 => ?_
  refine one_reg ?_
  refine op_move (ev_hit hN rfl) ?_
  refine op_move (ev_hit hN rfl) ?_
  refine op_add (ev_hit hN rfl) (ev_hit hN rfl) (add64 (by omega)) ?_
  refine op_move (ev_base hN rfl s0) ?_
  obtain ⟨cap790, hcap791_1, hcap791_2, hcap791⟩ := hO.capOf
  have hcap791_3 : cap790 ≤ 9223372036854775807 := hcap791_2
  refine op_cap (c := cap790) Try.underlying90 (by rw [(ev_hit hN rfl)]; exact hcap791) ?_
  refine op_gtr (ev_hit hN rfl) (ev_hit hN rfl) (fun c31 => ?_) (fun c31 => ?_)
  · -- 31T
   refine reg_nil ?_
   refine hK789 _ _ ?_
   refine wp_cond_true (ev_hit hN rfl) ?_
   refine seq_any fun K792 hK792 => ?_
   refine one_reg ?_
   refine op_move (ev_base hN rfl s0) ?_
   refine op_move (ev_base hN rfl s1) ?_
   refine op_slice_hiC (m := i) slt90 (ev_hit hN rfl) hcap791 (ev_hit hN rfl) rfl (by omega) ?_
   refine op_move (ev_hit hN rfl) ?_
   refine op_move (ev_hit hN rfl) ?_
   refine op_add (ev_hit hN rfl) (ev_hit hN rfl) (add64 (by omega)) ?_
   refine op_move (ev_base hN rfl s1) ?_
   refine op_sub (r := ((n + 1 - i : Nat) : Int)) (ev_hit hN rfl) (ev_hit hN rfl) ((sub64 (by omega)).trans (by omega)) ?_
   refine op_append_zeros_grow (i := i) (m := n + 1 - i) slt90 Try.underlying3 (ev_hit hN rfl) hO hcap791 hi (ev_hit hN rfl) rfl (by omega) (by omega) (by omega) (by omega) (Nat.zero_le _) ?_
   intro v793 w794 zs795 hO796 E797 hf798
   have hO796 : Own w794 w.heap.size 27 1 v793 (n + 1) (cs.take (i * 1) ++ zs795) := (hO796.cast (by omega) rfl).rebase hf798
   have hzl : zs795.length = (n - i) * 1 + 1 * 1 := by have q1 := hO796.1; have q2 := hO.1; rw [List.length_append, List.length_take] at q1; omega
   have ne799 := fresh_ne hf798 hlt
   have dj800 : DJ v793 v := fun k hk hg => by have q1 := (hO796.lt k hk).1; have q2 := (hO.lt k hg).2; omega
   have z_w794 := E797.size
   have hO := hO.keep0 E797
   have hU := hU.keep0 E797
   have hb := grow_step0 hb E797
   refine op_assign (ev_hit hN rfl) ?_
   refine reg_nil ?_
   refine hK792 _ _ ?_
   refine seq_any fun K801 hK801 => ?_
   refine one_reg ?_
   refine op_move (ev_hit hN rfl) ?_
   refine op_move (ev_base hN rfl s1) ?_
   refine op_slice_cutS (k := i) slt90 (ev_hit hN rfl) hO796 (ev_hit hN rfl) (by omega) (by omega) ?_
   refine op_move (ev_base hN rfl s2) ?_
   have hP805 := hO796
   refine op_copy_cutS (k := i) (q := 1) slt90 (ev_hit hN rfl) hP805 (ev_hit hN rfl) (RdC.ofBx (sz := 1) (n := 1) hU rfl (by decide)) hx1 (by omega) (Nat.le_refl _) (.inl rfl) ?_
   intro w802 hO804 E803
   have z_w802 := E803.size
   have hO := hO.keepD E803 dj800.symm
   have hU := hU.keep E803 (fun hh => ne799 hh.symm)
   have hb := grow_stepO hb hP805 E803 (by omega)
   refine reg_nil ?_
   refine hK801 _ _ ?_
   refine seq_any fun K806 hK806 => ?_
   refine reg_from mixed ?_
   intro w808 E807
   have z_w808 := E807.size
   have hO := hO.keep0 E807
   have hU := hU.keep0 E807
   have hO804 := hO804.keep0 E807
   have hb := grow_step0 hb E807
   refine from_still (m := 8) 8 (hd := [_, _, _, _, _, _, _, _]) (by kernel_rfl) rfl rfl ?_
   refine st_step rfl (fun _ h9 => op_move (ev_hit hN rfl) h9) ?_
   refine st_step rfl (fun _ h9 => op_move (ev_base hN rfl s1) h9) ?_
   refine st_step rfl (fun _ h9 => op_move (ev_hit hN rfl) h9) ?_
   refine st_step rfl (fun _ h9 => op_add (ev_hit hN rfl) (ev_hit hN rfl) (add64 (by omega)) h9) ?_
   refine st_step rfl (fun _ h9 => op_slice_cutS (k := i + 1) slt90 (ev_hit hN rfl) hO804 (ev_hit hN rfl) (by omega) (by omega) h9) ?_
   refine st_step rfl (fun _ h9 => op_move (ev_base hN rfl s0) h9) ?_
   refine st_step rfl (fun _ h9 => op_move (ev_base hN rfl s1) h9) ?_
   refine st_step rfl (fun _ h9 => op_slice_cutS (k := i) slt90 (ev_hit hN rfl) hO (ev_hit hN rfl) (by omega) hi h9) ?_
   refine st_nil ?_
   refine from_seq (tl := [_]) (by decide) (by kernel_rfl) rfl ?_
   have hP812 := hO804
   refine op_copy_cutS (k := i + 1) (q := n - i) slt90 (ev_hit hN rfl) hP812 (ev_hit hN rfl) (hO.cutO hi).rdw (all_drop_take h1) (by omega) (Nat.le_refl _) (.inl rfl) ?_
   intro w809 hO811 E810
   have z_w809 := E810.size
   have hO := hO.keepD E810 dj800.symm
   have hU := hU.keep E810 (fun hh => ne799 hh.symm)
   have hb := grow_stepO hb hP812 E810 (by omega)
   refine reg_nil ?_
   refine hK806 _ _ ?_
   refine seq_any fun K813 hK813 => ?_
   refine one_reg ?_
   refine op_move (ev_hit hN rfl) ?_
   refine op_assign (ev_hit hN rfl) ?_
   refine reg_nil ?_
   refine hK813 _ _ ?_
   refine wp_ret (then_ret ( ?_))
   refine ret1 rfl hd (ev_hit hN rfl) ⟨_, rfl, ?_⟩
   -- path 22F 31T
   exact ⟨hb, (hO811.mono (Nat.zero_le _)).cast rfl (by rw [Nat.add_mul i 1 1]; exact ins_grow (by omega) hzl rfl), .inr hf798⟩
  · -- 31F
   refine reg_nil ?_
   refine hK789 _ _ ?_
   refine wp_cond_false (ev_hit hN rfl) ?_
   refine wp_skip ?_
   refine hK788 _ _ ?_
   refine seq_any fun K814 hK814 => ?_
   refine one_reg ?_
   refine op_move (ev_base hN rfl s0) ?_
   refine op_move (ev_hit hN rfl) ?_
   refine op_move (ev_hit hN rfl) ?_
   refine op_add (ev_hit hN rfl) (ev_hit hN rfl) (add64 (by omega)) ?_
   refine op_slice_hiC (m := n + 1) slt90 (ev_hit hN rfl) hcap791 (ev_hit hN rfl) (by omega) (by omega) ?_
   obtain ⟨sp815, hW816⟩ := hO.wide (m := n + 1) hcap791 (by omega) (by omega)
   refine op_assign (ev_hit hN rfl) ?_
   refine reg_nil ?_
   refine hK814 _ _ ?_
   refine seq_any fun K817 hK817 => ?_
   refine seq_any fun K818 hK818 => ?_
   refine one_reg ?_
   refine op_move (ev_base hN rfl s2) ?_
   refine op_move (ev_hit hN rfl) ?_
   refine op_move (ev_base hN rfl s1) ?_
   refine op_move (ev_hit hN rfl) ?_
   refine op_add (ev_hit hN rfl) (ev_hit hN rfl) (add64 (by omega)) ?_
   refine op_slice_cutS (k := i + 1) slt90 (ev_hit hN rfl) hW816 (ev_hit hN rfl) (by omega) (by omega) ?_
   refine op_ext2 (ev_hit hN rfl) (ev_hit hN rfl) (ovl99 hU hW816 (hiV_ne hne) (by omega)) ?_
   refine op_not (ev_hit hN rfl) ?_
   refine reg_nil ?_
   refine hK818 _ _ ?_
   refine wp_cond_true (ev_hit hN rfl) ?_
   refine seq_any fun K819 hK819 => ?_
   refine reg_from mixed ?_
   intro w821 E820
   have z_w821 := E820.size
   have hU := hU.keep0 E820
   have hW816 := hW816.keep0 E820
   have hb := grow_step0 hb E820
   refine from_still (m := 8) 8 (hd := [_, _, _, _, _, _, _, _]) (by kernel_rfl) rfl rfl ?_
   refine st_step rfl (fun _ h9 => op_move (ev_hit hN rfl) h9) ?_
   refine st_step rfl (fun _ h9 => op_move (ev_base hN rfl s1) h9) ?_
   refine st_step rfl (fun _ h9 => op_move (ev_hit hN rfl) h9) ?_
   refine st_step rfl (fun _ h9 => op_add (ev_hit hN rfl) (ev_hit hN rfl) (add64 (by omega)) h9) ?_
   refine st_step rfl (fun _ h9 => op_slice_cutS (k := i + 1) slt90 (ev_hit hN rfl) hW816 (ev_hit hN rfl) (by omega) (by omega) h9) ?_
   refine st_step rfl (fun _ h9 => op_move (ev_hit hN rfl) h9) ?_
   refine st_step rfl (fun _ h9 => op_move (ev_base hN rfl s1) h9) ?_
   refine st_step rfl (fun _ h9 => op_slice_cutS (k := i) slt90 (ev_hit hN rfl) hW816 (ev_hit hN rfl) (by omega) (by omega) h9) ?_
   refine st_nil ?_
   refine from_seq (tl := [_]) (by decide) (by kernel_rfl) rfl ?_
   have hP825 := hW816
   refine op_copy_cutS (k := i + 1) (q := n - i) slt90 (ev_hit hN rfl) hP825 (ev_hit hN rfl) (hW816.cutO (k := i) (by omega)).rdw (all_mid h1 (by have := hO0; omega)) (by omega) (by omega) (.inr (by omega)) ?_
   intro w822 hO824 E823
   have z_w822 := E823.size
   have hU := hU.keep E823 (fun hh => (hiV_ne hne) hh.symm)
   have hb := grow_stepX hb E823 (hiV_ob v (n + 1))
   refine reg_nil ?_
   refine hK819 _ _ ?_
   refine seq_any fun K826 hK826 => ?_
   refine one_reg ?_
   refine op_move (ev_hit hN rfl) ?_
   refine op_move (ev_base hN rfl s1) ?_
   refine op_slice_cutS (k := i) slt90 (ev_hit hN rfl) hO824 (ev_hit hN rfl) (by omega) (by omega) ?_
   refine op_move (ev_base hN rfl s2) ?_
   have hP830 := hO824
   refine op_copy_cutS (k := i) (q := 1) slt90 (ev_hit hN rfl) hP830 (ev_hit hN rfl) (RdC.ofBx (sz := 1) (n := 1) hU rfl (by decide)) hx1 (by omega) (by decide) (.inl rfl) ?_
   intro w827 hO829 E828
   have z_w827 := E828.size
   have hU := hU.keep E828 (fun hh => (hiV_ne hne) hh.symm)
   have hb := grow_stepX hb E828 (hiV_ob v (n + 1))
   refine reg_nil ?_
   refine hK826 _ _ ?_
   refine seq_any fun K831 hK831 => ?_
   refine one_reg ?_
   refine op_move (ev_hit hN rfl) ?_
   refine op_assign (ev_hit hN rfl) ?_
   refine reg_nil ?_
   refine hK831 _ _ ?_
   refine wp_ret (then_ret ( ?_))
   refine ret1 rfl hd (ev_hit hN rfl) ⟨_, rfl, ?_⟩
   -- path 22F 31F
   exact ⟨hb, hO829.cast rfl (by rw [Nat.add_mul i 1 1]; exact ins_room (by omega) (by have := hW816.1; omega) rfl), .inl (hiV_ob _ _)⟩

theorem InsI {n i ub : Nat} {v x0 x1 : Value} {cs : List Value} {w : World} (hO : Own w 0 51 2 v n cs) (hU : Bx w ub 51 [x0, x1]) (h1 : cs.all Value.oneCell' = true) (hx1 : ([x0, x1]).all Value.oneCell' = true) (hi : i ≤ n) (hn : n ≤ 1000) (hne : v.ownBlock ≠ some ub) : Ret Try.prog 83 #[v, (Value.int .i64 ((i : Nat) : Int)), (Value.slice (some ⟨ub, 0, none⟩) 1 1)] w (fun v' w' => w.grownBy w' v.ownBlock ∧ Own w' 0 51 2 v' (n + 1) (cs.take (i * 2) ++ [x0, x1] ++ cs.drop (i * 2)) ∧ (v'.ownBlock = v.ownBlock ∨ ∀ k, v'.ownBlock = some k → w.heap.size ≤ k)) := by
 have h0 : 0 ≤ w.heap.size := Nat.zero_le _
 have hlt := hU.lt
 have hO0 := hO.1
 have hb := grown_refl w v.ownBlock
 refine enter (N := 95) Try.func83 rfl rfl (by simp) fun a0 hN hd hA => ?_
 have s0 : a0.tmps.getD 0 undef = v := hA 0 (by simp)
 have s1 : a0.tmps.getD 1 undef = (Value.int .i64 ((i : Nat) : Int)) := hA 1 (by simp)
 have s2 : a0.tmps.getD 2 undef = (Value.slice (some ⟨ub, 0, none⟩) 1 1) := hA 2 (by simp)
 clear hA
 refine seq_any fun K832 hK832 => ?_
 refine one_reg ?_
 refine op_assign rfl ?_
 refine reg_nil ?_
 refine hK832 _ _ ?_
 refine seq_any fun K833 hK833 => ?_
 refine one_reg ?_
 refine op_move (ev_base hN rfl s0) ?_
 refine op_move (ev_base hN rfl s1) ?_
 refine op_slice_cutS (k := i) slt48 (ev_hit hN rfl) hO (ev_hit hN rfl) (by omega) hi ?_
 refine reg_nil ?_
 refine hK833 _ _ ?_
 refine seq_any fun K834 hK834 => ?_
 refine one_reg ?_
 refine op_move (ev_base hN rfl s2) ?_
 refine op_len_rd Try.underlying48 (ev_hit hN rfl) (RdC.ofBx (sz := 2) (n := 1) hU rfl (by decide)) ?_
 refine op_assign (ev_hit hN rfl) ?_
 refine reg_nil ?_
 refine hK834 _ _ ?_
 refine seq_any fun K835 hK835 => ?_
 refine seq_any fun K836 hK836 => ?_
 refine one_reg ?_
 refine op_move (ev_hit hN rfl) ?_
 refine op_bin (v := .bool false) (ev_hit hN rfl) rfl (by rw [binOp_eql]; rfl) ?_
 refine reg_nil ?_
 refine hK836 _ _ ?_
 refine wp_cond_false (ev_hit hN rfl) ?_
 refine wp_skip ?_
 refine hK835 _ _ ?_
 refine seq_any fun K837 hK837 => ?_
 refine one_reg ?_
 refine op_move (ev_base hN rfl s0) ?_
 refine op_len_rd Try.underlying48 (ev_hit hN rfl) hO.rdw ?_
 refine op_assign (ev_hit hN rfl) ?_
 refine reg_nil ?_
 refine hK837 _ _ ?_
 refine seq_any fun K838 hK838 => ?_
 refine seq_any fun K839 hK839 => ?_
 refine one_reg ?_
 refine op_move (ev_base hN rfl s1) ?_
 refine op_move (ev_hit hN rfl) ?_
 refine op_eql (ev_hit hN rfl) (ev_hit hN rfl) (fun c22 => ?_) (fun c22 => ?_)
 · -- 22T
  refine reg_nil ?_
  refine hK839 _ _ ?_
  refine wp_cond_true (ev_hit hN rfl) ?_
  refine seq_any fun K840 hK840 => ?_
  refine one_reg ?_
  refine op_move (ev_base hN rfl s0) ?_
  refine op_move (ev_base hN rfl s2) ?_
  have hP846 := hO
  refine op_append slt48 (ev_hit hN rfl) hP846 (ev_hit hN rfl) (Src.ofRd Try.underlying48 (by decide) (RdC.ofBx (sz := 2) (n := 1) hU rfl (by decide)) hx1) (by unfold maxLen; omega) (by omega) (Nat.le_trans (by assumption) hb.size) ?_
  intro v841 w842 hO844 E843 hm845
  have z_w842 := E843.size
  have hU := hU.keep E843 (fun hh => hne hh.symm)
  have hb := grow_stepX hb E843 rfl
  have hO844 : Own w842 0 51 2 v841 (n + 1) ((cs ++ [x0, x1])) := by simpa [u8v, sv] using hO844
  have ne_ub_v841 : v841.ownBlock ≠ some ub := ne_step (w1 := w) ⟨E843, hm845⟩ (by omega) hne
  refine op_assign (ev_hit hN rfl) ?_
  refine reg_nil ?_
  refine hK840 _ _ ?_
  refine wp_ret (then_ret ( ?_))
  refine ret1 rfl hd (ev_hit hN rfl) ⟨_, rfl, ?_⟩
  -- path 22T
  exact ⟨hb, hO844.cast rfl (by rw [show i = n by omega]; exact (ins_end hO0).symm), hm845⟩
 · -- 22F
  refine reg_nil ?_
  refine hK839 _ _ ?_
  refine wp_cond_false (ev_hit hN rfl) ?_
  refine wp_skip ?_
  refine hK838 _ _ ?_
  refine seq_any fun K847 hK847 => ?_
  refine seq_any fun K848 hK848 => ?_
  refine one_reg ?_
  refine op_move (ev_hit hN rfl) ?_
  refine op_move (ev_hit hN rfl) ?_
  refine op_add (ev_hit hN rfl) (ev_hit hN rfl) (add64 (by omega)) ?_
  refine op_move (ev_base hN rfl s0) ?_
  obtain ⟨cap849, hcap850_1, hcap850_2, hcap850⟩ := hO.capOf
  have hcap850_3 : cap849 ≤ 9223372036854775807 := hcap850_2
  refine op_cap (c := cap849) Try.underlying48 (by rw [(ev_hit hN rfl)]; exact hcap850) ?_
  refine op_gtr (ev_hit hN rfl) (ev_hit hN rfl) (fun c31 => ?_) (fun c31 => ?_)
  · -- 31T
   refine reg_nil ?_
   refine hK848 _ _ ?_
   refine wp_cond_true (ev_hit hN rfl) ?_
   refine seq_any fun K851 hK851 => ?_
   refine one_reg ?_
   refine op_move (ev_base hN rfl s0) ?_
   refine op_move (ev_base hN rfl s1) ?_
   refine op_slice_hiC (m := i) slt48 (ev_hit hN rfl) hcap850 (ev_hit hN rfl) rfl (by omega) ?_
   refine op_move (ev_hit hN rfl) ?_
   refine op_move (ev_hit hN rfl) ?_
   refine op_add (ev_hit hN rfl) (ev_hit hN rfl) (add64 (by omega)) ?_
   refine op_move (ev_base hN rfl s1) ?_
   refine op_sub (r := ((n + 1 - i : Nat) : Int)) (ev_hit hN rfl) (ev_hit hN rfl) ((sub64 (by omega)).trans (by omega)) ?_
   refine op_append_zeros_grow (i := i) (m := n + 1 - i) slt48 Try.underlying3 (ev_hit hN rfl) hO hcap850 hi (ev_hit hN rfl) rfl (by omega) (by omega) (by omega) (by omega) (Nat.zero_le _) ?_
   intro v852 w853 zs854 hO855 E856 hf857
   have hO855 : Own w853 w.heap.size 51 2 v852 (n + 1) (cs.take (i * 2) ++ zs854) := (hO855.cast (by omega) rfl).rebase hf857
   have hzl : zs854.length = (n - i) * 2 + 1 * 2 := by have q1 := hO855.1; have q2 := hO.1; rw [List.length_append, List.length_take] at q1; omega
   have ne858 := fresh_ne hf857 hlt
   have dj859 : DJ v852 v := fun k hk hg => by have q1 := (hO855.lt k hk).1; have q2 := (hO.lt k hg).2; omega
   have z_w853 := E856.size
   have hO := hO.keep0 E856
   have hU := hU.keep0 E856
   have hb := grow_step0 hb E856
   refine op_assign (ev_hit hN rfl) ?_
   refine reg_nil ?_
   refine hK851 _ _ ?_
   refine seq_any fun K860 hK860 => ?_
   refine one_reg ?_
   refine op_move (ev_hit hN rfl) ?_
   refine op_move (ev_base hN rfl s1) ?_
   refine op_slice_cutS (k := i) slt48 (ev_hit hN rfl) hO855 (ev_hit hN rfl) (by omega) (by omega) ?_
   refine op_move (ev_base hN rfl s2) ?_
   have hP864 := hO855
   refine op_copy_cutS (k := i) (q := 1) slt48 (ev_hit hN rfl) hP864 (ev_hit hN rfl) (RdC.ofBx (sz := 2) (n := 1) hU rfl (by decide)) hx1 (by omega) (Nat.le_refl _) (.inl rfl) ?_
   intro w861 hO863 E862
   have z_w861 := E862.size
   have hO := hO.keepD E862 dj859.symm
   have hU := hU.keep E862 (fun hh => ne858 hh.symm)
   have hb := grow_stepO hb hP864 E862 (by omega)
   refine reg_nil ?_
   refine hK860 _ _ ?_
   refine seq_any fun K865 hK865 => ?_
   refine reg_from mixed ?_
   intro w867 E866
   have z_w867 := E866.size
   have hO := hO.keep0 E866
   have hU := hU.keep0 E866
   have hO863 := hO863.keep0 E866
   have hb := grow_step0 hb E866
   refine from_still (m := 8) 8 (hd := [_, _, _, _, _, _, _, _]) (by kernel_rfl) rfl rfl ?_
   refine st_step rfl (fun _ h9 => op_move (ev_hit hN rfl) h9) ?_
   refine st_step rfl (fun _ h9 => op_move (ev_base hN rfl s1) h9) ?_
   refine st_step rfl (fun _ h9 => op_move (ev_hit hN rfl) h9) ?_
   refine st_step rfl (fun _ h9 => op_add (ev_hit hN rfl) (ev_hit hN rfl) (add64 (by omega)) h9) ?_
   refine st_step rfl (fun _ h9 => op_slice_cutS (k := i + 1) slt48 (ev_hit hN rfl) hO863 (ev_hit hN rfl) (by omega) (by omega) h9) ?_
   refine st_step rfl (fun _ h9 => op_move (ev_base hN rfl s0) h9) ?_
   refine st_step rfl (fun _ h9 => op_move (ev_base hN rfl s1) h9) ?_
   refine st_step rfl (fun _ h9 => op_slice_cutS (k := i) slt48 (ev_hit hN rfl) hO (ev_hit hN rfl) (by omega) hi h9) ?_
   refine st_nil ?_
   refine from_seq (tl := [_]) (by decide) (by kernel_rfl) rfl ?_
   have hP871 := hO863
   refine op_copy_cutS (k := i + 1) (q := n - i) slt48 (ev_hit hN rfl) hP871 (ev_hit hN rfl) (hO.cutO hi).rdw (all_drop_take h1) (by omega) (Nat.le_refl _) (.inl rfl) ?_
   intro w868 hO870 E869
   have z_w868 := E869.size
   have hO := hO.keepD E869 dj859.symm
   have hU := hU.keep E869 (fun hh => ne858 hh.symm)
   have hb := grow_stepO hb hP871 E869 (by omega)
   refine reg_nil ?_
   refine hK865 _ _ ?_
   refine seq_any fun K872 hK872 => ?_
   refine one_reg ?_
   refine op_move (ev_hit hN rfl) ?_
   refine op_assign (ev_hit hN rfl) ?_
   refine reg_nil ?_
   refine hK872 _ _ ?_
   refine wp_ret (then_ret ( ?_))
   refine ret1 rfl hd (ev_hit hN rfl) ⟨_, rfl, ?_⟩
   -- path 22F 31T
   exact ⟨hb, (hO870.mono (Nat.zero_le _)).cast rfl (by rw [Nat.add_mul i 1 2]; exact ins_grow (by omega) hzl rfl), .inr hf857⟩
  · -- 31F
   refine reg_nil ?_
   refine hK848 _ _ ?_
   refine wp_cond_false (ev_hit hN rfl) ?_
   refine wp_skip ?_
   refine hK847 _ _ ?_
   refine seq_any fun K873 hK873 => ?_
   refine one_reg ?_
   refine op_move (ev_base hN rfl s0) ?_
   refine op_move (ev_hit hN rfl) ?_
   refine op_move (ev_hit hN rfl) ?_
   refine op_add (ev_hit hN rfl) (ev_hit hN rfl) (add64 (by omega)) ?_
   refine op_slice_hiC (m := n + 1) slt48 (ev_hit hN rfl) hcap850 (ev_hit hN rfl) (by omega) (by omega) ?_
   obtain ⟨sp874, hW875⟩ := hO.wide (m := n + 1) hcap850 (by omega) (by omega)
   refine op_assign (ev_hit hN rfl) ?_
   refine reg_nil ?_
   refine hK873 _ _ ?_
   refine seq_any fun K876 hK876 => ?_
   refine seq_any fun K877 hK877 => ?_
   refine one_reg ?_
   refine op_move (ev_base hN rfl s2) ?_
   refine op_move (ev_hit hN rfl) ?_
   refine op_move (ev_base hN rfl s1) ?_
   refine op_move (ev_hit hN rfl) ?_
   refine op_add (ev_hit hN rfl) (ev_hit hN rfl) (add64 (by omega)) ?_
   refine op_slice_cutS (k := i + 1) slt48 (ev_hit hN rfl) hW875 (ev_hit hN rfl) (by omega) (by omega) ?_
   refine op_ext2 (ev_hit hN rfl) (ev_hit hN rfl) (ovl115 hU hW875 (hiV_ne hne) (by omega)) ?_
   refine op_not (ev_hit hN rfl) ?_
   refine reg_nil ?_
   refine hK877 _ _ ?_
   refine wp_cond_true (ev_hit hN rfl) ?_
   refine seq_any fun K878 hK878 => ?_
   refine reg_from mixed ?_
   intro w880 E879
   have z_w880 := E879.size
   have hU := hU.keep0 E879
   have hW875 := hW875.keep0 E879
   have hb := grow_step0 hb E879
   refine from_still (m := 8) 8 (hd := [_, _, _, _, _, _, _, _]) (by kernel_rfl) rfl rfl ?_
   refine st_step rfl (fun _ h9 => op_move (ev_hit hN rfl) h9) ?_
   refine st_step rfl (fun _ h9 => op_move (ev_base hN rfl s1) h9) ?_
   refine st_step rfl (fun _ h9 => op_move (ev_hit hN rfl) h9) ?_
   refine st_step rfl (fun _ h9 => op_add (ev_hit hN rfl) (ev_hit hN rfl) (add64 (by omega)) h9) ?_
   refine st_step rfl (fun _ h9 => op_slice_cutS (k := i + 1) slt48 (ev_hit hN rfl) hW875 (ev_hit hN rfl) (by omega) (by omega) h9) ?_
   refine st_step rfl (fun _ h9 => op_move (ev_hit hN rfl) h9) ?_
   refine st_step rfl (fun _ h9 => op_move (ev_base hN rfl s1) h9) ?_
   refine st_step rfl (fun _ h9 => op_slice_cutS (k := i) slt48 (ev_hit hN rfl) hW875 (ev_hit hN rfl) (by omega) (by omega) h9) ?_
   refine st_nil ?_
   refine from_seq (tl := [_]) (by decide) (by kernel_rfl) rfl ?_
   have hP884 := hW875
   refine op_copy_cutS (k := i + 1) (q := n - i) slt48 (ev_hit hN rfl) hP884 (ev_hit hN rfl) (hW875.cutO (k := i) (by omega)).rdw (all_mid h1 (by have := hO0; omega)) (by omega) (by omega) (.inr (by omega)) ?_
   intro w881 hO883 E882
   have z_w881 := E882.size
   have hU := hU.keep E882 (fun hh => (hiV_ne hne) hh.symm)
   have hb := grow_stepX hb E882 (hiV_ob v (n + 1))
   refine reg_nil ?_
   refine hK878 _ _ ?_
   refine seq_any fun K885 hK885 => ?_
   refine one_reg ?_
   refine op_move (ev_hit hN rfl) ?_
   refine op_move (ev_base hN rfl s1) ?_
   refine op_slice_cutS (k := i) slt48 (ev_hit hN rfl) hO883 (ev_hit hN rfl) (by omega) (by omega) ?_
   refine op_move (ev_base hN rfl s2) ?_
   have hP889 := hO883
   refine op_copy_cutS (k := i) (q := 1) slt48 (ev_hit hN rfl) hP889 (ev_hit hN rfl) (RdC.ofBx (sz := 2) (n := 1) hU rfl (by decide)) hx1 (by omega) (by decide) (.inl rfl) ?_
   intro w886 hO888 E887
   have z_w886 := E887.size
   have hU := hU.keep E887 (fun hh => (hiV_ne hne) hh.symm)
   have hb := grow_stepX hb E887 (hiV_ob v (n + 1))
   refine reg_nil ?_
   refine hK885 _ _ ?_
   refine seq_any fun K890 hK890 => ?_
   refine one_reg ?_
   refine op_move (ev_hit hN rfl) ?_
   refine op_assign (ev_hit hN rfl) ?_
   refine reg_nil ?_
   refine hK890 _ _ ?_
   refine wp_ret (then_ret ( ?_))
   refine ret1 rfl hd (ev_hit hN rfl) ⟨_, rfl, ?_⟩
   -- path 22F 31F
   exact ⟨hb, hO888.cast rfl (by rw [Nat.add_mul i 1 2]; exact ins_room (by omega) (by have := hW875.1; omega) rfl), .inl (hiV_ob _ _)⟩

theorem InsNI {n i ub : Nat} {v x0 : Value} {cs : List Value} {w : World} (hO : Own w 0 69 1 v n cs) (hU : Bx w ub 69 [x0]) (h1 : cs.all Value.oneCell' = true) (hx1 : ([x0]).all Value.oneCell' = true) (hi : i ≤ n) (hn : n ≤ 1000) (hne : v.ownBlock ≠ some ub) : Ret Try.prog 85 #[v, (Value.int .i64 ((i : Nat) : Int)), (Value.slice (some ⟨ub, 0, none⟩) 1 1)] w (fun v' w' => w.grownBy w' v.ownBlock ∧ Own w' 0 69 1 v' (n + 1) (cs.take (i * 1) ++ [x0] ++ cs.drop (i * 1)) ∧ (v'.ownBlock = v.ownBlock ∨ ∀ k, v'.ownBlock = some k → w.heap.size ≤ k)) := by
 have h0 : 0 ≤ w.heap.size := Nat.zero_le _
 have hlt := hU.lt
 have hO0 := hO.1
 have hb := grown_refl w v.ownBlock
 refine enter (N := 95) Try.func85 rfl rfl (by simp) fun a0 hN hd hA => ?_
 have s0 : a0.tmps.getD 0 undef = v := hA 0 (by simp)
 have s1 : a0.tmps.getD 1 undef = (Value.int .i64 ((i : Nat) : Int)) := hA 1 (by simp)
 have s2 : a0.tmps.getD 2 undef = (Value.slice (some ⟨ub, 0, none⟩) 1 1) := hA 2 (by simp)
 clear hA
 refine seq_any fun K891 hK891 => ?_
 refine one_reg ?_
 refine op_assign rfl ?_
 refine reg_nil ?_
 refine hK891 _ _ ?_
 refine seq_any fun K892 hK892 => ?_
 refine one_reg ?_
 refine op_move (ev_base hN rfl s0) ?_
 refine op_move (ev_base hN rfl s1) ?_
 refine op_slice_cutS (k := i) slt113 (ev_hit hN rfl) hO (ev_hit hN rfl) (by omega) hi ?_
 refine reg_nil ?_
 refine hK892 _ _ ?_
 refine seq_any fun K893 hK893 => ?_
 refine one_reg ?_
 refine op_move (ev_base hN rfl s2) ?_
 refine op_len_rd Try.underlying113 (ev_hit hN rfl) (RdC.ofBx (sz := 1) (n := 1) hU rfl (by decide)) ?_
 refine op_assign (ev_hit hN rfl) ?_
 refine reg_nil ?_
 refine hK893 _ _ ?_
 refine seq_any fun K894 hK894 => ?_
 refine seq_any fun K895 hK895 => ?_
 refine one_reg ?_
 refine op_move (ev_hit hN rfl) ?_
 refine op_bin (v := .bool false) (ev_hit hN rfl) rfl (by rw [binOp_eql]; rfl) ?_
 refine reg_nil ?_
 refine hK895 _ _ ?_
 refine wp_cond_false (ev_hit hN rfl) ?_
 refine wp_skip ?_
 refine hK894 _ _ ?_
 refine seq_any fun K896 hK896 => ?_
 refine one_reg ?_
 refine op_move (ev_base hN rfl s0) ?_
 refine op_len_rd Try.underlying113 (ev_hit hN rfl) hO.rdw ?_
 refine op_assign (ev_hit hN rfl) ?_
 refine reg_nil ?_
 refine hK896 _ _ ?_
 refine seq_any fun K897 hK897 => ?_
 refine seq_any fun K898 hK898 => ?_
 refine one_reg ?_
 refine op_move (ev_base hN rfl s1) ?_
 refine op_move (ev_hit hN rfl) ?_
 refine op_eql (ev_hit hN rfl) (ev_hit hN rfl) (fun c22 => ?_) (fun c22 => ?_)
 · -- 22T
  refine reg_nil ?_
  refine hK898 _ _ ?_
  refine wp_cond_true (ev_hit hN rfl) ?_
  refine seq_any fun K899 hK899 => ?_
  refine one_reg ?_
  refine op_move (ev_base hN rfl s0) ?_
  refine op_move (ev_base hN rfl s2) ?_
  have hP905 := hO
  refine op_append slt113 (ev_hit hN rfl) hP905 (ev_hit hN rfl) (Src.ofRd Try.underlying113 (by decide) (RdC.ofBx (sz := 1) (n := 1) hU rfl (by decide)) hx1) (by unfold maxLen; omega) (by omega) (Nat.le_trans (by assumption) hb.size) ?_
  intro v900 w901 hO903 E902 hm904
  have z_w901 := E902.size
  have hU := hU.keep E902 (fun hh => hne hh.symm)
  have hb := grow_stepX hb E902 rfl
  have hO903 : Own w901 0 69 1 v900 (n + 1) ((cs ++ [x0])) := by simpa [u8v, sv] using hO903
  have ne_ub_v900 : v900.ownBlock ≠ some ub := ne_step (w1 := w) ⟨E902, hm904⟩ (by omega) hne
  refine op_assign (ev_hit hN rfl) ?_
  refine reg_nil ?_
  refine hK899 _ _ ?_
  refine wp_ret (then_ret ( ?_))
  refine ret1 rfl hd (ev_hit hN rfl) ⟨_, rfl, ?_⟩
  -- path 22T
  exact ⟨hb, hO903.cast rfl (by rw [show i = n by omega]; exact (ins_end hO0).symm), hm904⟩
 · -- 22F
  refine reg_nil ?_
  refine hK898 _ _ ?_
  refine wp_cond_false (ev_hit hN rfl) ?_
  refine wp_skip ?_
  refine hK897 _ _ ?_
  refine seq_any fun K906 hK906 => ?_
  refine seq_any fun K907 hK907 => ?_
  refine one_reg ?_
  refine op_move (ev_hit hN rfl) ?_
  refine op_move (ev_hit hN rfl) ?_
  refine op_add (ev_hit hN rfl) (ev_hit hN rfl) (add64 (by omega)) ?_
  refine op_move (ev_base hN rfl s0) ?_
  obtain ⟨cap908, hcap909_1, hcap909_2, hcap909⟩ := hO.capOf
  have hcap909_3 : cap908 ≤ 9223372036854775807 := hcap909_2
  refine op_cap (c := cap908) Try.underlying113 (by rw [(ev_hit hN rfl)]; exact hcap909) ?_
  refine op_gtr (ev_hit hN rfl) (ev_hit hN rfl) (fun c31 => ?_) (fun c31 => ?_)
  · -- 31T
   refine reg_nil ?_
   refine hK907 _ _ ?_
   refine wp_cond_true (ev_hit hN rfl) ?_
   refine seq_any fun K910 hK910 => ?_
   refine one_reg ?_
   refine op_move (ev_base hN rfl s0) ?_
   refine op_move (ev_base hN rfl s1) ?_
   refine op_slice_hiC (m := i) slt113 (ev_hit hN rfl) hcap909 (ev_hit hN rfl) rfl (by omega) ?_
   refine op_move (ev_hit hN rfl) ?_
   refine op_move (ev_hit hN rfl) ?_
   refine op_add (ev_hit hN rfl) (ev_hit hN rfl) (add64 (by omega)) ?_
   refine op_move (ev_base hN rfl s1) ?_
   refine op_sub (r := ((n + 1 - i : Nat) : Int)) (ev_hit hN rfl) (ev_hit hN rfl) ((sub64 (by omega)).trans (by omega)) ?_
   refine op_append_zeros_grow (i := i) (m := n + 1 - i) slt113 Try.underlying3 (ev_hit hN rfl) hO hcap909 hi (ev_hit hN rfl) rfl (by omega) (by omega) (by omega) (by omega) (Nat.zero_le _) ?_
   intro v911 w912 zs913 hO914 E915 hf916
   have hO914 : Own w912 w.heap.size 69 1 v911 (n + 1) (cs.take (i * 1) ++ zs913) := (hO914.cast (by omega) rfl).rebase hf916
   have hzl : zs913.length = (n - i) * 1 + 1 * 1 := by have q1 := hO914.1; have q2 := hO.1; rw [List.length_append, List.length_take] at q1; omega
   have ne917 := fresh_ne hf916 hlt
   have dj918 : DJ v911 v := fun k hk hg => by have q1 := (hO914.lt k hk).1; have q2 := (hO.lt k hg).2; omega
   have z_w912 := E915.size
   have hO := hO.keep0 E915
   have hU := hU.keep0 E915
   have hb := grow_step0 hb E915
   refine op_assign (ev_hit hN rfl) ?_
   refine reg_nil ?_
   refine hK910 _ _ ?_
   refine seq_any fun K919 hK919 => ?_
   refine one_reg ?_
   refine op_move (ev_hit hN rfl) ?_
   refine op_move (ev_base hN rfl s1) ?_
   refine op_slice_cutS (k := i) slt113 (ev_hit hN rfl) hO914 (ev_hit hN rfl) (by omega) (by omega) ?_
   refine op_move (ev_base hN rfl s2) ?_
   have hP923 := hO914
   refine op_copy_cutS (k := i) (q := 1) slt113 (ev_hit hN rfl) hP923 (ev_hit hN rfl) (RdC.ofBx (sz := 1) (n := 1) hU rfl (by decide)) hx1 (by omega) (Nat.le_refl _) (.inl rfl) ?_
   intro w920 hO922 E921
   have z_w920 := E921.size
   have hO := hO.keepD E921 dj918.symm
   have hU := hU.keep E921 (fun hh => ne917 hh.symm)
   have hb := grow_stepO hb hP923 E921 (by omega)
   refine reg_nil ?_
   refine hK919 _ _ ?_
   refine seq_any fun K924 hK924 => ?_
   refine reg_from mixed ?_
   intro w926 E925
   have z_w926 := E925.size
   have hO := hO.keep0 E925
   have hU := hU.keep0 E925
   have hO922 := hO922.keep0 E925
   have hb := grow_step0 hb E925
   refine from_still (m := 8) 8 (hd := [_, _, _, _, _, _, _, _]) (by kernel_rfl) rfl rfl ?_
   refine st_step rfl (fun _ h9 => op_move (ev_hit hN rfl) h9) ?_
   refine st_step rfl (fun _ h9 => op_move (ev_base hN rfl s1) h9) ?_
   refine st_step rfl (fun _ h9 => op_move (ev_hit hN rfl) h9) ?_
   refine st_step rfl (fun _ h9 => op_add (ev_hit hN rfl) (ev_hit hN rfl) (add64 (by omega)) h9) ?_
   refine st_step rfl (fun _ h9 => op_slice_cutS (k := i + 1) slt113 (ev_hit hN rfl) hO922 (ev_hit hN rfl) (by omega) (by omega) h9) ?_
   refine st_step rfl (fun _ h9 => op_move (ev_base hN rfl s0) h9) ?_
   refine st_step rfl (fun _ h9 => op_move (ev_base hN rfl s1) h9) ?_
   refine st_step rfl (fun _ h9 => op_slice_cutS (k := i) slt113 (ev_hit hN rfl) hO (ev_hit hN rfl) (by omega) hi h9) ?_
   refine st_nil ?_
   refine from_seq (tl := [_]) (by decide) (by kernel_rfl) rfl ?_
   have hP930 := hO922
   refine op_copy_cutS (k := i + 1) (q := n - i) slt113 (ev_hit hN rfl) hP930 (ev_hit hN rfl) (hO.cutO hi).rdw (all_drop_take h1) (by omega) (Nat.le_refl _) (.inl rfl) ?_
   intro w927 hO929 E928
   have z_w927 := E928.size
   have hO := hO.keepD E928 dj918.symm
   have hU := hU.keep E928 (fun hh => ne917 hh.symm)
   have hb := grow_stepO hb hP930 E928 (by omega)
   refine reg_nil ?_
   refine hK924 _ _ ?_
   refine seq_any fun K931 hK931 => ?_
   refine one_reg ?_
   refine op_move (ev_hit hN rfl) ?_
   refine op_assign (ev_hit hN rfl) ?_
   refine reg_nil ?_
   refine hK931 _ _ ?_
   refine wp_ret (then_ret ( ?_))
   refine ret1 rfl hd (ev_hit hN rfl) ⟨_, rfl, ?_⟩
   -- path 22F 31T
   exact ⟨hb, (hO929.mono (Nat.zero_le _)).cast rfl (by rw [Nat.add_mul i 1 1]; exact ins_grow (by omega) hzl rfl), .inr hf916⟩
  · -- 31F
   refine reg_nil ?_
   refine hK907 _ _ ?_
   refine wp_cond_false (ev_hit hN rfl) ?_
   refine wp_skip ?_
   refine hK906 _ _ ?_
   refine seq_any fun K932 hK932 => ?_
   refine one_reg ?_
   refine op_move (ev_base hN rfl s0) ?_
   refine op_move (ev_hit hN rfl) ?_
   refine op_move (ev_hit hN rfl) ?_
   refine op_add (ev_hit hN rfl) (ev_hit hN rfl) (add64 (by omega)) ?_
   refine op_slice_hiC (m := n + 1) slt113 (ev_hit hN rfl) hcap909 (ev_hit hN rfl) (by omega) (by omega) ?_
   obtain ⟨sp933, hW934⟩ := hO.wide (m := n + 1) hcap909 (by omega) (by omega)
   refine op_assign (ev_hit hN rfl) ?_
   refine reg_nil ?_
   refine hK932 _ _ ?_
   refine seq_any fun K935 hK935 => ?_
   refine seq_any fun K936 hK936 => ?_
   refine one_reg ?_
   refine op_move (ev_base hN rfl s2) ?_
   refine op_move (ev_hit hN rfl) ?_
   refine op_move (ev_base hN rfl s1) ?_
   refine op_move (ev_hit hN rfl) ?_
   refine op_add (ev_hit hN rfl) (ev_hit hN rfl) (add64 (by omega)) ?_
   refine op_slice_cutS (k := i + 1) slt113 (ev_hit hN rfl) hW934 (ev_hit hN rfl) (by omega) (by omega) ?_
   refine op_ext2 (ev_hit hN rfl) (ev_hit hN rfl) (ovl117 hU hW934 (hiV_ne hne) (by omega)) ?_
   refine op_not (ev_hit hN rfl) ?_
   refine reg_nil ?_
   refine hK936 _ _ ?_
   refine wp_cond_true (ev_hit hN rfl) ?_
   refine seq_any fun K937 hK937 => ?_
   refine reg_from mixed ?_
   intro w939 E938
   have z_w939 := E938.size
   have hU := hU.keep0 E938
   have hW934 := hW934.keep0 E938
   have hb := grow_step0 hb E938
   refine from_still (m := 8) 8 (hd := [_, _, _, _, _, _, _, _]) (by kernel_rfl) rfl rfl ?_
   refine st_step rfl (fun _ h9 => op_move (ev_hit hN rfl) h9) ?_
   refine st_step rfl (fun _ h9 => op_move (ev_base hN rfl s1) h9) ?_
   refine st_step rfl (fun _ h9 => op_move (ev_hit hN rfl) h9) ?_
   refine st_step rfl (fun _ h9 => op_add (ev_hit hN rfl) (ev_hit hN rfl) (add64 (by omega)) h9) ?_
   refine st_step rfl (fun _ h9 => op_slice_cutS (k := i + 1) slt113 (ev_hit hN rfl) hW934 (ev_hit hN rfl) (by omega) (by omega) h9) ?_
   refine st_step rfl (fun _ h9 => op_move (ev_hit hN rfl) h9) ?_
   refine st_step rfl (fun _ h9 => op_move (ev_base hN rfl s1) h9) ?_
   refine st_step rfl (fun _ h9 => op_slice_cutS (k := i) slt113 (ev_hit hN rfl) hW934 (ev_hit hN rfl) (by omega) (by omega) h9) ?_
   refine st_nil ?_
   refine from_seq (tl := [_]) (by decide) (by kernel_rfl) rfl ?_
   have hP943 := hW934
   refine op_copy_cutS (k := i + 1) (q := n - i) slt113 (ev_hit hN rfl) hP943 (ev_hit hN rfl) (hW934.cutO (k := i) (by omega)).rdw (all_mid h1 (by have := hO0; omega)) (by omega) (by omega) (.inr (by omega)) ?_
   intro w940 hO942 E941
   have z_w940 := E941.size
   have hU := hU.keep E941 (fun hh => (hiV_ne hne) hh.symm)
   have hb := grow_stepX hb E941 (hiV_ob v (n + 1))
   refine reg_nil ?_
   refine hK937 _ _ ?_
   refine seq_any fun K944 hK944 => ?_
   refine one_reg ?_
   refine op_move (ev_hit hN rfl) ?_
   refine op_move (ev_base hN rfl s1) ?_
   refine op_slice_cutS (k := i) slt113 (ev_hit hN rfl) hO942 (ev_hit hN rfl) (by omega) (by omega) ?_
   refine op_move (ev_base hN rfl s2) ?_
   have hP948 := hO942
   refine op_copy_cutS (k := i) (q := 1) slt113 (ev_hit hN rfl) hP948 (ev_hit hN rfl) (RdC.ofBx (sz := 1) (n := 1) hU rfl (by decide)) hx1 (by omega) (by decide) (.inl rfl) ?_
   intro w945 hO947 E946
   have z_w945 := E946.size
   have hU := hU.keep E946 (fun hh => (hiV_ne hne) hh.symm)
   have hb := grow_stepX hb E946 (hiV_ob v (n + 1))
   refine reg_nil ?_
   refine hK944 _ _ ?_
   refine seq_any fun K949 hK949 => ?_
   refine one_reg ?_
   refine op_move (ev_hit hN rfl) ?_
   refine op_assign (ev_hit hN rfl) ?_
   refine reg_nil ?_
   refine hK949 _ _ ?_
   refine wp_ret (then_ret ( ?_))
   refine ret1 rfl hd (ev_hit hN rfl) ⟨_, rfl, ?_⟩
   -- path 22F 31F
   exact ⟨hb, hO947.cast rfl (by rw [Nat.add_mul i 1 1]; exact ins_room (by omega) (by have := hW934.1; omega) rfl), .inl (hiV_ob _ _)⟩

end Go.Proofs.Ytcpfdfejojghbaa

/- Walks, written by a program: what each function of the translation hands back. -/
namespace Go.Proofs.Ytcpfdfejojghbaa
open Go.Gx Go.RowKit
attribute [local irreducible] wpList wpStill Code.wp Calls

end Go.Proofs.Ytcpfdfejojghbaa

/- Walks, written by a program: what each function of the translation hands back. -/
namespace Go.Proofs.Ytcpfdfejojghbaa
open Go.Gx Go.RowKit
attribute [local irreducible] wpList wpStill Code.wp Calls

end Go.Proofs.Ytcpfdfejojghbaa

/- What nodes are made of anew: what is handed back by the functions that change trees. -/
namespace Go.Gx
open Go.Bt Go.RowKit
section
variable {V : Type} {κ : Kd V} {w w' : World} {F G H W W' W2 R : Nat → Prop} {base e sz n b t h p q i : Nat} {u m pv kv cv : Value} {cs : List Value} {D : List (DP V)} {K : List DK} {P : List Nat} {k : Ky} {x : V}
/-- What a node became, and what went behind it. -/
def OutR (κ : Kd V) (R : Nat → Prop) (w : World) (n : Nat) (W : Nat → Prop) (h p : Nat) (x : Tr V h × Option (Ky × Tr V h)) (u m : Value) : Prop :=
  match x with
  | (t, none) => u = nilV ∧ m = .pointer none ∧ ∃ W', TreeR κ R w h p t W' ∧ NewF n W W'
  | (t, some (k, t2)) => ∃ q W' W2, m = ptr q 0 ∧ Own w 0 5 1 u k.length (k.map u8v) ∧ (∀ j, Bl u j → R j) ∧ TreeR κ R w h p t W' ∧ TreeR κ R w h q t2 W2 ∧ NewF n W W' ∧ NewF n W W2 ∧ Dj W' W2
def leafW (p : Nat) (pv : Value) : Nat → Prop := fun y => y = p ∨ Bl pv y
theorem leafW_ty (B : Bx w p κ.tB [pv, nilV, nilV]) (O : Own w base κ.tP κ.pc pv n cs) : TyF κ w (leafW p pv) := (TyF.ofBx B (.inl rfl)).or (TyF.ofOwn O (.inr (.inl rfl)))
theorem mkLeaf {l : List (Ky × V)} (B : Bx w p κ.tB [pv, nilV, nilV]) (O : Own w base κ.tP κ.pc pv D.length (D.flatMap κ.ce)) (ks : ∀ x9 ∈ D.map pk, Own w 0 5 1 x9.1 x9.2.length (x9.2.map u8v)) (kr : ∀ x9 ∈ D.map pk, ∀ k, Bl x9.1 k → R k) (e : D.map Prod.snd = l) : TreeR κ R w 0 p (l : Tr V 0) (leafW p pv) :=
  ⟨pv, D, ⟨B, O.mono (Nat.zero_le _), ks, kr, .inl rfl, fun _ h => .inr h, leafW_ty B O⟩, e⟩
theorem leafW_fresh (hp : n ≤ p) (O : Own w n e sz pv b cs) : ∀ j, leafW p pv j → n ≤ j := fun j hj => hj.elim (fun e => e ▸ hp) (fun q => (O.lt j q).1)
/-- An old footprint and a new one are apart. -/
theorem new_dj (hW : ∀ j, W j → j < n) (h2 : ∀ j, W2 j → n ≤ j) : Dj W W2 := fun j h1 q => by have := hW j h1; have := h2 j q; omega
theorem inF_step {F : Nat → Prop} {v v2 : Value} {n n2 : Nat} (hm : v2.ownBlock = v.ownBlock ∨ ∀ k, v2.ownBlock = some k → n2 ≤ k) (hn : n ≤ n2) (h : ∀ k, k < n → Bl v k → F k) : ∀ k, k < n → Bl v2 k → F k := fun k hk hb => by
  rcases hm with hm | hm
  · exact h k hk (hm.symm.trans hb)
  · have := hm k hb; omega
theorem newF_in (h : ∀ k, k < n → W' k → W k) : NewF n W W' := fun k hk => by
  by_cases q : k < n
  · exact .inl (h k q hk)
  · exact .inr (by omega)
theorem leafW_in (hp : p < n → W p) (hv : ∀ k, k < n → Bl pv k → W k) : ∀ k, k < n → leafW p pv k → W k := fun k hk hj => hj.elim (fun e => by subst e; exact hp hk) (hv k hk)
/-! leaves that change -/
theorem set_map9 {i : Nat} {d : DP V} : (D.set i d).map Prod.snd = (D.map Prod.snd).set i d.2 := List.map_set ..
theorem put_found {x : V} (hc : (kys D).contains k = true) [Inhabited V] : putT 0 k x ((D.map Prod.snd : List (Ky × V)) : Tr V 0) = (true, ((D.set (pos (kys D) k) ((D.getD (pos (kys D) k) default).1, (D.getD (pos (kys D) k) default).2.1, x)).map Prod.snd : List (Ky × V)), none) := by
  rw [put0]
  have hh : hasK (D.map Prod.snd) k = true := hc
  rw [if_pos hh, set_map9]
  have hx : k ∈ kys D := List.contains_iff_mem.1 hc
  have hl : pos (kys D) k < D.length ∨ ¬ pos (kys D) k < D.length := Nat.lt_or_ge _ _ |>.imp id (Nat.not_lt_of_le)
  show (true, ((D.map Prod.snd).set (pos (kys D) k) (((D.map Prod.snd).getD (pos (kys D) k) (k, x)).1, x) : List (Ky × V)), (none : Option (Ky × Tr V 0))) = _
  rcases hl with hl | hl
  · have e : (D.map Prod.snd).getD (pos (kys D) k) (k, x) = (D.getD (pos (kys D) k) default).2 := by simp [List.getD_eq_getElem?_getD, hl]
    rw [e]
  · rw [List.set_eq_of_length_le (by simp; omega), List.set_eq_of_length_le (by simp; omega)]
theorem put_miss {x : V} {kv : Value} (hc : (kys D).contains k = false) (hi : pos (kys D) k ≤ D.length) : putT 0 k x ((D.map Prod.snd : List (Ky × V)) : Tr V 0) = (false, halves 0 (((D.insertIdx (pos (kys D) k) (kv, k, x)).map Prod.snd : List (Ky × V)) : Tr V 0)) := by
  rw [put0]
  have hh : ¬ hasK (D.map Prod.snd) k = true := by show ¬ (kys D).contains k = true; rw [hc]; decide
  rw [if_neg hh, ← map_ins9 (f := Prod.snd) hi]
  rfl
theorem pos_ltP (hs : Sorted (kys D)) (hc : (kys D).contains k = true) : pos (kys D) k < D.length := by
  obtain ⟨h, _⟩ := pos_hit hs (List.contains_iff_mem.1 hc)
  rwa [kys_len] at h
theorem halves_small {l : List (Ky × V)} (h6 : l.length ≤ 6) : halves 0 (l : Tr V 0) = (l, none) := if_pos h6
theorem halves_big [Inhabited V] (h6 : 6 < D.length) : halves 0 ((D.map Prod.snd : List (Ky × V)) : Tr V 0) = (((D.take (D.length - 3)).map Prod.snd : List (Ky × V)), some (((D.drop (D.length - 3)).getD 0 default).2.1, ((D.drop (D.length - 3)).map Prod.snd : List (Ky × V)))) := by
  have h : ¬ (D.map Prod.snd).length ≤ 6 := by simp; omega
  show (if (D.map Prod.snd).length ≤ 6 then _ else _) = _
  rw [if_neg h]
  have e1 : (D.map Prod.snd).length = D.length := by simp
  rw [e1, List.map_take, List.map_drop]
  have e2 : hd ((D.map Prod.snd).drop (D.length - 3)) = ((D.drop (D.length - 3)).getD 0 default).2.1 := by
    have hl : D.length - 3 < D.length := by omega
    simp [hd, List.head?_drop, List.getD_eq_getElem?_getD, hl]
  rw [e2]
  rfl
/-- A leaf that is parted in two, or is not. -/
theorem out_small {l : List (Ky × V)} {X : Tr V 0 × Option (Ky × Tr V 0)} (hX : X = (l, none)) (T : TreeR κ R w 0 p (l : Tr V 0) W') (N : NewF n W W') : OutR κ R w n W 0 p X nilV (.pointer none) := by
  subst hX; exact ⟨rfl, rfl, W', T, N⟩
theorem out_big {h : Nat} {t t2 : Tr V h} {X : Tr V h × Option (Ky × Tr V h)} (hX : X = (t, some (k, t2))) (O : Own w 0 5 1 u k.length (k.map u8v)) (hr : ∀ j, Bl u j → R j) (T : TreeR κ R w h p t W') (T2 : TreeR κ R w h q t2 W2) (N : NewF n W W') (N2 : NewF n W W2) (hd : Dj W' W2) : OutR κ R w n W h p X u (ptr q 0) := by
  subst hX; exact ⟨q, W', W2, rfl, O, hr, T, T2, N, N2, hd⟩
theorem ks_ins {d : DP V} (ks : ∀ x9 ∈ D.map pk, Own w 0 5 1 x9.1 x9.2.length (x9.2.map u8v)) (hd : Own w 0 5 1 d.1 d.2.1.length (d.2.1.map u8v)) (hi : i ≤ D.length) : ∀ x9 ∈ (D.insertIdx i d).map pk, Own w 0 5 1 x9.1 x9.2.length (x9.2.map u8v) := fun x hx => by
  rw [insIdx d hi, List.map_append, List.map_cons, List.mem_append, List.mem_cons] at hx
  rcases hx with hx | rfl | hx
  · obtain ⟨y, hy, rfl⟩ := List.mem_map.1 hx; exact ks _ (List.mem_map.2 ⟨y, List.mem_of_mem_take hy, rfl⟩)
  · exact hd
  · obtain ⟨y, hy, rfl⟩ := List.mem_map.1 hx; exact ks _ (List.mem_map.2 ⟨y, List.mem_of_mem_drop hy, rfl⟩)
theorem kr_ins {d : DP V} (kr : ∀ x9 ∈ D.map pk, ∀ k, Bl x9.1 k → R k) (hd : ∀ k, Bl d.1 k → R k) (hi : i ≤ D.length) : ∀ x9 ∈ (D.insertIdx i d).map pk, ∀ k, Bl x9.1 k → R k := fun x hx => by
  rw [insIdx d hi, List.map_append, List.map_cons, List.mem_append, List.mem_cons] at hx
  rcases hx with hx | rfl | hx
  · obtain ⟨y, hy, rfl⟩ := List.mem_map.1 hx; exact kr _ (List.mem_map.2 ⟨y, List.mem_of_mem_take hy, rfl⟩)
  · exact hd
  · obtain ⟨y, hy, rfl⟩ := List.mem_map.1 hx; exact kr _ (List.mem_map.2 ⟨y, List.mem_of_mem_drop hy, rfl⟩)
theorem ks_sub {A B : List (DP V)} {Q : DK → Prop} (ks : ∀ x9 ∈ A.map pk, Q x9) (h : ∀ x ∈ B, x ∈ A) : ∀ x9 ∈ B.map pk, Q x9 := fun x hx => by
  obtain ⟨y, hy, rfl⟩ := List.mem_map.1 hx; exact ks _ (List.mem_map.2 ⟨y, h y hy, rfl⟩)
theorem ks_mem [Inhabited V] (h : i < D.length) : pk (D.getD i default) ∈ D.map pk := List.mem_map.2 ⟨_, getD_mem h, rfl⟩
theorem drop_key [Inhabited V] {j : Nat} (h : j < D.length) : pk ((D.drop j).getD 0 default) ∈ D.map pk := by
  have e : (D.drop j).getD 0 default = D.getD j default := by simp [List.getD_eq_getElem?_getD]
  rw [e]; exact ks_mem h
theorem leafW_lt (hp : p < n) (hv : ∀ j, Bl pv j → j < n) : ∀ j, leafW p pv j → j < n := fun j hj => hj.elim (fun e => e ▸ hp) (hv j)
theorem ks_set {d : DP V} {Q : DK → Prop} (ks : ∀ x9 ∈ D.map pk, Q x9) (hd : Q (pk d)) : ∀ x9 ∈ (D.set i d).map pk, Q x9 := fun x hx => by
  obtain ⟨y, hy, rfl⟩ := List.mem_map.1 hx
  rcases List.mem_or_eq_of_mem_set hy with h | h
  · exact ks _ (List.mem_map.2 ⟨y, h, rfl⟩)
  · subst h; exact hd
end
theorem set_flat9 {α : Type} {f : α → List Value} {sz j : Nat} {d x : α} {vs : List Value} : ∀ {l : List α} {i : Nat}, (∀ u, (f u).length = sz) → i < l.length → j + vs.length ≤ sz → f x = (f (l.getD i d)).take j ++ vs ++ (f (l.getD i d)).drop (j + vs.length) →
    (l.flatMap f).take (i * sz + j) ++ vs ++ (l.flatMap f).drop (i * sz + j + vs.length) = (l.set i x).flatMap f
  | [], _, _, h, _, _ => absurd h (Nat.not_lt_zero _)
  | a :: t, 0, hf, _, hj, hx => by
    have ha := hf a
    simp only [List.getD_cons_zero] at hx
    simp only [Nat.zero_mul, Nat.zero_add, List.flatMap_cons, List.set_cons_zero, hx]
    rw [List.take_append_of_le_length (by omega), List.drop_append_of_le_length (by omega)]
    simp [List.append_assoc]
  | a :: t, i + 1, hf, h, hj, hx => by
    have ha := hf a
    simp only [List.getD_cons_succ] at hx
    have ih := set_flat9 (l := t) (i := i) hf (by simpa using h) hj hx
    have e1 : (i + 1) * sz + j = (f a).length + (i * sz + j) := by rw [ha, Nat.add_mul]; omega
    simp only [List.flatMap_cons, List.set_cons_succ]
    rw [e1, List.take_length_add_append, Nat.add_assoc, List.drop_length_add_append, ← ih]
    simp [List.append_assoc]
end Go.Gx

/- Walks, written by a program: what each function of the translation hands back. -/
namespace Go.Proofs.Ytcpfdfejojghbaa
open Go.Gx Go.RowKit
attribute [local irreducible] wpList wpStill Code.wp Calls
open Go.Bt
theorem putLI {k : List UInt8} {kv : Value} {x : Int} {R W : Nat → Prop} {p : Nat} {pv : Value} {D : List (DP (Int))} {w : World} (hL : LeafR kI R w p pv D W) (hs : Sorted (kys D)) (hn : D.length ≤ 6) (hk : Own w 0 5 1 kv k.length (k.map u8v)) (hkr : ∀ j, Bl kv j → R j) : Ret Try.prog 48 #[(ptr p 0), (Value.agg #[kv, (Value.int .i64 x)])] w (fun v' w' => Gr w w' W ∧ ∃ u m, v' = .tuple #[.bool (putT 0 k x ((D.map Prod.snd : List (Ky × (Int))) : Tr (Int) 0)).1, u, m] ∧ OutR kI R w' w.heap.size W 0 p (putT 0 k x ((D.map Prod.snd : List (Ky × (Int))) : Tr (Int) 0)).2 u m) := by
 have hx : Bx w p 115 [pv, .slice none 0 0, .slice none 0 0] := hL.bx
 have op : Own w 0 51 2 pv D.length (D.flatMap cI) := hL.op
 have ks := hL.ks
 have hi_p := hx.lt
 have hb := Gr.refl w W
 refine enter (N := 92) Try.func48 rfl rfl (by simp) fun a0 hN hd hA => ?_
 have s0 : a0.tmps.getD 0 undef = (ptr p 0) := hA 0 (by simp)
 have s1 : a0.tmps.getD 1 undef = (Value.agg #[kv, (Value.int .i64 x)]) := hA 1 (by simp)
 clear hA
 refine seq_any fun K1804 hK1804 => ?_
 refine one_reg ?_
 refine op_box (cs := [kv, (Value.int .i64 x)]) (ev_base hN rfl s1) rfl ?_
 intro w1805 b1806 lo_b1806 hi_b1806 hB1808 E1807
 have ne_b1806_pv : pv.ownBlock ≠ some b1806 := fun hh => by have := (op.lt _ hh).2; omega
 have z_w1805 := E1807.size
 have hx := hx.keep0 E1807
 have op := op.keep0 E1807
 have ks : ∀ x9 ∈ (D.map pk), Own w1805 0 5 1 x9.1 x9.2.length (x9.2.map u8v) := fun x9 hx9 => (ks x9 hx9).keep0 E1807
 have hk := hk.keep0 E1807
 have hb := hb.step0 E1807
 refine op_assign rfl ?_
 refine op_assign rfl ?_
 refine op_assign rfl ?_
 refine reg_nil ?_
 refine hK1804 _ _ ?_
 refine seq_any fun K1809 hK1809 => ?_
 refine seq_any fun K1810 hK1810 => ?_
 refine one_reg ?_
 refine op_move (ev_base hN rfl s0) ?_
 refine op_fn (vs := [(ptr p 0)]) ok81 ⟨(ev_hit hN rfl), trivial⟩ (Ret.flip (leafLI hx op)) ?_
 rintro _ _ ⟨rfl, rfl⟩
 refine reg_nil ?_
 refine hK1810 _ _ ?_
 refine wp_cond_true (ev_hit hN rfl) ?_
 refine seq_any fun K1811 hK1811 => ?_
 refine one_reg ?_
 refine op_move (ev_base hN rfl s0) ?_
 refine op_field fld51_0 (ev_hit hN rfl) ?_
 refine op_load1 (v := kv) one27 (ev_hit hN rfl) (hB1808.cell rfl) ?_
 refine op_fn (vs := [(ptr p 0), kv]) ok82 ⟨(ev_hit hN rfl), ⟨(ev_hit hN rfl), trivial⟩⟩ (findI hx op ks hs (by omega) (hk.rdw.mono (Nat.zero_le _) (by omega))) ?_
 rintro _ w1812 ⟨E1813, rfl⟩
 have E1813 := grown_of_below E1813
 have z_w1812 := E1813.size
 have hx := hx.keep0 E1813
 have op := op.keep0 E1813
 have ks : ∀ x9 ∈ (D.map pk), Own w1812 0 5 1 x9.1 x9.2.length (x9.2.map u8v) := fun x9 hx9 => (ks x9 hx9).keep0 E1813
 have hk := hk.keep0 E1813
 have hB1808 := hB1808.keep0 E1813
 have hb := hb.step0 E1813
 refine op_move (ev_hit hN rfl) ?_
 refine op_extract (ev_hit hN rfl) rfl ?_
 refine op_extract (ev_hit hN rfl) rfl ?_
 refine op_assign (ev_hit hN rfl) ?_
 refine op_assign (ev_hit hN rfl) ?_
 refine reg_nil ?_
 refine hK1811 _ _ ?_
 refine seq_any fun K1814 hK1814 => ?_
 refine seq_any fun K1815 hK1815 => ?_
 refine one_reg ?_
 rcases Bool.eq_false_or_eq_true (((kys D).contains k)) with c21 | c21
 · -- 21T
  rw [c21]
  refine op_move (ev_hit hN rfl) ?_
  refine reg_nil ?_
  refine hK1815 _ _ ?_
  refine wp_cond_true (ev_hit hN rfl) ?_
  refine seq_any fun K1816 hK1816 => ?_
  refine reg_from mixed ?_
  intro w1818 E1817
  have z_w1818 := E1817.size
  have hx := hx.keep0 E1817
  have op := op.keep0 E1817
  have ks : ∀ x9 ∈ (D.map pk), Own w1818 0 5 1 x9.1 x9.2.length (x9.2.map u8v) := fun x9 hx9 => (ks x9 hx9).keep0 E1817
  have hk := hk.keep0 E1817
  have hB1808 := hB1808.keep0 E1817
  have hb := hb.step0 E1817
  refine from_still (m := 9) 9 (hd := [_, _, _, _, _, _, _, _, _]) (by kernel_rfl) rfl rfl ?_
  have hpl := pos_ltP hs c21
  refine st_step rfl (fun _ h9 => op_move (ev_base hN rfl s0) h9) ?_
  refine st_step rfl (fun _ h9 => op_nil (ev_hit hN rfl) h9) ?_
  refine st_step rfl (fun _ h9 => op_field fld115_0 (ev_hit hN rfl) h9) ?_
  refine st_step rfl (fun _ h9 => op_load1 (v := pv) one48 (ev_hit hN rfl) (hx.cell rfl) h9) ?_
  refine st_step rfl (fun _ h9 => op_move (ev_hit hN rfl) h9) ?_
  refine st_step rfl (fun _ h9 => op_field fld51_1 (ev_hit hN rfl) h9) ?_
  refine st_step rfl (fun _ h9 => op_load1 (v := (Value.int .i64 x)) one3 (ev_hit hN rfl) (hB1808.cell rfl) h9) ?_
  refine st_index_own (i := ((pos (kys D) k))) slt48 (ev_hit hN rfl) op (ev_hit hN rfl) (by omega) (by omega) ?_
  intro b1819 o1820 lo_b1819 hA1821
  refine st_step rfl (fun _ h9 => op_field fld51_1 (ev_hit hN rfl) h9) ?_
  refine st_nil ?_
  refine from_seq (tl := [_]) (by decide) (by kernel_rfl) rfl ?_
  have hP1824 := op
  refine op_store_own (vs := [(Value.int .i64 x)]) size3 (ev_hit hN rfl) (ev_hit hN rfl) rfl rfl rfl hP1824 (hA1821.fld 1) (by have := hP1824.1; simp at this ⊢; omega) ?_
  intro w1822 hO1825 E1823
  have z_w1822 := E1823.size
  have hx := hx.keepO hP1824 E1823 (by decide)
  have ks : ∀ x9 ∈ (D.map pk), Own w1822 0 5 1 x9.1 x9.2.length (x9.2.map u8v) := fun x9 hx9 => (ks x9 hx9).keepT hP1824 E1823 (by decide)
  have hk := hk.keepT hP1824 E1823 (by decide)
  have hB1808 := hB1808.keep E1823 (fun hh => ne_b1806_pv hh.symm)
  have hb := hb.stepL E1823 (fun k _ h => hL.wv k h)
  have hO1825 : Own w1822 0 51 2 pv D.length (((D.set (pos (kys D) k) ((D.getD (pos (kys D) k) default).1, (D.getD (pos (kys D) k) default).2.1, x))).flatMap cI) := by exact hO1825.cast rfl (set_flat9 (f := cI) (d := default) cI_len (by omega) (by simp) rfl)
  refine reg_nil ?_
  refine hK1816 _ _ ?_
  refine seq_any fun K1826 hK1826 => ?_
  refine one_reg ?_
  refine op_assign rfl ?_
  refine op_assign rfl ?_
  refine op_assign rfl ?_
  refine reg_nil ?_
  refine hK1826 _ _ ?_
  refine wp_ret (then_ret (then_ret ( ?_)))
  refine retN (rs := [.tmp 4, .tmp 5, .tmp 6]) (vs := [(Value.bool true), (Value.slice none 0 0), (Value.pointer none)]) rfl hd ⟨(ev_hit hN rfl), ⟨(ev_hit hN rfl), ⟨(ev_hit hN rfl), trivial⟩⟩⟩ rfl ⟨_, rfl, ?_⟩
  -- path 21T
  exact ⟨hb, _, _, by rw [put_found c21]; rfl, out_small (congrArg Prod.snd (put_found c21)) (mkLeaf (D := (D.set (pos (kys D) k) ((D.getD (pos (kys D) k) default).1, (D.getD (pos (kys D) k) default).2.1, x))) (κ := kI) hx (hO1825.cast (by simp) rfl) (ks_set ks (ks _ (ks_mem hpl))) (ks_set hL.kr (hL.kr _ (ks_mem hpl))) rfl) (newF_in (leafW_in (fun _ => hL.wp) (fun k _ h => hL.wv k h)))⟩
 · -- 21F
  rw [c21]
  refine op_move (ev_hit hN rfl) ?_
  refine reg_nil ?_
  refine hK1815 _ _ ?_
  refine wp_cond_false (ev_hit hN rfl) ?_
  refine wp_skip ?_
  refine hK1814 _ _ ?_
  have hpl := pos_leP (D := D) (x := k)
  refine reg_split (hd := [_, _, _, _, _, _, _, _, _]) (tl := _) 9 mixed (by kernel_rfl) rfl rfl ?_
  refine any_env (φ := phiV [(fun uz => uz = (ptr p 0)), (fun uz => uz = (ptr p 0)), (fun uz => uz = (ptr p 0)), (fun uz => uz = (ptr p 0)), (fun uz => uz = pv), (fun uz => uz = (Value.int .i64 (((pos (kys D) k) : Nat) : Int))), (fun uz => uz = (Value.agg #[kv, (Value.int .i64 x)])), (fun _ => True), (fun _ => True)]) (G := fun w' => Bx w' p 115 [pv, (Value.slice none 0 0), (Value.slice none 0 0)] ∧ Bx w' b1806 51 [kv, (Value.int .i64 x)]) [7, 8] (by kernel_rfl) (by kernel_rfl) (by kernel_rfl) (by kernel_rfl) hN (fun w1 w2 E h => by obtain ⟨h0, h1⟩ := h; exact ⟨h0.keep0 E, h1.keep0 E⟩) ⟨hx, hB1808⟩ (ObEs.cons ?_ (ObEs.cons ?_ (ObEs.cons ?_ (ObEs.cons ?_ (ObEs.cons ?_ (ObEs.cons ?_ (ObEs.cons ?_ (ObEs.pass rfl (ObEs.pass rfl (ObEs.nil)))))))))) (by simp only [putsL_defers]) ?_
  ·
   intro eA aA wA hNA hGA hbsA hdpA
   have qA_0 := (hbsA 0 rfl).trans (sl_base hN rfl s0)
   refine op_move (ev_base hNA rfl qA_0) ?_
   exact obE_end rfl rfl rfl
  ·
   intro eA aA wA hNA hGA hbsA hdpA
   have qA_0 := (hbsA 0 rfl).trans (sl_base hN rfl s0)
   refine op_move (ev_base hNA rfl qA_0) ?_
   exact obE_end rfl rfl rfl
  ·
   intro eA aA wA hNA hGA hbsA hdpA
   have qA_32 : Sl aA 32 (ptr p 0) := (hdpA 1 _ 32 (by kernel_rfl) rfl rfl).2 rfl
   refine op_nil (ev_base hNA rfl qA_32) ?_
   exact obE_end rfl rfl rfl
  ·
   intro eA aA wA hNA hGA hbsA hdpA
   have qA_33 : Sl aA 33 (ptr p 0) := (hdpA 2 _ 33 (by kernel_rfl) rfl rfl).2 rfl
   refine op_field fld115_0 (ev_base hNA rfl qA_33) ?_
   exact obE_end rfl rfl rfl
  ·
   intro eA aA wA hNA hGA hbsA hdpA
   have qA_34 : Sl aA 34 (ptr p 0) := (hdpA 3 _ 34 (by kernel_rfl) rfl rfl).2 rfl
   obtain ⟨hx, hB1808⟩ := hGA
   refine op_load1 (v := pv) one48 (ev_base hNA rfl qA_34) (hx.cell rfl) ?_
   exact obE_end rfl rfl rfl
  ·
   intro eA aA wA hNA hGA hbsA hdpA
   have qA_7 := (hbsA 7 rfl).trans (sl_hit hN rfl)
   refine op_move (ev_base hNA rfl qA_7) ?_
   exact obE_end rfl rfl rfl
  ·
   intro eA aA wA hNA hGA hbsA hdpA
   have qA_3 := (hbsA 3 rfl).trans (sl_hit hN rfl)
   obtain ⟨hx, hB1808⟩ := hGA
   refine op_loadA (cs := [kv, (Value.int .i64 x)]) agg51 rfl (ev_base hNA rfl qA_3) (fun j u hu => by rw [Nat.zero_add]; exact hB1808.cell hu) ?_
   exact obE_end rfl rfl rfl
  ·
   intro w1827 E1827 _ a1827 hN1827 hbs1827 hdp1827 o_ ho_; obtain rfl := Option.some.inj ho_
   have z_w1827 := E1827.size
   have hx := hx.keep0 E1827
   have op := op.keep0 E1827
   have ks : ∀ x9 ∈ (D.map pk), Own w1827 0 5 1 x9.1 x9.2.length (x9.2.map u8v) := fun x9 hx9 => (ks x9 hx9).keep0 E1827
   have hk := hk.keep0 E1827
   have hB1808 := hB1808.keep0 E1827
   have hb := hb.step0 E1827
   have q1827_37 : Sl a1827 37 (Value.agg #[kv, (Value.int .i64 x)]) := (hdp1827 6 _ 37 (by kernel_rfl) rfl rfl).2 rfl
   refine op_bslice (e := 51) (pv := [(0, (Value.agg #[kv, (Value.int .i64 x)]))]) (cs := [kv, (Value.int .i64 x)]) ⟨rfl, (ev_base hN1827 rfl q1827_37), trivial⟩ (by obtain ⟨_, _, _, rfl⟩ := hk.sl; kernel_rfl) ?_
   intro w1828 b1829 lo_b1829 hi_b1829 hB1831 E1830
   have ne_b1829_pv : pv.ownBlock ≠ some b1829 := fun hh => by have := (op.lt _ hh).2; omega
   have z_w1828 := E1830.size
   have hx := hx.keep0 E1830
   have op := op.keep0 E1830
   have ks : ∀ x9 ∈ (D.map pk), Own w1828 0 5 1 x9.1 x9.2.length (x9.2.map u8v) := fun x9 hx9 => (ks x9 hx9).keep0 E1830
   have hk := hk.keep0 E1830
   have hB1808 := hB1808.keep0 E1830
   have hb := hb.step0 E1830
   refine ke_end rfl (by decide) rfl ⟨hx, hB1808⟩ ?_
   intro w1832 E1832 _ a1832 hN1832 hbs1832 hdp1832 o_ ho_; obtain rfl := Option.some.inj ho_
   have z_w1832 := E1832.size
   have hx := hx.keep0 E1832
   have op := op.keep0 E1832
   have ks : ∀ x9 ∈ (D.map pk), Own w1832 0 5 1 x9.1 x9.2.length (x9.2.map u8v) := fun x9 hx9 => (ks x9 hx9).keep0 E1832
   have hk := hk.keep0 E1832
   have hB1808 := hB1808.keep0 E1832
   have hB1831 := hB1831.keep0 E1832
   have hb := hb.step0 E1832
   have q1832_35 : Sl a1832 35 pv := (hdp1832 4 _ 35 (by kernel_rfl) rfl rfl).2 rfl
   have q1832_36 : Sl a1832 36 (Value.int .i64 (((pos (kys D) k) : Nat) : Int)) := (hdp1832 5 _ 36 (by kernel_rfl) rfl rfl).2 rfl
   have q1832_38 : Sl a1832 38 (Value.slice (some ⟨b1829, 0, none⟩) 1 1) := (Option.some.inj ((hdp1832 7 _ 38 (by kernel_rfl) rfl rfl).1 0 rfl)).symm
   refine op_fn (vs := [pv, (Value.int .i64 (((pos (kys D) k) : Nat) : Int)), (Value.slice (some ⟨b1829, 0, none⟩) 1 1)]) ok83 ⟨(ev_base hN1832 rfl q1832_35), ⟨(ev_base hN1832 rfl q1832_36), ⟨(ev_base hN1832 rfl q1832_38), trivial⟩⟩⟩ (InsI op hB1831 (one_pI ks (fun _ h => h)) (by simp only [List.all_cons, List.all_nil, Bool.true_and, Bool.and_true, hk.one]; try rfl) (by first | omega | (simp only [List.length_insertIdx, List.length_set, List.length_drop, List.length_take]; omega) | (simp; omega)) (by first | omega | (simp only [List.length_insertIdx, List.length_set, List.length_drop, List.length_take]; omega) | (simp; omega)) ne_b1829_pv) ?_
   rintro v1833 w1834 ⟨E1835, hO1833, hm1833⟩
   have hin1836 := inF_step (n := w.heap.size) hm1833 (by omega) (fun k _ h => hL.wv k h)
   have z_w1834 := E1835.size
   have hx := hx.keepO op E1835 (by decide)
   have ks : ∀ x9 ∈ (D.map pk), Own w1834 0 5 1 x9.1 x9.2.length (x9.2.map u8v) := fun x9 hx9 => (ks x9 hx9).keepT op E1835 (by decide)
   have hk := hk.keepT op E1835 (by decide)
   have hB1808 := hB1808.keep E1835 (fun hh => ne_b1806_pv hh.symm)
   have hB1831 := hB1831.keep E1835 (fun hh => ne_b1829_pv hh.symm)
   have hb := hb.stepL E1835 (fun k _ h => hL.wv k h)
   have hO1833 : Own w1834 0 51 2 v1833 (D.insertIdx (pos (kys D) k) (kv, k, x)).length ((D.insertIdx (pos (kys D) k) (kv, k, x)).flatMap cI) := hO1833.cast (by rw [List.length_insertIdx, if_pos (by first | omega | (simp only [List.length_insertIdx, List.length_set, List.length_drop, List.length_take]; omega) | (simp; omega))]) (flat_ins cI_len (kv, k, x) (by first | omega | (simp only [List.length_insertIdx, List.length_set, List.length_drop, List.length_take]; omega) | (simp; omega)))
   refine ke_end rfl (by decide) rfl ⟨hx, hB1808⟩ ?_
   intro w1837 E1837 a1837 hN1837 hd1837 hbs1837 hph1837
   have hd1837 := hd1837.trans ((by simp only [putsL_defers] : _ = _).trans hd)
   have z_w1837 := E1837.size
   have hx := hx.keep0 E1837
   have ks : ∀ x9 ∈ (D.map pk), Own w1837 0 5 1 x9.1 x9.2.length (x9.2.map u8v) := fun x9 hx9 => (ks x9 hx9).keep0 E1837
   have hk := hk.keep0 E1837
   have hB1808 := hB1808.keep0 E1837
   have hB1831 := hB1831.keep0 E1837
   have hO1833 := hO1833.keep0 E1837
   have hb := hb.step0 E1837
   have s1837_0 := (hbs1837 0 rfl).trans (sl_base hN rfl s0)
   have s1837_4 := (hbs1837 4 rfl).trans (sl_hit hN rfl)
   have s1837_5 := (hbs1837 5 rfl).trans (sl_hit hN rfl)
   have s1837_6 := (hbs1837 6 rfl).trans (sl_hit hN rfl)
   have s1837_31 : Sl a1837 31 (ptr p 0) := (hph1837 0 _ 31 rfl rfl).2 rfl
   have s1837_39 : Sl a1837 39 v1833 := (Option.some.inj ((hph1837 8 _ 39 rfl rfl).1 1 rfl)).symm
   refine split_end ?_
   refine from_seq (tl := [_, _, _]) (by decide) (by kernel_rfl) rfl ?_
   refine op_nil (ev_base hN1837 rfl s1837_31) ?_
   refine op_field fld115_0 (ev_hit hN1837 rfl) ?_
   have hx_old := hx
   refine op_store (vs := [v1833]) (cs' := [v1833, (Value.slice none 0 0), (Value.slice none 0 0)]) size48 (ev_hit hN1837 rfl) (ev_base hN1837 rfl s1837_39) hO1833.cl rfl (by simp only [List.all_cons, List.all_nil, Bool.true_and, Bool.and_true, hO1833.one]; try rfl) hx (Nat.le_of_ble_eq_true rfl) rfl ?_
   intro w1840 hx E1841
   have z_w1840 := E1841.size
   have ks : ∀ x9 ∈ (D.map pk), Own w1840 0 5 1 x9.1 x9.2.length (x9.2.map u8v) := fun x9 hx9 => (ks x9 hx9).keepX hx_old E1841 (by decide)
   have hk := hk.keepX hx_old E1841 (by decide)
   have hB1808 := hB1808.keep E1841 (fun hh => hB1808.ne hx_old (by decide) (Option.some.inj hh))
   have hB1831 := hB1831.keep E1841 (fun hh => hB1831.ne hx_old (by decide) (Option.some.inj hh))
   have hO1833 := hO1833.keepX hx_old E1841 (by decide)
   have hb := hb.stepB E1841 hL.wp
   refine reg_nil ?_
   refine hK1809 _ _ ?_
   refine seq_any fun K1842 hK1842 => ?_
   refine one_reg ?_
   have hl1 : (D.insertIdx (pos (kys D) k) (kv, k, x)).length = D.length + 1 := by rw [List.length_insertIdx, if_pos hpl]
   have ks1843 : ∀ x9 ∈ ((D.insertIdx (pos (kys D) k) (kv, k, x)).map pk), Own w1840 0 5 1 x9.1 x9.2.length (x9.2.map u8v) := ks_ins ks hk hpl
   refine op_move (ev_base hN1837 rfl s1837_0) ?_
   rcases Bool.eq_false_or_eq_true (decide ((D.insertIdx (pos (kys D) k) (kv, k, x)).length ≤ 6)) with k86 | k86
   · -- 86T
    refine op_fn (vs := [(ptr p 0)]) ok86 ⟨(ev_hit hN1837 rfl), trivial⟩ (Ret.flip (halvesLsI hx hO1833 (of_decide_eq_true k86))) ?_
    rintro _ _ ⟨rfl, rfl⟩
    refine op_move (ev_hit hN1837 rfl) ?_
    refine op_extract (ev_hit hN1837 rfl) rfl ?_
    refine op_extract (ev_hit hN1837 rfl) rfl ?_
    refine op_assign (ev_hit hN1837 rfl) ?_
    refine op_assign (ev_hit hN1837 rfl) ?_
    refine reg_nil ?_
    refine hK1842 _ _ ?_
    refine seq_any fun K1844 hK1844 => ?_
    refine one_reg ?_
    refine op_move (ev_base hN1837 rfl s1837_4) ?_
    refine op_move (ev_hit hN1837 rfl) ?_
    refine op_move (ev_hit hN1837 rfl) ?_
    refine op_assign (ev_hit hN1837 rfl) ?_
    refine op_assign (ev_hit hN1837 rfl) ?_
    refine op_assign (ev_hit hN1837 rfl) ?_
    refine reg_nil ?_
    refine hK1844 _ _ ?_
    refine wp_ret ?_
    refine retN (rs := [.tmp 4, .tmp 5, .tmp 6]) (vs := [(Value.bool false), (Value.slice none 0 0), (Value.pointer none)]) rfl hd1837 ⟨(ev_hit hN1837 rfl), ⟨(ev_hit hN1837 rfl), ⟨(ev_hit hN1837 rfl), trivial⟩⟩⟩ rfl ⟨_, rfl, ?_⟩
    -- path 21F 86T
    exact ⟨hb, _, _, by rw [put_miss (kv := kv) c21 hpl]; rfl, out_small ((congrArg Prod.snd (put_miss (kv := kv) c21 hpl)).trans (congrArg Prod.snd (rfl : (true, halves 0 _) = (true, halves 0 _)) |>.trans (halves_small (by simpa using of_decide_eq_true k86)))) (mkLeaf (D := (D.insertIdx (pos (kys D) k) (kv, k, x))) (κ := kI) hx hO1833 ks1843 (kr_ins hL.kr hkr hpl) rfl) (newF_in (leafW_in (fun _ => hL.wp) hin1836))⟩
   · -- 86F
    refine op_fn (vs := [(ptr p 0)]) ok86 ⟨(ev_hit hN1837 rfl), trivial⟩ (halvesLbI hx hO1833 ks1843 (by have := of_decide_eq_false k86; omega) (by first | omega | (simp only [List.length_insertIdx, List.length_set, List.length_drop, List.length_take]; omega) | (simp; omega))) ?_
    rintro _ w1846 ⟨E1847, q1845, qv1845, rfl, hx1845, op1845, lo1845, hB1845, hO1845⟩
    have E1847 := E1847.grown (row := some p) (fun k _ h => by rw [h])
    have hx_old := hx
    have hlt1848 : ∀ j, leafW p (hiV v1833 ((D.insertIdx (pos (kys D) k) (kv, k, x)).length - 3)) j → j < w1840.heap.size := leafW_lt hx.lt (fun j h => (hO1833.lt j ((hiV_ob _ _).symm.trans h)).2)
    have z_w1846 := E1847.size
    have ks : ∀ x9 ∈ (D.map pk), Own w1846 0 5 1 x9.1 x9.2.length (x9.2.map u8v) := fun x9 hx9 => (ks x9 hx9).keepX hx_old E1847 (by decide)
    have hk := hk.keepX hx_old E1847 (by decide)
    have hB1808 := hB1808.keep E1847 (fun hh => hB1808.ne hx_old (by decide) (Option.some.inj hh))
    have hB1831 := hB1831.keep E1847 (fun hh => hB1831.ne hx_old (by decide) (Option.some.inj hh))
    have ks1843 : ∀ x9 ∈ ((D.insertIdx (pos (kys D) k) (kv, k, x)).map pk), Own w1846 0 5 1 x9.1 x9.2.length (x9.2.map u8v) := fun x9 hx9 => (ks1843 x9 hx9).keepX hx_old E1847 (by decide)
    have hb := hb.stepB E1847 hL.wp
    refine op_move (ev_hit hN1837 rfl) ?_
    refine op_extract (ev_hit hN1837 rfl) rfl ?_
    refine op_extract (ev_hit hN1837 rfl) rfl ?_
    refine op_assign (ev_hit hN1837 rfl) ?_
    refine op_assign (ev_hit hN1837 rfl) ?_
    refine reg_nil ?_
    refine hK1842 _ _ ?_
    refine seq_any fun K1849 hK1849 => ?_
    refine one_reg ?_
    refine op_move (ev_base hN1837 rfl s1837_4) ?_
    refine op_move (ev_hit hN1837 rfl) ?_
    refine op_move (ev_hit hN1837 rfl) ?_
    refine op_assign (ev_hit hN1837 rfl) ?_
    refine op_assign (ev_hit hN1837 rfl) ?_
    refine op_assign (ev_hit hN1837 rfl) ?_
    refine reg_nil ?_
    refine hK1849 _ _ ?_
    refine wp_ret ?_
    refine retN (rs := [.tmp 4, .tmp 5, .tmp 6]) (vs := [(Value.bool false), (((D.insertIdx (pos (kys D) k) (kv, k, x)).drop ((D.insertIdx (pos (kys D) k) (kv, k, x)).length - 3)).getD 0 default).1, (ptr q1845 0)]) rfl hd1837 ⟨(ev_hit hN1837 rfl), ⟨(ev_hit hN1837 rfl), ⟨(ev_hit hN1837 rfl), trivial⟩⟩⟩ rfl ⟨_, rfl, ?_⟩
    -- path 21F 86F
    exact ⟨hb, _, _, by rw [put_miss (kv := kv) c21 hpl]; rfl, out_big ((congrArg Prod.snd (put_miss (kv := kv) c21 hpl)).trans (halves_big (D := (D.insertIdx (pos (kys D) k) (kv, k, x))) (by have := of_decide_eq_false k86; omega))) (ks1843 _ (drop_key (by omega))) ((kr_ins hL.kr hkr hpl) _ (drop_key (by omega))) (mkLeaf (D := (D.insertIdx (pos (kys D) k) (kv, k, x)).take ((D.insertIdx (pos (kys D) k) (kv, k, x)).length - 3)) (κ := kI) hx1845 op1845 (ks_sub ks1843 (fun _ h => List.mem_of_mem_take h)) (ks_sub (kr_ins hL.kr hkr hpl) (fun _ h => List.mem_of_mem_take h)) rfl) (mkLeaf (D := (D.insertIdx (pos (kys D) k) (kv, k, x)).drop ((D.insertIdx (pos (kys D) k) (kv, k, x)).length - 3)) (κ := kI) hB1845 hO1845 (ks_sub ks1843 (fun _ h => List.mem_of_mem_drop h)) (ks_sub (kr_ins hL.kr hkr hpl) (fun _ h => List.mem_of_mem_drop h)) rfl) (newF_in (leafW_in (fun _ => hL.wp) (inF_step (n := w.heap.size) (.inl (hiV_ob _ _)) (Nat.le_refl _) hin1836))) (fun j hj => .inr (Nat.le_trans (by omega) ((leafW_fresh lo1845 hO1845) j hj))) (new_dj hlt1848 (leafW_fresh lo1845 hO1845))⟩

end Go.Proofs.Ytcpfdfejojghbaa

/- Nodes that are not leaves: made anew, and parted. -/
namespace Go.Gx
open Go.Bt Go.RowKit
section
variable {V : Type} {κ : Kd V} {w w' : World} {F G G1 G2 H W W' W2 R : Nat → Prop} {base e sz n n2 b t h p q i : Nat} {u m pv kv cv qk qc : Value} {cs : List Value} {D : List (DP V)} {K : List DK} {P : List Nat} {k y : Ky} {x : V} {ts : List (Tr V h)} {c t2 : Tr V h}
variable {α : Type} {A : Nat → α → (Nat → Prop) → Prop} {ys9 : List α} {a : α} {f : Nat → Prop}
theorem Kids.cutc (K : Kids A P ys9 G) (hc : ys9[i]? = some a) : ∃ f G0, A (P.getD i default) a f ∧ Kids A (P.eraseIdx i) (ys9.eraseIdx i) G0 ∧ Dj f G0 ∧ (∀ k, f k → G k) ∧ (∀ k, G0 k → G k) := by
  obtain ⟨hi, rfl⟩ := List.getElem?_eq_some_iff.1 hc
  exact K.cut1 hi
/-- The first n kids, and the others. -/
theorem Kids.split (K : Kids A P ys9 G) (n : Nat) : ∃ G1 G2, Kids A (P.take n) (ys9.take n) G1 ∧ Kids A (P.drop n) (ys9.drop n) G2 ∧ Dj G1 G2 ∧ (∀ k, G1 k → G k) ∧ (∀ k, G2 k → G k) := by
  obtain ⟨L, rfl, rfl, h3, h4, h5⟩ := K
  have hp := h4
  rw [← List.take_append_drop n L, List.pairwise_append] at hp
  refine ⟨fun k => ∃ x ∈ L.take n, x.2.2 k, fun k => ∃ x ∈ L.drop n, x.2.2 k, ⟨L.take n, by rw [List.map_take], by rw [List.map_take], fun x hx => h3 x (List.mem_of_mem_take hx), hp.1, fun _ => Iff.rfl⟩, ⟨L.drop n, by rw [List.map_drop], by rw [List.map_drop], fun x hx => h3 x (List.mem_of_mem_drop hx), hp.2.1, fun _ => Iff.rfl⟩, ?_, fun k ⟨x, hx, hk⟩ => (h5 k).2 ⟨x, List.mem_of_mem_take hx, hk⟩, fun k ⟨x, hx, hk⟩ => (h5 k).2 ⟨x, List.mem_of_mem_drop hx, hk⟩⟩
  rintro k ⟨x, hx, hk⟩ ⟨y, hy, hk2⟩
  exact hp.2.2 x hx y hy k hk hk2
def nodeW (p : Nat) (kv cv : Value) (G : Nat → Prop) : Nat → Prop := fun j => j = p ∨ Bl kv j ∨ Bl cv j ∨ G j
theorem nodeW_ty (B : Bx w p κ.tB [nilV, kv, cv]) (O : Own w base 27 1 kv n cs) {base2 : Nat} {cs2 : List Value} (O2 : Own w base2 κ.tN 1 cv n2 cs2) (T : TyF κ w G) : TyF κ w (nodeW p kv cv G) := (TyF.ofBx B (.inl rfl)).or ((TyF.ofOwn O (.inr (.inr (.inl rfl)))).or ((TyF.ofOwn O2 (.inr (.inr (.inr rfl)))).or T))
theorem mkNode {base2 : Nat} (B : Bx w p κ.tB [nilV, kv, cv]) (O : Own w base 27 1 kv K.length (K.flatMap cK)) (O2 : Own w base2 κ.tN 1 cv P.length (P.flatMap cN)) (ks : ∀ x9 ∈ K, Own w 0 5 1 x9.1 x9.2.length (x9.2.map u8v)) (kr : ∀ x9 ∈ K, ∀ k, Bl x9.1 k → R k) (Ks : KidsR κ R w h P ts G) (np : ¬ G p) (nk : Dj (Bl kv) G) (nc : Dj (Bl cv) G) : TreeR κ R w (h + 1) p ((K.map Prod.snd, ts) : Tr V (h + 1)) (nodeW p kv cv G) :=
  ⟨kv, cv, K, P, G, ⟨B, O.mono (Nat.zero_le _), O2.mono (Nat.zero_le _), ks, kr, .inl rfl, fun _ h => .inr (.inl h), fun _ h => .inr (.inr (.inl h)), fun _ h => .inr (.inr (.inr h)), nodeW_ty B O O2 Ks.ty, np, nk, nc⟩, Ks, rfl⟩
theorem nodeW_in (hp : p < n → W p) (hk : ∀ j, j < n → Bl kv j → W j) (hc : ∀ j, j < n → Bl cv j → W j) (hg : ∀ j, j < n → G j → W j) : ∀ j, j < n → nodeW p kv cv G j → W j := fun j hj hh => by
  rcases hh with rfl | hh | hh | hh
  · exact hp hj
  · exact hk j hj hh
  · exact hc j hj hh
  · exact hg j hj hh
theorem nodeW_lt (hp : p < n) (hk : ∀ j, Bl kv j → j < n) (hc : ∀ j, Bl cv j → j < n) (hg : ∀ j, G j → j < n) : ∀ j, nodeW p kv cv G j → j < n := fun j hh => by
  rcases hh with rfl | hh | hh | hh
  · exact hp
  · exact hk j hh
  · exact hc j hh
  · exact hg j hh
theorem in_newF (h : NewF n F W') (hs : ∀ k, F k → W k) : ∀ k, k < n → W' k → W k := fun k hk hw => (h k hw).elim (hs k) (fun q => by omega)
theorem out_node_small {X : Tr V (h + 1) × Option (Ky × Tr V (h + 1))} (hX : X = (((K.map Prod.snd, ts) : Tr V (h + 1)), none)) (B : Bx w p κ.tB [nilV, kv, cv]) (O : Own w base 27 1 kv K.length (K.flatMap cK)) {base2 : Nat} (O2 : Own w base2 κ.tN 1 cv P.length (P.flatMap cN)) (ks : ∀ x9 ∈ K, Own w 0 5 1 x9.1 x9.2.length (x9.2.map u8v)) (kr : ∀ x9 ∈ K, ∀ k, Bl x9.1 k → R k) (Ks : KidsR κ R w h P ts G) (np : ¬ G p) (nk : Dj (Bl kv) G) (nc : Dj (Bl cv) G) (N : ∀ j, j < n → nodeW p kv cv G j → W j) : OutR κ R w n W (h + 1) p X nilV (.pointer none) := by
  subst hX; exact ⟨rfl, rfl, _, mkNode B O O2 ks kr Ks np nk nc, newF_in N⟩
/-- A node is parted: the old one, and a new one whose own blocks are all new. -/
theorem out_node_big [Inhabited V] {X : Tr V (h + 1) × Option (Ky × Tr V (h + 1))} {b9 m9 : Nat} (hX : X = (((K.take m9).map Prod.snd, ts.take (m9 + 1)), some ((K.getD m9 default).2, ((K.drop (m9 + 1)).map Prod.snd, ts.drop (m9 + 1))))) (hm : m9 < K.length)
    (B : Bx w p κ.tB [nilV, kv, cv]) (O : Own w 0 27 1 kv (K.take m9).length ((K.take m9).flatMap cK)) (O2 : Own w 0 κ.tN 1 cv (P.take (m9 + 1)).length ((P.take (m9 + 1)).flatMap cN))
    (B2 : Bx w q κ.tB [nilV, qk, qc]) (O3 : Own w b9 27 1 qk (K.drop (m9 + 1)).length ((K.drop (m9 + 1)).flatMap cK)) (O4 : Own w b9 κ.tN 1 qc (P.drop (m9 + 1)).length ((P.drop (m9 + 1)).flatMap cN)) (hq : b9 ≤ q) (hn : n ≤ b9)
    (ks : ∀ x9 ∈ K, Own w 0 5 1 x9.1 x9.2.length (x9.2.map u8v)) (kr : ∀ x9 ∈ K, ∀ k, Bl x9.1 k → R k) (Ks : KidsR κ R w h P ts G) (np : ¬ G p) (nk : Dj (Bl kv) G) (nc : Dj (Bl cv) G) (N : ∀ j, j < n → nodeW p kv cv G j → W j) (hlt : ∀ j, nodeW p kv cv G j → j < b9) : OutR κ R w n W (h + 1) p X (K.getD m9 default).1 (ptr q 0) := by
  obtain ⟨G1, G2, K1, K2, hd, s1, s2⟩ := Kids.split Ks (m9 + 1)
  have hmem := getD_mem (d := default) hm
  have sub : ∀ j, nodeW p kv cv G1 j → nodeW p kv cv G j := fun j hj => by
    rcases hj with hj | hj | hj | hj
    · exact .inl hj
    · exact .inr (.inl hj)
    · exact .inr (.inr (.inl hj))
    · exact .inr (.inr (.inr (s1 j hj)))
  have g2 : ∀ j, G2 j → j < b9 := fun j hj => hlt j (.inr (.inr (.inr (s2 j hj))))
  have fr : ∀ j, nodeW q qk qc G2 j → b9 ≤ j ∨ G2 j := fun j hj => by
    rcases hj with rfl | hj | hj | hj
    · exact .inl hq
    · exact .inl (O3.lt j hj).1
    · exact .inl (O4.lt j hj).1
    · exact .inr hj
  subst hX
  refine ⟨q, _, _, rfl, ks _ hmem, kr _ hmem, mkNode B O O2 (fun x hx => ks x (List.mem_of_mem_take hx)) (fun x hx => kr x (List.mem_of_mem_take hx)) K1 (fun h => np (s1 _ h)) (nk.mono s1) (nc.mono s1), mkNode B2 O3 O4 (fun x hx => ks x (List.mem_of_mem_drop hx)) (fun x hx => kr x (List.mem_of_mem_drop hx)) K2 (fun h => by have := g2 _ h; omega) (fun j hj hg => by have := (O3.lt j hj).1; have := g2 j hg; omega) (fun j hj hg => by have := (O4.lt j hj).1; have := g2 j hg; omega), newF_in fun j hj hw => N j hj (sub j hw), fun j hj => ?_, fun j hj hg => ?_⟩
  · rcases fr j hj with hj | hj
    · exact .inr (by omega)
    · by_cases hjn : j < n
      · exact .inl (N j hjn (.inr (.inr (.inr (s2 j hj)))))
      · exact .inr (by omega)
  · rcases fr j hg with hq' | hq'
    · have := hlt j (sub j hj); omega
    · rcases hj with rfl | hj | hj | hj
      · exact np (s2 _ hq')
      · exact nk j hj (s2 j hq')
      · exact nc j hj (s2 j hq')
      · exact hd j hj hq'
theorem halves_nsmall {ks : List Ky} (h6 : ks.length ≤ 6) : halves (h + 1) ((ks, ts) : Tr V (h + 1)) = ((ks, ts), none) := if_pos h6
theorem halves_nbig (h6 : 6 < K.length) : halves (h + 1) ((K.map Prod.snd, ts) : Tr V (h + 1)) = (((K.take (K.length / 2)).map Prod.snd, ts.take (K.length / 2 + 1)), some ((K.getD (K.length / 2) default).2, ((K.drop (K.length / 2 + 1)).map Prod.snd, ts.drop (K.length / 2 + 1)))) := by
  have hh : ¬ (K.map Prod.snd).length ≤ 6 := by simp; omega
  show (if (K.map Prod.snd).length ≤ 6 then _ else _) = _
  rw [if_neg hh]
  have e1 : (K.map Prod.snd).length = K.length := by simp
  have hl : K.length / 2 < K.length := by omega
  have e2 : (K.map Prod.snd).getD (K.length / 2) [] = (K.getD (K.length / 2) default).2 := getD_map9 hl
  show ((((K.map Prod.snd).take ((K.map Prod.snd).length / 2), ts.take ((K.map Prod.snd).length / 2 + 1)) : Tr V (h + 1)), some ((K.map Prod.snd).getD ((K.map Prod.snd).length / 2) [], (((K.map Prod.snd).drop ((K.map Prod.snd).length / 2 + 1), ts.drop ((K.map Prod.snd).length / 2 + 1)) : Tr V (h + 1)))) = _
  rw [e1, e2, List.map_take, List.map_drop]
theorem put_none (hc : ts[way (K.map Prod.snd) k]? = some c) (hr : (putT h k x c).2.2 = none) : putT (h + 1) k x ((K.map Prod.snd, ts) : Tr V (h + 1)) = ((putT h k x c).1, halves (h + 1) ((K.map Prod.snd, ts.set (way (K.map Prod.snd) k) (putT h k x c).2.1) : Tr V (h + 1))) := by
  have e : ts.getD (way (K.map Prod.snd) k) default = c := by rw [List.getD_eq_getElem?_getD, hc]; rfl
  rw [puts, e, hr]; rfl
theorem put_some (hc : ts[way (K.map Prod.snd) k]? = some c) (hr : (putT h k x c).2.2 = some (y, t2)) (hi : way (K.map Prod.snd) k ≤ K.length) : putT (h + 1) k x ((K.map Prod.snd, ts) : Tr V (h + 1)) = ((putT h k x c).1, halves (h + 1) (((K.insertIdx (way (K.map Prod.snd) k) (u, y)).map Prod.snd, (ts.set (way (K.map Prod.snd) k) (putT h k x c).2.1).insertIdx (way (K.map Prod.snd) k + 1) t2) : Tr V (h + 1))) := by
  have e : ts.getD (way (K.map Prod.snd) k) default = c := by rw [List.getD_eq_getElem?_getD, hc]; rfl
  rw [puts, e, hr, ← map_ins9 (f := Prod.snd) hi]; rfl
theorem outR_none {X : Tr V h × Option (Ky × Tr V h)} (hr : X.2.isSome = false) (O : OutR κ R w n W h p X u m) : X.2 = none ∧ u = nilV ∧ m = .pointer none ∧ ∃ W', TreeR κ R w h p X.1 W' ∧ NewF n W W' := by
  obtain ⟨t, o⟩ := X
  cases o with
  | none => obtain ⟨h1, h2, h3⟩ := O; exact ⟨rfl, h1, h2, h3⟩
  | some o => cases hr
theorem outR_some {X : Tr V h × Option (Ky × Tr V h)} (hr : X.2.isSome = true) (O : OutR κ R w n W h p X u m) : ∃ y t2 q W' W2, X.2 = some (y, t2) ∧ m = ptr q 0 ∧ Own w 0 5 1 u y.length (y.map u8v) ∧ (∀ j, Bl u j → R j) ∧ TreeR κ R w h p X.1 W' ∧ TreeR κ R w h q t2 W2 ∧ NewF n W W' ∧ NewF n W W2 ∧ Dj W' W2 := by
  obtain ⟨t, o⟩ := X
  cases o with
  | none => cases hr
  | some o => obtain ⟨y, t2⟩ := o; obtain ⟨q, W', W2, h⟩ := O; exact ⟨y, t2, q, W', W2, rfl, h⟩
theorem kks_ins {d : DK} {Q : DK → Prop} (ks : ∀ x9 ∈ K, Q x9) (hd : Q d) (hi : i ≤ K.length) : ∀ x9 ∈ K.insertIdx i d, Q x9 := fun x hx => by
  rw [insIdx d hi, List.mem_append, List.mem_cons] at hx
  rcases hx with hx | rfl | hx
  · exact ks _ (List.mem_of_mem_take hx)
  · exact hd
  · exact ks _ (List.mem_of_mem_drop hx)
end
end Go.Gx

/- Small laws for walks, the thirty-third part: a region of open order with great operations that are not all in a row: each order of them is told, the light ones come at any time. -/
namespace Go.Gx
open Go.RowKit
section
variable {P : Program} {ol : List Oper} {Q : Exit → Act → World → Prop} {bigs : List Nat} {φ : Nat → Value → Prop} {G : World → Prop} {a0 : Act} {N : Nat}
/-- What is told of an operation's value: of a great one, which it is of those that were handed back; of a light one, what is told ahead. -/
def PhT (bigs : List Nat) (φ : Nat → Value → Prop) (e : List (Nat × Value)) (j : Nat) (u : Value) : Prop := (bigs.contains j = true → e.lookup j = some u) ∧ (bigs.contains j = false → φ j u)
theorem PhT.mono {e : List (Nat × Value)} {i j : Nat} {v u : Value} (hij : j ≠ i) (h : PhT bigs φ e j u) : PhT bigs φ ((i, v) :: e) j u :=
  ⟨fun hb => by rw [List.lookup_cons, beq_false_of_ne hij]; exact h.1 hb, h.2⟩
structure TInv (ol : List Oper) (bigs : List Nat) (φ : Nat → Value → Prop) (a0 : Act) (N : Nat) (listed : Array Bool) (todo : List Nat) (e : List (Nat × Value)) (a : Act) : Prop where
  size : a.tmps.size = N
  defers : a.defers = a0.defers
  base : ∀ t, (∀ j o, ol[j]? = some o → listed.getD j true = true → o.dst ≠ some t) → a.tmps.getD t undef = a0.tmps.getD t undef
  phi : ∀ j o d, ol[j]? = some o → listed.getD j true = true → o.dst = some d → PhT bigs φ e j (a.tmps.getD d undef)
  closed : ∀ j o, ol[j]? = some o → listed.getD j true = true → ∀ x ∈ o.after, Region.binds .any x = true → listed.getD x.on false = true
  lsize : listed.size = ol.length
  todos : ∀ i, i ∈ todo ↔ i ∈ bigs ∧ listed.getD i true = false
  nodup : List.Nodup todo
/-- One great operation, and what is left to show behind it. -/
def KI (P : Program) (ol : List Oper) (bigs : List Nat) (φ : Nat → Value → Prop) (G : World → Prop) (a0 : Act) (N : Nat) (e : List (Nat × Value)) (i : Nat) (w : World) (K : Value → World → Prop) : Prop :=
  ∀ w1, w.grownBy w1 none → G w1 → ∀ a, a.tmps.size = N → (∀ t, safeB ol i t = true → a.tmps.getD t undef = a0.tmps.getD t undef) → (∀ j oj d, depB ol i j = true → ol[j]? = some oj → oj.dst = some d → PhT bigs φ e j (a.tmps.getD d undef)) →
    ∀ o, ol[i]? = some o → wpList P ol.toArray (fun ex a' w' => ex = .normal ∧ ∃ v, ((o.dst = none ∧ a' = a) ∨ ∃ d, o.dst = some d ∧ a' = putsL a [(d, v)]) ∧ K v w' ∧ G w') [o] (putsL a []) w1
def readyT (ol : List Oper) (todo : List Nat) : List Nat := todo.filter fun i => todo.all fun j => !depB ol i j
/-- What is left to show, with these great ones still to come. -/
def KT (P : Program) (ol : List Oper) (bigs : List Nat) (φ : Nat → Value → Prop) (G : World → Prop) (a0 : Act) (N : Nat) (Q : Exit → Act → World → Prop) : Nat → List Nat → List (Nat × Value) → World → Prop
  | 0, _, e, w => ∀ w1, w.grownBy w1 none → ∀ a', a'.tmps.size = N → a'.defers = a0.defers → (∀ t, (ol.all fun o => o.dst != some t) = true → a'.tmps.getD t undef = a0.tmps.getD t undef) →
      (∀ j oj d, ol[j]? = some oj → oj.dst = some d → PhT bigs φ e j (a'.tmps.getD d undef)) → Q .normal (putsL a' []) w1
  | n + 1, todo, e, w => ∀ i ∈ readyT ol todo, KI P ol bigs φ G a0 N e i w fun v w' => KT P ol bigs φ G a0 N Q n (todo.erase i) ((i, v) :: e) w'
theorem KT.stable : ∀ {n : Nat} {todo : List Nat} {e : List (Nat × Value)} {w w2 : World}, KT P ol bigs φ G a0 N Q n todo e w → w.grownBy w2 none → KT P ol bigs φ G a0 N Q n todo e w2
  | 0, _, _, _, _, h, E => fun w1 E1 => h w1 (grown_trans E E1)
  | _ + 1, _, _, _, _, h, E => fun i hi w1 E1 => h i hi w1 (grown_trans E E1)
/-- What a light operation must show. -/
def ObR9 (P : Program) (ol : List Oper) (bigs : List Nat) (φ : Nat → Value → Prop) (G : World → Prop) (a0 : Act) (N : Nat) (i : Nat) (o : Oper) : Prop :=
  ∀ (e : List (Nat × Value)) (a : Act) (w : World), a.tmps.size = N → G w → (∀ t, safeB ol i t = true → a.tmps.getD t undef = a0.tmps.getD t undef) → (∀ j oj d, depB ol i j = true → ol[j]? = some oj → oj.dst = some d → PhT bigs φ e j (a.tmps.getD d undef)) →
    wpList P ol.toArray (fun ex a' w' => ex = .normal ∧ (∃ d v, o.dst = some d ∧ a' = putsL a [(d, v)] ∧ φ i v) ∧ w.grownBy w' none) [o] (putsL a []) w
def ObRs9 (P : Program) (ol : List Oper) (bigs : List Nat) (φ : Nat → Value → Prop) (G : World → Prop) (a0 : Act) (N : Nat) : Nat → List Oper → Prop
  | _, [] => True
  | i, o :: r => (bigs.contains i = false → ObR9 P ol bigs φ G a0 N i o) ∧ ObRs9 P ol bigs φ G a0 N (i + 1) r
theorem ObRs9.nil {i : Nat} : ObRs9 P ol bigs φ G a0 N i [] := trivial
theorem ObRs9.cons {i : Nat} {o : Oper} {r : List Oper} (h : ObR9 P ol bigs φ G a0 N i o) (h' : ObRs9 P ol bigs φ G a0 N (i + 1) r) : ObRs9 P ol bigs φ G a0 N i (o :: r) := ⟨fun _ => h, h'⟩
theorem ObRs9.pass {i : Nat} {o : Oper} {r : List Oper} (hh : bigs.contains i = true) (h' : ObRs9 P ol bigs φ G a0 N (i + 1) r) : ObRs9 P ol bigs φ G a0 N i (o :: r) := ⟨fun h => absurd (hh.symm.trans h) (by decide), h'⟩
theorem ObRs9.getx : ∀ {l : List Oper} {i : Nat}, ObRs9 P ol bigs φ G a0 N i l → ∀ j o, l[j]? = some o → bigs.contains (i + j) = false → ObR9 P ol bigs φ G a0 N (i + j) o
  | [], _, _, j, o, h, _ => by simp at h
  | o' :: r, i, h, 0, o, hj, hs => by simp at hj; subst hj; exact h.1 hs
  | o' :: r, i, h, j + 1, o, hj, hs => by
    have := ObRs9.getx h.2 j o (by simpa using hj) (by rwa [show i + 1 + j = i + (j + 1) by omega])
    rwa [show i + 1 + j = i + (j + 1) by omega] at this
theorem one_mem {p : Nat → Prop} {x : Nat} (h : p x) : ∀ i ∈ [x], p i := fun i hi => by
  obtain rfl : i = x := by simpa using hi
  exact h
theorem more_mem {p : Nat → Prop} {x y : Nat} {r : List Nat} (h : p x) (h' : ∀ i ∈ y :: r, p i) : ∀ i ∈ x :: y :: r, p i := List.forall_mem_cons.2 ⟨h, h'⟩
end
end Go.Gx

/- Small laws for walks, the forty-first part: as the thirty-third, where what light operations look at may end with one of the great ones. -/
namespace Go.Gx
open Go.RowKit
section
variable {P : Program} {ol : List Oper} {Q : Exit → Act → World → Prop} {bigs : List Nat} {φ : Nat → Value → Prop} {G : List Nat → World → Prop} {a0 : Act} {N : Nat}
/-- One great operation, and what is left to show behind it. -/
def KIk (P : Program) (ol : List Oper) (bigs : List Nat) (φ : Nat → Value → Prop) (G : List Nat → World → Prop) (a0 : Act) (N : Nat) (e : List (Nat × Value)) (todo : List Nat) (i : Nat) (w : World) (K : Value → World → Prop) : Prop :=
  ∀ w1, w.grownBy w1 none → G todo w1 → ∀ a, a.tmps.size = N → (∀ t, safeB ol i t = true → a.tmps.getD t undef = a0.tmps.getD t undef) → (∀ j oj d, depB ol i j = true → ol[j]? = some oj → oj.dst = some d → PhT bigs φ e j (a.tmps.getD d undef)) →
    ∀ o, ol[i]? = some o → wpList P ol.toArray (fun ex a' w' => ex = .normal ∧ ∃ v, ((o.dst = none ∧ a' = a) ∨ ∃ d, o.dst = some d ∧ a' = putsL a [(d, v)]) ∧ K v w' ∧ G (todo.erase i) w') [o] (putsL a []) w1
/-- What is left to show, with these great ones still to come. -/
def KTk (P : Program) (ol : List Oper) (bigs : List Nat) (φ : Nat → Value → Prop) (G : List Nat → World → Prop) (a0 : Act) (N : Nat) (Q : Exit → Act → World → Prop) : Nat → List Nat → List (Nat × Value) → World → Prop
  | 0, _, e, w => ∀ w1, w.grownBy w1 none → ∀ a', a'.tmps.size = N → a'.defers = a0.defers → (∀ t, (ol.all fun o => o.dst != some t) = true → a'.tmps.getD t undef = a0.tmps.getD t undef) →
      (∀ j oj d, ol[j]? = some oj → oj.dst = some d → PhT bigs φ e j (a'.tmps.getD d undef)) → Q .normal (putsL a' []) w1
  | n + 1, todo, e, w => ∀ i ∈ readyT ol todo, KIk P ol bigs φ G a0 N e todo i w fun v w' => KTk P ol bigs φ G a0 N Q n (todo.erase i) ((i, v) :: e) w'
theorem KTk.stable : ∀ {n : Nat} {todo : List Nat} {e : List (Nat × Value)} {w w2 : World}, KTk P ol bigs φ G a0 N Q n todo e w → w.grownBy w2 none → KTk P ol bigs φ G a0 N Q n todo e w2
  | 0, _, _, _, _, h, E => fun w1 E1 => h w1 (grown_trans E E1)
  | _ + 1, _, _, _, _, h, E => fun i hi w1 E1 => h i hi w1 (grown_trans E E1)
/-- What a light operation must show. -/
def ObQ9 (P : Program) (ol : List Oper) (bigs : List Nat) (φ : Nat → Value → Prop) (G : List Nat → World → Prop) (a0 : Act) (N : Nat) (i : Nat) (o : Oper) : Prop :=
  ∀ (e : List (Nat × Value)) (todo : List Nat) (a : Act) (w : World), a.tmps.size = N → (∀ j, bigs.contains j = true → depB ol j i = true → j ∈ todo) → G todo w → (∀ t, safeB ol i t = true → a.tmps.getD t undef = a0.tmps.getD t undef) → (∀ j oj d, depB ol i j = true → ol[j]? = some oj → oj.dst = some d → PhT bigs φ e j (a.tmps.getD d undef)) →
    wpList P ol.toArray (fun ex a' w' => ex = .normal ∧ (∃ d v, o.dst = some d ∧ a' = putsL a [(d, v)] ∧ φ i v) ∧ w.grownBy w' none) [o] (putsL a []) w
def ObRk9 (P : Program) (ol : List Oper) (bigs : List Nat) (φ : Nat → Value → Prop) (G : List Nat → World → Prop) (a0 : Act) (N : Nat) : Nat → List Oper → Prop
  | _, [] => True
  | i, o :: r => (bigs.contains i = false → ObQ9 P ol bigs φ G a0 N i o) ∧ ObRk9 P ol bigs φ G a0 N (i + 1) r
theorem ObRk9.nil {i : Nat} : ObRk9 P ol bigs φ G a0 N i [] := trivial
theorem ObRk9.cons {i : Nat} {o : Oper} {r : List Oper} (h : ObQ9 P ol bigs φ G a0 N i o) (h' : ObRk9 P ol bigs φ G a0 N (i + 1) r) : ObRk9 P ol bigs φ G a0 N i (o :: r) := ⟨fun _ => h, h'⟩
theorem ObRk9.pass {i : Nat} {o : Oper} {r : List Oper} (hh : bigs.contains i = true) (h' : ObRk9 P ol bigs φ G a0 N (i + 1) r) : ObRk9 P ol bigs φ G a0 N i (o :: r) := ⟨fun h => absurd (hh.symm.trans h) (by decide), h'⟩
theorem ObRk9.getx : ∀ {l : List Oper} {i : Nat}, ObRk9 P ol bigs φ G a0 N i l → ∀ j o, l[j]? = some o → bigs.contains (i + j) = false → ObQ9 P ol bigs φ G a0 N (i + j) o
  | [], _, _, j, o, h, _ => by simp at h
  | o' :: r, i, h, 0, o, hj, hs => by simp at hj; subst hj; exact h.1 hs
  | o' :: r, i, h, j + 1, o, hj, hs => by
    have := ObRk9.getx h.2 j o (by simpa using hj) (by rwa [show i + 1 + j = i + (j + 1) by omega])
    rwa [show i + 1 + j = i + (j + 1) by omega] at this
theorem region_treek_steps (hlex : lexB' ol = true) (hdn : dstNB ol N = true) (hdst : dstsB ol = true) (hbl : (bigs.all fun i => Nat.blt i ol.length) = true)
    (hG : ∀ t w1 w2, w1.grownBy w2 none → G t w1 → G t w2) (obL : ∀ i o, ol[i]? = some o → bigs.contains i = false → ObQ9 P ol bigs φ G a0 N i o) :
    ∀ (fuel : Nat) (listed : Array Bool) (todo : List Nat) (e : List (Nat × Value)) (a : Act) (w : World), TInv ol bigs φ a0 N listed todo e a → KTk P ol bigs φ G a0 N Q todo.length todo e w → G todo w → (List.range ol.length).countP (fun i => !listed.getD i true) ≤ fuel → wpAny P .any ol.toArray Q fuel listed a w := by
  have done : ∀ (listed : Array Bool) (todo : List Nat) (e : List (Nat × Value)) (a : Act) (w : World), TInv ol bigs φ a0 N listed todo e a → KTk P ol bigs φ G a0 N Q todo.length todo e w → Region.ready .any ol.toArray listed = [] → Q .normal a w := by
    intro listed todo ee a w I hk hr
    have hall : ∀ i, i < ol.length → listed.getD i true = true := by
      intro i
      induction i using Nat.strongRecOn with
      | _ i ih =>
        intro hi
        by_cases hq : listed.getD i true = true
        · exact hq
        · exfalso
          have hm : i ∈ Region.ready .any ol.toArray listed := by
            rw [mem_ready]
            refine ⟨by simpa using hq, ol[i], by simp [hi], fun e he hb => ?_⟩
            have h1 := List.all_eq_true.1 hlex i (by simp [hi])
            simp only [List.getElem?_eq_getElem hi, Array.all_eq_true_iff_forall_mem, Bool.or_eq_true, Bool.not_eq_true', Nat.blt_eq] at h1
            have h2 := (h1 e he).resolve_left (by simp [hb])
            exact getD_true_lt (ih e.on h2 (by omega)) (by rw [I.lsize]; omega)
          rw [hr] at hm
          cases hm
    have ht : todo = [] := by
      rw [List.eq_nil_iff_forall_not_mem]
      intro i hi
      obtain ⟨hb, hl⟩ := (I.todos i).1 hi
      have := List.all_eq_true.1 hbl i hb
      rw [hall i (by simpa [Nat.blt_eq] using this)] at hl
      cases hl
    subst ht
    exact hk w (grown_refl _ _) a I.size I.defers (fun t ht => I.base t fun j o hj _ hd' => by
      have := List.all_eq_true.1 ht o (List.mem_of_getElem? hj)
      simp [hd'] at this) (fun j oj d hj hd' => I.phi j oj d hj (hall j (List.getElem?_eq_some_iff.1 hj).1) hd')
  intro fuel
  induction fuel with
  | zero =>
    intro listed todo ee a w I hk hg hcnt
    have hr : Region.ready .any ol.toArray listed = [] := by
      rw [List.eq_nil_iff_forall_not_mem]
      intro i hi
      obtain ⟨h1, o, ho, _⟩ := mem_ready.1 hi
      have hlt : i < ol.length := by simpa using (Array.getElem?_eq_some_iff.1 ho).1
      have hz : (List.range ol.length).countP (fun i => !listed.getD i true) = 0 := by omega
      rw [List.countP_eq_zero] at hz
      exact hz i (by simp [hlt]) (by simp [h1])
    exact ⟨hr, done listed todo ee a w I hk hr⟩
  | succ fuel ih =>
    intro listed todo ee a w I hk hg hcnt
    refine ⟨fun hr => done listed todo ee a w I hk hr, fun i hi => ?_⟩
    obtain ⟨hun, o, ho, hwait⟩ := mem_ready.1 hi
    have ho' : ol[i]? = some o := by simpa using ho
    have hlt : i < ol.length := (List.getElem?_eq_some_iff.1 ho').1
    have hls : i < listed.size := by rw [I.lsize]; exact hlt
    have hcnt' : (List.range ol.length).countP (fun j => !(listed.setIfInBounds i true).getD j true) ≤ fuel := by
      have : (List.range ol.length).countP (fun j => !(listed.setIfInBounds i true).getD j true) < (List.range ol.length).countP (fun j => !listed.getD j true) := by
        refine countP_lt _ _ (fun y hy => ?_) _ i (by simp [hlt]) (by simp [hun]) (by simp [Array.getD_eq_getD_getElem?, hls])
        by_cases hiy : i = y
        · subst hiy; simp [Array.getD_eq_getD_getElem?, hls] at hy
        · rwa [getD_set_ne true hiy] at hy
      omega
    have hbase : ∀ t, safeB ol i t = true → a.tmps.getD t undef = a0.tmps.getD t undef := by
      intro t ht
      refine I.base t fun j oj hj hlj hd => ?_
      have h1 := List.all_eq_true.1 ht oj (List.mem_of_getElem? hj)
      simp only [Bool.or_eq_true, bne_iff_ne, ne_eq, Array.any_eq_true, Bool.and_eq_true, beq_iff_eq] at h1
      rcases h1 with h1 | ⟨q, hq, h1, h2⟩
      · exact h1 hd
      · have := getD_of_false (I.closed j oj hj hlj _ (Array.getElem_mem hq) h2)
        rw [h1, hun] at this
        cases this
    have hdep : ∀ j oj d, depB ol i j = true → ol[j]? = some oj → oj.dst = some d → PhT bigs φ ee j (a.tmps.getD d undef) := by
      intro j oj d hj hoj hd
      obtain ⟨e, he, h1, h2⟩ := depB_spec ho' hj
      exact I.phi j oj d hoj (getD_of_false (by rw [← h1]; exact hwait e he h2)) hd
    have hset : ∀ j, j ≠ i → (listed.setIfInBounds i true).getD j true = listed.getD j true := fun j hj => getD_set_ne true (Ne.symm hj)
    have hseti : (listed.setIfInBounds i true).getD i true = true := by simp [Array.getD_eq_getD_getElem?, hls]
    have hclosed : ∀ j oj, ol[j]? = some oj → (listed.setIfInBounds i true).getD j true = true → ∀ e ∈ oj.after, Region.binds .any e = true → (listed.setIfInBounds i true).getD e.on false = true := by
      intro j oj hoj hlj e he hb
      refine getD_set_true ?_
      by_cases hji : j = i
      · subst hji
        rw [ho'] at hoj; cases hoj
        exact hwait e he hb
      · rw [hset j hji] at hlj
        exact I.closed j oj hoj hlj e he hb
    have hne : ∀ j oj d, ol[j]? = some oj → j ≠ i → o.dst = some d → oj.dst ≠ some d := by
      intro j oj d hoj hji hd hd'
      have hj : j < ol.length := (List.getElem?_eq_some_iff.1 hoj).1
      have h1 := List.all_eq_true.1 (List.all_eq_true.1 hdst i (by simp [hlt])) j (by simp [hj])
      simp only [ho', hoj, Bool.or_eq_true, beq_iff_eq, bne_iff_ne, ne_eq] at h1
      rcases h1 with h1 | h1 | h1
      · exact hji h1.symm
      · exact h1 (by rw [hd, hd'])
      · rw [hd] at h1; cases h1
    -- what is left of the frame, behind a value in slot d
    have hframe : ∀ d v (e' : List (Nat × Value)), o.dst = some d → (∀ j u, j ≠ i → PhT bigs φ ee j u → PhT bigs φ e' j u) → PhT bigs φ e' i v → 
        (∀ t, (∀ j oj, ol[j]? = some oj → (listed.setIfInBounds i true).getD j true = true → oj.dst ≠ some t) → (putsL a [(d, v)]).tmps.getD t undef = a0.tmps.getD t undef) ∧
        (∀ j oj d', ol[j]? = some oj → (listed.setIfInBounds i true).getD j true = true → oj.dst = some d' → PhT bigs φ e' j ((putsL a [(d, v)]).tmps.getD d' undef)) := by
      intro d v e' hd hR hv
      have hdN : d < a.tmps.size := by
        have h1 := List.all_eq_true.1 hdn o (List.mem_of_getElem? ho')
        simp only [hd, Nat.blt_eq] at h1
        rw [I.size]; exact h1
      refine ⟨fun t ht => ?_, fun j oj d' hoj hlj hd' => ?_⟩
      · have hdt : d ≠ t := fun e => ht i o ho' hseti (by rw [hd, e])
        rw [get_put_ne hdt]
        refine I.base t fun j oj hoj hlj => ?_
        by_cases hji : j = i
        · subst hji; rw [hun] at hlj; cases hlj
        · exact ht j oj hoj (by rw [hset j hji]; exact hlj)
      · by_cases hji : j = i
        · subst hji
          rw [ho'] at hoj; cases hoj
          rw [hd] at hd'; cases hd'
          rw [get_put_eq hdN]
          exact hv
        · rw [hset j hji] at hlj
          have : d ≠ d' := fun e => hne j oj d hoj hji hd (by rw [hd', e])
          rw [get_put_ne this]
          exact hR j _ hji (I.phi j oj d' hoj hlj hd')
    by_cases hin : bigs.contains i = true
    · have hmem : i ∈ bigs := by simpa using hin
      have hit : i ∈ todo := (I.todos i).2 ⟨hmem, hun⟩
      have hrt : i ∈ readyT ol todo := by
        unfold readyT
        rw [List.mem_filter]
        refine ⟨hit, List.all_eq_true.2 fun j hj => ?_⟩
        cases hd : depB ol i j with
        | false => rfl
        | true =>
          obtain ⟨x, hx, h1, h2⟩ := depB_spec ho' hd
          have h3 := getD_of_false (hwait x hx h2)
          rw [h1, ((I.todos j).1 hj).2] at h3
          cases h3
      obtain ⟨n, hn⟩ : ∃ n, todo.length = n + 1 := ⟨todo.length - 1, by have := List.length_pos_of_mem hit; omega⟩
      have hn2 : (todo.erase i).length = n := by rw [List.length_erase_of_mem hit, hn]; rfl
      rw [hn] at hk
      have h0 := hk i hrt w (grown_refl _ _) hg a I.size hbase hdep o ho'
      refine wp_one (by simpa using ho') h0 fun a' w' h => ?_
      obtain ⟨v, h1, h2, h3⟩ := h
      have htodo : ∀ x, x ∈ todo.erase i ↔ x ∈ bigs ∧ (listed.setIfInBounds i true).getD x true = false := by
        intro x
        rw [I.nodup.mem_erase_iff, I.todos]
        by_cases hxi : x = i
        · subst hxi; simp [hseti]
        · rw [hset x hxi]; simp [hxi]
      refine ih _ (todo.erase i) ((i, v) :: ee) a' w' ?_ (by rw [hn2]; exact h2) h3 hcnt'
      have hpi : PhT bigs φ ((i, v) :: ee) i v := ⟨fun _ => by simp, fun hh => absurd (hin.symm.trans hh) (by decide)⟩
      rcases h1 with ⟨hd, rfl⟩ | ⟨d, hd, rfl⟩
      · refine ⟨I.size, I.defers, fun t ht => ?_, fun j oj d' hoj hlj hd' => ?_, hclosed, by simp [I.lsize], htodo, I.nodup.erase i⟩
        · refine I.base t fun j oj hoj hlj => ?_
          by_cases hji : j = i
          · subst hji; rw [hun] at hlj; cases hlj
          · exact ht j oj hoj (by rw [hset j hji]; exact hlj)
        · by_cases hji : j = i
          · subst hji
            rw [ho'] at hoj; cases hoj
            rw [hd] at hd'; cases hd'
          · rw [hset j hji] at hlj
            exact PhT.mono hji (I.phi j oj d' hoj hlj hd')
      · obtain ⟨f1, f2⟩ := hframe d v ((i, v) :: ee) hd (fun j u hj h => h.mono hj) hpi
        exact ⟨by rw [putsL_size, I.size], by rw [putsL_defers, I.defers], f1, f2, hclosed, by simp [I.lsize], htodo, I.nodup.erase i⟩
    · have hin' : bigs.contains i = false := by simpa using hin
      have hck : ∀ j, bigs.contains j = true → depB ol j i = true → j ∈ todo := by
        intro j hj hd
        rw [I.todos]
        refine ⟨by simpa using hj, ?_⟩
        cases hl : listed.getD j true with
        | false => rfl
        | true =>
          exfalso
          cases hok : ol[j]? with
          | none => simp [depB, hok] at hd
          | some ok =>
            obtain ⟨x, hx, h4, h5⟩ := depB_spec hok hd
            have h6 := getD_of_false (I.closed j ok hok hl x hx h5)
            rw [h4, hun] at h6; cases h6
      refine wp_one (by simpa using ho') (obL i o ho' hin' ee todo a w I.size hck hg hbase hdep) fun a' w' h => ?_
      obtain ⟨⟨d, v, hd, rfl, hv⟩, hgr⟩ := h
      obtain ⟨f1, f2⟩ := hframe d v ee hd (fun _ _ _ h => h) ⟨fun hh => absurd (hin'.symm.trans hh) (by decide), fun _ => hv⟩
      refine ih _ todo ee _ w' ⟨by rw [putsL_size, I.size], by rw [putsL_defers, I.defers], f1, f2, hclosed, by simp [I.lsize], fun x => ?_, I.nodup⟩ (hk.stable hgr) (hG _ _ _ hgr hg) hcnt'
      rw [I.todos]
      by_cases hxi : x = i
      · subst hxi; simp [hseti, hun]; simpa using hin'
      · rw [hset x hxi]
theorem any_treek (bigs : List Nat) (hlex : lexB' ol = true) (hdn : dstNB ol N = true) (hdst : dstsB ol = true) (hbl : (bigs.all fun i => Nat.blt i ol.length) = true) (hnd : decide bigs.Nodup = true)
    {l : List (Nat × Value)} {w : World} (hN : a0.tmps.size = N) (hG : ∀ t w1 w2, w1.grownBy w2 none → G t w1 → G t w2) (g0 : G bigs w) (obL : ObRk9 P ol bigs φ G (putsL a0 l) N 0 ol) (hdf : (putsL a0 l).defers = a0.defers)
    (main : KTk P ol bigs φ G (putsL a0 l) N Q bigs.length bigs [] w) : RegAny P ol Q (putsL a0 l) w := by
  have hd : w.grownBy { w with drawn := w.drawn + 1 } none := ⟨rfl, rfl, rfl, Nat.le_refl _, fun _ _ _ => rfl⟩
  have I : TInv ol bigs φ (putsL a0 l) N (Array.replicate ol.length false) bigs [] (putsL a0 l) := by
    refine ⟨slN hN, rfl, fun _ _ => rfl, fun j o d hj hl => ?_, fun j o hj hl => ?_, by simp, fun i => ⟨fun hi => ⟨hi, ?_⟩, fun hi => hi.1⟩, of_decide_eq_true hnd⟩
    · have : j < ol.length := (List.getElem?_eq_some_iff.1 hj).1
      simp [Array.getD_eq_getD_getElem?, this] at hl
    · have : j < ol.length := (List.getElem?_eq_some_iff.1 hj).1
      simp [Array.getD_eq_getD_getElem?, this] at hl
    · have := List.all_eq_true.1 hbl i hi
      have h3 : i < ol.length := by simpa [Nat.blt_eq] using this
      simp [Array.getD_eq_getD_getElem?, h3]
  exact region_treek_steps (P := P) (Q := Q) hlex hdn hdst hbl hG (fun i o hi hh => by
      have h5 := ObRk9.getx obL i o hi (by rw [Nat.zero_add]; exact hh)
      rw [Nat.zero_add] at h5; exact h5) ol.length (Array.replicate ol.length false) bigs [] (putsL a0 l) _ I (main.stable hd) (hG _ _ _ hd g0) (Nat.le_trans (List.countP_le_length) (by simp))
theorem ktk_step {n : Nat} {todo rs : List Nat} {e : List (Nat × Value)} {w : World} (hr : readyT ol todo = rs) (h : ∀ i ∈ rs, KIk P ol bigs φ G a0 N e todo i w fun v w' => KTk P ol bigs φ G a0 N Q n (todo.erase i) ((i, v) :: e) w') : KTk P ol bigs φ G a0 N Q (n + 1) todo e w := by
  subst hr; exact h
theorem ktk_end {todo : List Nat} {i : Nat} {o : Oper} {d : Nat} {v : Value} {a : Act} {w : World} {K : Value → World → Prop} (hd : o.dst = some d) (g : G (todo.erase i) w) (h : K v w) :
    wpList P ol.toArray (fun ex a' w' => ex = .normal ∧ ∃ v, ((o.dst = none ∧ a' = a) ∨ ∃ d, o.dst = some d ∧ a' = putsL a [(d, v)]) ∧ K v w' ∧ G (todo.erase i) w') [] (putsL a [(d, v)]) w := ⟨rfl, v, .inr ⟨d, hd, rfl⟩, h, g⟩
theorem ktk_end0 {todo : List Nat} {i : Nat} {o : Oper} {a : Act} {w : World} {K : Value → World → Prop} (hd : o.dst = none) (g : G (todo.erase i) w) (h : K undef w) :
    wpList P ol.toArray (fun ex a' w' => ex = .normal ∧ ∃ v, ((o.dst = none ∧ a' = a) ∨ ∃ d, o.dst = some d ∧ a' = putsL a [(d, v)]) ∧ K v w' ∧ G (todo.erase i) w') [] (putsL a []) w := ⟨rfl, undef, .inl ⟨hd, rfl⟩, h, g⟩
theorem obTk_end {o : Oper} {i d : Nat} {v : Value} {a : Act} {w : World} (hd : o.dst = some d) (hv : φ i v) :
    wpList P ol.toArray (fun ex a' w' => ex = .normal ∧ (∃ d v, o.dst = some d ∧ a' = putsL a [(d, v)] ∧ φ i v) ∧ w.grownBy w' none) [] (putsL a [(d, v)]) w := ⟨rfl, ⟨d, v, hd, rfl, hv⟩, grown_refl _ _⟩
end
end Go.Gx

/- Walks, written by a program: what each function of the translation hands back. -/
namespace Go.Proofs.Ytcpfdfejojghbaa
open Go.Gx Go.RowKit
attribute [local irreducible] wpList wpStill Code.wp Calls
open Go.Bt
def PutI (h : Nat) : Prop := ∀ ⦃k : List UInt8⦄ ⦃yv : Value⦄ ⦃x : Int⦄ ⦃R W : Nat → Prop⦄ ⦃p : Nat⦄ ⦃t : Tr (Int) h⦄ ⦃w : World⦄, TreeR kI R w h p t W → Ok h t → szT h t ≤ 6 → Own w 0 5 1 yv k.length (k.map u8v) → (∀ j, Bl yv j → R j) →
  Ret Try.prog 48 #[ptr p 0, (Value.agg #[yv, (Value.int .i64 x)])] w (fun v' w' => Gr w w' W ∧ ∃ u m, v' = .tuple #[.bool (putT h k x t).1, u, m] ∧ OutR kI R w' w.heap.size W h p (putT h k x t).2 u m)
theorem putNI {h : Nat} {k : List UInt8} {yv : Value} {x : Int} {R W G : Nat → Prop} {p : Nat} {kv cv : Value} {K : List DK} {P : List Nat} {cs : List (Tr (Int) h)} {w : World} (IH : PutI h) (hNd : NodeR kI R w p kv cv K P G W) (hKs : KidsR kI R w h P cs G) (hO : Nd h (K.map Prod.snd) cs) (hz : ∀ c ∈ cs, okSz h c) (hn : K.length ≤ 6) (hk : Own w 0 5 1 yv k.length (k.map u8v)) (hkr : ∀ j, Bl yv j → R j) : Ret Try.prog 48 #[(ptr p 0), (Value.agg #[yv, (Value.int .i64 x)])] w (fun v' w' => Gr w w' W ∧ ∃ u m, v' = .tuple #[.bool (putT (h + 1) k x ((K.map Prod.snd, cs) : Tr (Int) (h + 1))).1, u, m] ∧ OutR kI R w' w.heap.size W (h + 1) p (putT (h + 1) k x ((K.map Prod.snd, cs) : Tr (Int) (h + 1))).2 u m) := by
 have hx : Bx w p 115 [.slice none 0 0, kv, cv] := hNd.bx
 have ok := hNd.ok
 have oc : Own w 0 69 1 cv P.length (P.flatMap cN) := hNd.oc
 have ks := hNd.ks
 have hs := hO.2.1
 have hi_p := hx.lt
 have hPc : P.length = cs.length := hKs.len
 have hcl : cs.length = K.length + 1 := hO.1.trans (by simp)
 have hPl : P.length = K.length + 1 := hPc.trans hcl
 have hwl : (way (K.map Prod.snd) k) ≤ K.length := by have := way_le (K.map Prod.snd) k; simpa using this
 obtain ⟨c, hc, hcO, hcw⟩ := hO.at (i := (way (K.map Prod.snd) k)) (by simpa using hwl)
 have hic : (way (K.map Prod.snd) k) < cs.length := by omega
 obtain ⟨f, G0, hkid, hrest, hfG, hfs, hGs⟩ := Kids.cutc hKs hc
 have hkid : TreeR kI R w h (P.getD (way (K.map Prod.snd) k) default) c f := hkid
 have hrest : KidsR kI R w h (P.eraseIdx (way (K.map Prod.snd) k)) (cs.eraseIdx (way (K.map Prod.snd) k)) G0 := hrest
 have djpf : ¬ f p := fun q => hNd.np (hfs p q)
 have djpG : ¬ G0 p := fun q => hNd.np (hGs p q)
 have djkf := hNd.nk.mono hfs
 have djkG := hNd.nk.mono hGs
 have djcf := hNd.nc.mono hfs
 have djcG := hNd.nc.mono hGs
 have hb := Gr.refl w W
 refine enter (N := 92) Try.func48 rfl rfl (by simp) fun a0 hN hd hA => ?_
 have s0 : a0.tmps.getD 0 undef = (ptr p 0) := hA 0 (by simp)
 have s1 : a0.tmps.getD 1 undef = (Value.agg #[yv, (Value.int .i64 x)]) := hA 1 (by simp)
 clear hA
 refine seq_any fun K1942 hK1942 => ?_
 refine one_reg ?_
 refine op_box (cs := [yv, (Value.int .i64 x)]) (ev_base hN rfl s1) rfl ?_
 intro w1943 b1944 lo_b1944 hi_b1944 hB1946 E1945
 have dj1947 : ¬ f b1944 := fun hf => by have := (hkid.lt _ hf).2; omega
 have dj1948 : ¬ G0 b1944 := fun hf => by have := (hrest.lt _ hf).2; omega
 have z_w1943 := E1945.size
 have hx := hx.keep0 E1945
 have ok := ok.keep0 E1945
 have oc := oc.keep0 E1945
 have ks : ∀ x9 ∈ K, Own w1943 0 5 1 x9.1 x9.2.length (x9.2.map u8v) := fun x9 hx9 => (ks x9 hx9).keep0 E1945
 have hk := hk.keep0 E1945
 have hkid := hkid.keepG (Gr.of0 E1945 NoB) (fun _ _ h => h) (NoK.no _)
 have hrest := hrest.keepG (Gr.of0 E1945 NoB) (fun _ _ h => h) (NoK.no _)
 have hb := hb.step0 E1945
 refine op_assign rfl ?_
 refine op_assign rfl ?_
 refine op_assign rfl ?_
 refine reg_nil ?_
 refine hK1942 _ _ ?_
 refine seq_any fun K1949 hK1949 => ?_
 refine seq_any fun K1950 hK1950 => ?_
 refine one_reg ?_
 refine op_move (ev_base hN rfl s0) ?_
 refine op_fn (vs := [(ptr p 0)]) ok81 ⟨(ev_hit hN rfl), trivial⟩ (Ret.flip (leafNI hx ok oc (by omega) (by omega))) ?_
 rintro _ _ ⟨rfl, rfl⟩
 refine reg_nil ?_
 refine hK1950 _ _ ?_
 refine wp_cond_false (ev_hit hN rfl) ?_
 refine seq_any fun K1951 hK1951 => ?_
 refine one_reg ?_
 refine op_move (ev_base hN rfl s0) ?_
 refine op_field fld51_0 (ev_hit hN rfl) ?_
 refine op_load1 (v := yv) one27 (ev_hit hN rfl) (hB1946.cell rfl) ?_
 refine op_fn (vs := [(ptr p 0), yv]) ok84 ⟨(ev_hit hN rfl), ⟨(ev_hit hN rfl), trivial⟩⟩ (wayI hx ok oc ks hs (by omega) (hk.rdw.mono (Nat.zero_le _) (by omega))) ?_
 rintro _ w1952 ⟨E1953, rfl⟩
 have E1953 := grown_of_below E1953
 have z_w1952 := E1953.size
 have hx := hx.keep0 E1953
 have ok := ok.keep0 E1953
 have oc := oc.keep0 E1953
 have ks : ∀ x9 ∈ K, Own w1952 0 5 1 x9.1 x9.2.length (x9.2.map u8v) := fun x9 hx9 => (ks x9 hx9).keep0 E1953
 have hk := hk.keep0 E1953
 have hkid := hkid.keepG (Gr.of0 E1953 NoB) (fun _ _ h => h) (NoK.no _)
 have hrest := hrest.keepG (Gr.of0 E1953 NoB) (fun _ _ h => h) (NoK.no _)
 have hB1946 := hB1946.keep0 E1953
 have hb := hb.step0 E1953
 refine op_assign (ev_hit hN rfl) ?_
 refine reg_nil ?_
 refine hK1951 _ _ ?_
 refine seq_any fun K1954 hK1954 => ?_
 refine one_reg ?_
 refine op_assign rfl ?_
 refine reg_nil ?_
 refine hK1954 _ _ ?_
 refine seq_any fun K1955 hK1955 => ?_
 refine one_reg ?_
 refine op_assign rfl ?_
 refine reg_nil ?_
 refine hK1955 _ _ ?_
 refine seq_any fun K1956 hK1956 => ?_
 refine reg_from mixed ?_
 intro w1958 E1957
 have z_w1958 := E1957.size
 have hx := hx.keep0 E1957
 have ok := ok.keep0 E1957
 have oc := oc.keep0 E1957
 have ks : ∀ x9 ∈ K, Own w1958 0 5 1 x9.1 x9.2.length (x9.2.map u8v) := fun x9 hx9 => (ks x9 hx9).keep0 E1957
 have hk := hk.keep0 E1957
 have hkid := hkid.keepG (Gr.of0 E1957 NoB) (fun _ _ h => h) (NoK.no _)
 have hrest := hrest.keepG (Gr.of0 E1957 NoB) (fun _ _ h => h) (NoK.no _)
 have hB1946 := hB1946.keep0 E1957
 have hb := hb.step0 E1957
 refine from_still (m := 8) 8 (hd := [_, _, _, _, _, _, _, _]) (by kernel_rfl) rfl rfl ?_
 refine st_step rfl (fun _ h9 => op_move (ev_base hN rfl s0) h9) ?_
 refine st_step rfl (fun _ h9 => op_nil (ev_hit hN rfl) h9) ?_
 refine st_step rfl (fun _ h9 => op_field fld115_2 (ev_hit hN rfl) h9) ?_
 refine st_step rfl (fun _ h9 => op_load1 (v := cv) one113 (ev_hit hN rfl) (hx.cell rfl) h9) ?_
 refine st_step rfl (fun _ h9 => op_move (ev_hit hN rfl) h9) ?_
 refine st_index_rd slt113 (ev_hit hN rfl) oc.rdw (ev_hit hN rfl) (by omega) (by omega) ?_
 intro b1959 o1960 h0b1959 h1b1959 hc1961
 refine st_step rfl (fun _ h9 => op_load1 (v := (ptr (P.getD ((way (K.map Prod.snd) k)) default) 0)) one69 (ev_hit hN rfl) (by have := hc1961 0 (ptr (P.getD ((way (K.map Prod.snd) k)) default) 0) (by decide) (el_pn (i := ((way (K.map Prod.snd) k))) (by omega) (by first | omega | (simp only [List.length_drop, List.length_take]; omega))); simpa using this) h9) ?_
 refine st_step rfl (fun _ h9 => op_loadA (cs := [yv, (Value.int .i64 x)]) agg51 rfl (ev_hit hN rfl) (fun j u hu => by rw [Nat.zero_add]; exact hB1946.cell hu) h9) ?_
 refine st_nil ?_
 refine from_one (k' := 9) (by kernel_rfl) rfl rfl ?_
 rcases Bool.eq_false_or_eq_true (((putT h k x c).2.2.isSome)) with k55 | k55
 · -- 55T
  refine op_fn (vs := [(ptr (P.getD ((way (K.map Prod.snd) k)) default) 0), (Value.agg #[yv, (Value.int .i64 x)])]) ok48 ⟨(ev_hit hN rfl), ⟨(ev_hit hN rfl), trivial⟩⟩ (IH hkid hcO (by have := (hz c (List.mem_of_getElem? hc)).2; omega) hk hkr) ?_
  rintro _ w1963 ⟨E1964, u1962, m1962, rfl, ho1962⟩
  have bd1965 := hx.lt
  have bd1966 := ok.lt
  have bd1967 := oc.lt
  have bd1968 := hk.lt
  have bd1969 := hrest.lt
  have bd1970 := hB1946.lt
  obtain ⟨y1962, t2_1962, q1962, W1_1962, W2_1962, hr1962, rfl, hu1962, hur1962, hT1962, hT2_1962, hN1_1962, hN2_1962, hd1962⟩ := outR_some k55 ho1962
  have hkid_old := hkid
  have z_w1963 := E1964.size
  have hx := hx.keepG E1964 djpf
  have ok := ok.keepG E1964 djkf
  have oc := oc.keepG E1964 djcf
  have ks : ∀ x9 ∈ K, Own w1963 0 5 1 x9.1 x9.2.length (x9.2.map u8v) := fun x9 hx9 => (ks x9 hx9).keepG E1964 (hkid_old.notOwn (ks x9 hx9) (by decide) (by decide) (by decide) (by decide))
  have hk := hk.keepG E1964 (hkid_old.notOwn hk (by decide) (by decide) (by decide) (by decide))
  have hrest := hrest.keepG E1964 hfG.symm (hkid_old.noK kI_fine)
  have hB1946 := hB1946.keepG E1964 dj1947
  have hb := hb.stepF E1964 (fun k _ h => hNd.wg k (hfs k h))
  have dj1971 : ¬ W1_1962 p := ne_stepF hN1_1962 bd1965 djpf
  have dj1972 : Dj (Bl kv) W1_1962 := Dj.stepF hN1_1962 (fun k hk => (bd1966 k hk).2) djkf
  have dj1973 : Dj (Bl cv) W1_1962 := Dj.stepF hN1_1962 (fun k hk => (bd1967 k hk).2) djcf
  have dj1975 : Dj G0 W1_1962 := Dj.stepF hN1_1962 (fun k hk => (bd1969 k hk).2) hfG.symm
  have dj1976 : ¬ W1_1962 b1944 := ne_stepF hN1_1962 bd1970 dj1947
  have dj1977 : ¬ W2_1962 p := ne_stepF hN2_1962 bd1965 djpf
  have dj1978 : Dj (Bl kv) W2_1962 := Dj.stepF hN2_1962 (fun k hk => (bd1966 k hk).2) djkf
  have dj1979 : Dj (Bl cv) W2_1962 := Dj.stepF hN2_1962 (fun k hk => (bd1967 k hk).2) djcf
  have dj1981 : Dj G0 W2_1962 := Dj.stepF hN2_1962 (fun k hk => (bd1969 k hk).2) hfG.symm
  have dj1982 : ¬ W2_1962 b1944 := ne_stepF hN2_1962 bd1970 dj1947
  have hin1983 := in_newF (hN1_1962.mono (t := w.heap.size) (by omega)) (fun k hk => hNd.wg k (hfs k hk))
  have hin1984 := in_newF (hN2_1962.mono (t := w.heap.size) (by omega)) (fun k hk => hNd.wg k (hfs k hk))
  refine from_next ?_
  refine from_still (m := 16) 7 (hd := [_, _, _, _, _, _, _]) (by kernel_rfl) rfl rfl ?_
  refine st_step rfl (fun _ h9 => op_move (ev_hit hN rfl) h9) ?_
  refine st_step rfl (fun _ h9 => op_extract (ev_hit hN rfl) rfl h9) ?_
  refine st_step rfl (fun _ h9 => op_extract (ev_hit hN rfl) rfl h9) ?_
  refine st_step rfl (fun _ h9 => op_extract (ev_hit hN rfl) rfl h9) ?_
  refine st_step rfl (fun _ h9 => op_assign (ev_hit hN rfl) h9) ?_
  refine st_step rfl (fun _ h9 => op_assign (ev_hit hN rfl) h9) ?_
  refine st_step rfl (fun _ h9 => op_assign (ev_hit hN rfl) h9) ?_
  refine st_nil ?_
  refine from_end ?_ rfl
  refine hK1956 _ _ ?_
  refine seq_any fun K1985 hK1985 => ?_
  refine one_reg ?_
  refine op_move (ev_hit hN rfl) ?_
  refine op_pne_some ptrt69 (ev_hit hN rfl) rfl ?_
  refine reg_nil ?_
  refine hK1985 _ _ ?_
  refine wp_cond_true (ev_hit hN rfl) ?_
  refine reg_split (hd := [_, _, _, _, _, _, _, _, _, _, _, _, _, _, _, _, _, _, _, _, _, _]) (tl := _) 22 mixed (by kernel_rfl) rfl rfl ?_
  refine any_treek (φ := phiV [(fun uz => uz = (ptr p 0)), (fun uz => uz = (ptr p 0)), (fun uz => uz = (ptr p 0)), (fun uz => uz = (ptr p 0)), (fun uz => uz = (ptr p 1)), (fun uz => uz = kv), (fun uz => uz = (Value.int .i64 (((way (K.map Prod.snd) k) : Nat) : Int))), (fun uz => uz = u1962), (fun _ => True), (fun _ => True), (fun uz => uz = (ptr p 0)), (fun uz => uz = (ptr p 0)), (fun uz => uz = (ptr p 2)), (fun uz => uz = cv), (fun uz => uz = (Value.int .i64 (((way (K.map Prod.snd) k) : Nat) : Int))), (fun uz => uz = (Value.int .i64 ((((way (K.map Prod.snd) k) : Nat) : Int) + 1))), (fun uz => uz = (ptr q1962 0)), (fun _ => True), (fun _ => True), (fun uz => uz = (ptr p 0)), (fun uz => uz = (ptr p 1)), (fun _ => True)]) (G := fun t9 w' => 21 ∈ t9 → (Bx w' p 115 [(Value.slice none 0 0), kv, cv])) [8, 9, 17, 18, 21] (by kernel_rfl) (by kernel_rfl) (by kernel_rfl) (by kernel_rfl) (by kernel_rfl) hN (fun _ w1 w2 E h hc9 => (h hc9).keep0 E) (fun _ => hx) (ObRk9.cons ?_ (ObRk9.cons ?_ (ObRk9.cons ?_ (ObRk9.cons ?_ (ObRk9.cons ?_ (ObRk9.cons ?_ (ObRk9.cons ?_ (ObRk9.cons ?_ (ObRk9.pass rfl (ObRk9.pass rfl (ObRk9.cons ?_ (ObRk9.cons ?_ (ObRk9.cons ?_ (ObRk9.cons ?_ (ObRk9.cons ?_ (ObRk9.cons ?_ (ObRk9.cons ?_ (ObRk9.pass rfl (ObRk9.pass rfl (ObRk9.cons ?_ (ObRk9.cons ?_ (ObRk9.pass rfl (ObRk9.nil))))))))))))))))))))))) (by simp only [putsL_defers]) ?_
  ·
   intro eA tA aA wA hNA hckA hGA hbsA hdpA
   have qA_0 := (hbsA 0 rfl).trans (sl_base hN rfl s0)
   refine op_move (ev_base hNA rfl qA_0) ?_
   exact obTk_end rfl rfl
  ·
   intro eA tA aA wA hNA hckA hGA hbsA hdpA
   have qA_0 := (hbsA 0 rfl).trans (sl_base hN rfl s0)
   refine op_move (ev_base hNA rfl qA_0) ?_
   exact obTk_end rfl rfl
  ·
   intro eA tA aA wA hNA hckA hGA hbsA hdpA
   have qA_0 := (hbsA 0 rfl).trans (sl_base hN rfl s0)
   refine op_move (ev_base hNA rfl qA_0) ?_
   exact obTk_end rfl rfl
  ·
   intro eA tA aA wA hNA hckA hGA hbsA hdpA
   have qA_63 : Sl aA 63 (ptr p 0) := (hdpA 2 _ 63 (by kernel_rfl) rfl rfl).2 rfl
   refine op_nil (ev_base hNA rfl qA_63) ?_
   exact obTk_end rfl rfl
  ·
   intro eA tA aA wA hNA hckA hGA hbsA hdpA
   have qA_64 : Sl aA 64 (ptr p 0) := (hdpA 3 _ 64 (by kernel_rfl) rfl rfl).2 rfl
   refine op_field fld115_1 (ev_base hNA rfl qA_64) ?_
   exact obTk_end rfl rfl
  ·
   intro eA tA aA wA hNA hckA hGA hbsA hdpA
   have qA_65 : Sl aA 65 (ptr p 1) := (hdpA 4 _ 65 (by kernel_rfl) rfl rfl).2 rfl
   have hGA := hGA (hckA 21 rfl (by kernel_rfl))
   refine op_load1 (v := kv) one90 (ev_base hNA rfl qA_65) (hGA.cell rfl) ?_
   exact obTk_end rfl rfl
  ·
   intro eA tA aA wA hNA hckA hGA hbsA hdpA
   have qA_9 := (hbsA 9 rfl).trans (sl_hit hN rfl)
   refine op_move (ev_base hNA rfl qA_9) ?_
   exact obTk_end rfl rfl
  ·
   intro eA tA aA wA hNA hckA hGA hbsA hdpA
   have qA_10 := (hbsA 10 rfl).trans (sl_hit hN rfl)
   refine op_move (ev_base hNA rfl qA_10) ?_
   exact obTk_end rfl rfl
  ·
   intro eA tA aA wA hNA hckA hGA hbsA hdpA
   have qA_0 := (hbsA 0 rfl).trans (sl_base hN rfl s0)
   refine op_move (ev_base hNA rfl qA_0) ?_
   exact obTk_end rfl rfl
  ·
   intro eA tA aA wA hNA hckA hGA hbsA hdpA
   have qA_71 : Sl aA 71 (ptr p 0) := (hdpA 10 _ 71 (by kernel_rfl) rfl rfl).2 rfl
   refine op_nil (ev_base hNA rfl qA_71) ?_
   exact obTk_end rfl rfl
  ·
   intro eA tA aA wA hNA hckA hGA hbsA hdpA
   have qA_72 : Sl aA 72 (ptr p 0) := (hdpA 11 _ 72 (by kernel_rfl) rfl rfl).2 rfl
   refine op_field fld115_2 (ev_base hNA rfl qA_72) ?_
   exact obTk_end rfl rfl
  ·
   intro eA tA aA wA hNA hckA hGA hbsA hdpA
   have qA_73 : Sl aA 73 (ptr p 2) := (hdpA 12 _ 73 (by kernel_rfl) rfl rfl).2 rfl
   have hGA := hGA (hckA 21 rfl (by kernel_rfl))
   refine op_load1 (v := cv) one113 (ev_base hNA rfl qA_73) (hGA.cell rfl) ?_
   exact obTk_end rfl rfl
  ·
   intro eA tA aA wA hNA hckA hGA hbsA hdpA
   have qA_9 := (hbsA 9 rfl).trans (sl_hit hN rfl)
   refine op_move (ev_base hNA rfl qA_9) ?_
   exact obTk_end rfl rfl
  ·
   intro eA tA aA wA hNA hckA hGA hbsA hdpA
   have qA_75 : Sl aA 75 (Value.int .i64 (((way (K.map Prod.snd) k) : Nat) : Int)) := (hdpA 14 _ 75 (by kernel_rfl) rfl rfl).2 rfl
   refine op_add (ev_base hNA rfl qA_75) rfl (add64 (by omega)) ?_
   exact obTk_end rfl rfl
  ·
   intro eA tA aA wA hNA hckA hGA hbsA hdpA
   have qA_11 := (hbsA 11 rfl).trans (sl_hit hN rfl)
   refine op_move (ev_base hNA rfl qA_11) ?_
   exact obTk_end rfl rfl
  ·
   intro eA tA aA wA hNA hckA hGA hbsA hdpA
   have qA_61 : Sl aA 61 (ptr p 0) := (hdpA 0 _ 61 (by kernel_rfl) rfl rfl).2 rfl
   refine op_nil (ev_base hNA rfl qA_61) ?_
   exact obTk_end rfl rfl
  ·
   intro eA tA aA wA hNA hckA hGA hbsA hdpA
   have qA_80 : Sl aA 80 (ptr p 0) := (hdpA 19 _ 80 (by kernel_rfl) rfl rfl).2 rfl
   refine op_field fld115_1 (ev_base hNA rfl qA_80) ?_
   exact obTk_end rfl rfl
  ·
   refine ktk_step (rs := [8, 17]) (by kernel_rfl) ?_
   refine more_mem ?_ ?_
   · -- first 8
    intro w1987 E1987 _ a1987 hN1987 hbs1987 hdp1987 o_ ho_; obtain rfl := Option.some.inj ho_
    have z_w1987 := E1987.size
    have hx := hx.keep0 E1987
    have ok := ok.keep0 E1987
    have oc := oc.keep0 E1987
    have ks : ∀ x9 ∈ K, Own w1987 0 5 1 x9.1 x9.2.length (x9.2.map u8v) := fun x9 hx9 => (ks x9 hx9).keep0 E1987
    have hk := hk.keep0 E1987
    have hrest := hrest.keepG (Gr.of0 E1987 NoB) (fun _ _ h => h) (NoK.no _)
    have hB1946 := hB1946.keep0 E1987
    have hT1962 := hT1962.keepG (Gr.of0 E1987 NoB) (fun _ _ h => h) (NoK.no _)
    have hT2_1962 := hT2_1962.keepG (Gr.of0 E1987 NoB) (fun _ _ h => h) (NoK.no _)
    have hu1962 := hu1962.keep0 E1987
    have hb := hb.step0 E1987
    have q1987_68 : Sl a1987 68 u1962 := (hdp1987 7 _ 68 (by kernel_rfl) rfl rfl).2 rfl
    refine op_bslice (e := 27) (pv := [(0, u1962)]) (cs := [u1962]) ⟨rfl, (ev_base hN1987 rfl q1987_68), trivial⟩ (by obtain ⟨_, _, _, rfl⟩ := hu1962.sl; kernel_rfl) ?_
    intro w1988 b1989 lo_b1989 hi_b1989 hB1991 E1990
    have dj1992 : ¬ G0 b1989 := fun hf => by have := (hrest.lt _ hf).2; omega
    have dj1993 : ¬ W1_1962 b1989 := fun hf => by have := (hT1962.lt _ hf).2; omega
    have dj1994 : ¬ W2_1962 b1989 := fun hf => by have := (hT2_1962.lt _ hf).2; omega
    have ne_b1989_kv : kv.ownBlock ≠ some b1989 := fun hh => by have := (ok.lt _ hh).2; omega
    have z_w1988 := E1990.size
    have hx := hx.keep0 E1990
    have ok := ok.keep0 E1990
    have oc := oc.keep0 E1990
    have ks : ∀ x9 ∈ K, Own w1988 0 5 1 x9.1 x9.2.length (x9.2.map u8v) := fun x9 hx9 => (ks x9 hx9).keep0 E1990
    have hk := hk.keep0 E1990
    have hrest := hrest.keepG (Gr.of0 E1990 NoB) (fun _ _ h => h) (NoK.no _)
    have hB1946 := hB1946.keep0 E1990
    have hT1962 := hT1962.keepG (Gr.of0 E1990 NoB) (fun _ _ h => h) (NoK.no _)
    have hT2_1962 := hT2_1962.keepG (Gr.of0 E1990 NoB) (fun _ _ h => h) (NoK.no _)
    have hu1962 := hu1962.keep0 E1990
    have hb := hb.step0 E1990
    refine ktk_end (G := fun t9 w' => 21 ∈ t9 → (Bx w' p 115 [(Value.slice none 0 0), kv, cv])) (todo := [8, 9, 17, 18, 21]) (i := 8) rfl (fun _ => hx) ?_
    refine ktk_step (rs := [9, 17]) (by kernel_rfl) ?_
    refine more_mem ?_ ?_
    · -- first 9
     intro w1996 E1996 _ a1996 hN1996 hbs1996 hdp1996 o_ ho_; obtain rfl := Option.some.inj ho_
     have z_w1996 := E1996.size
     have hx := hx.keep0 E1996
     have ok := ok.keep0 E1996
     have oc := oc.keep0 E1996
     have ks : ∀ x9 ∈ K, Own w1996 0 5 1 x9.1 x9.2.length (x9.2.map u8v) := fun x9 hx9 => (ks x9 hx9).keep0 E1996
     have hk := hk.keep0 E1996
     have hrest := hrest.keepG (Gr.of0 E1996 NoB) (fun _ _ h => h) (NoK.no _)
     have hB1946 := hB1946.keep0 E1996
     have hT1962 := hT1962.keepG (Gr.of0 E1996 NoB) (fun _ _ h => h) (NoK.no _)
     have hT2_1962 := hT2_1962.keepG (Gr.of0 E1996 NoB) (fun _ _ h => h) (NoK.no _)
     have hu1962 := hu1962.keep0 E1996
     have hB1991 := hB1991.keep0 E1996
     have hb := hb.step0 E1996
     have q1996_66 : Sl a1996 66 kv := (hdp1996 5 _ 66 (by kernel_rfl) rfl rfl).2 rfl
     have q1996_67 : Sl a1996 67 (Value.int .i64 (((way (K.map Prod.snd) k) : Nat) : Int)) := (hdp1996 6 _ 67 (by kernel_rfl) rfl rfl).2 rfl
     have q1996_69 : Sl a1996 69 (Value.slice (some ⟨b1989, 0, none⟩) 1 1) := (Option.some.inj ((hdp1996 8 _ 69 (by kernel_rfl) rfl rfl).1 rfl)).symm
     refine op_fn (vs := [kv, (Value.int .i64 (((way (K.map Prod.snd) k) : Nat) : Int)), (Value.slice (some ⟨b1989, 0, none⟩) 1 1)]) ok67 ⟨(ev_base hN1996 rfl q1996_66), ⟨(ev_base hN1996 rfl q1996_67), ⟨(ev_base hN1996 rfl q1996_69), trivial⟩⟩⟩ (InsK ok hB1991 (one_kd ks (fun _ h => h)) (by simp only [List.all_cons, List.all_nil, Bool.true_and, Bool.and_true, hu1962.one]; try rfl) (by first | omega | (simp only [List.length_insertIdx, List.length_set, List.length_drop, List.length_take]; omega) | (simp; omega)) (by first | omega | (simp only [List.length_insertIdx, List.length_set, List.length_drop, List.length_take]; omega) | (simp; omega)) ne_b1989_kv) ?_
     rintro v1997 w1998 ⟨E1999, hO1997, hm1997⟩
     have dj2000 : Dj G0 (Bl v1997) := Dj.step hm1997 (fun k hk => (hrest.lt k hk).2) djkG.symm
     have dj2001 : Dj W1_1962 (Bl v1997) := Dj.step hm1997 (fun k hk => (hT1962.lt k hk).2) dj1972.symm
     have dj2002 : Dj W2_1962 (Bl v1997) := Dj.step hm1997 (fun k hk => (hT2_1962.lt k hk).2) dj1978.symm
     have hin2003 := inF_step (n := w.heap.size) hm1997 (by omega) (fun k _ h => hNd.wk k h)
     have z_w1998 := E1999.size
     have hx := hx.keepO ok E1999 (by decide)
     have oc := oc.keepT ok E1999 (by decide)
     have ks : ∀ x9 ∈ K, Own w1998 0 5 1 x9.1 x9.2.length (x9.2.map u8v) := fun x9 hx9 => (ks x9 hx9).keepT ok E1999 (by decide)
     have hk := hk.keepT ok E1999 (by decide)
     have hrest := hrest.keepG (Gr.of E1999) djkG.symm (NoK.ofOwn ok (by decide))
     have hB1946 := hB1946.keepO ok E1999 (by decide)
     have hT1962 := hT1962.keepG (Gr.of E1999) dj1972.symm (NoK.ofOwn ok (by decide))
     have hT2_1962 := hT2_1962.keepG (Gr.of E1999) dj1978.symm (NoK.ofOwn ok (by decide))
     have hu1962 := hu1962.keepT ok E1999 (by decide)
     have hB1991 := hB1991.keep E1999 (fun hh => ne_b1989_kv hh.symm)
     have hb := hb.stepL E1999 (fun k _ h => hNd.wk k h)
     have hO1997 : Own w1998 0 27 1 v1997 (K.insertIdx (way (K.map Prod.snd) k) (u1962, y1962)).length ((K.insertIdx (way (K.map Prod.snd) k) (u1962, y1962)).flatMap cK) := hO1997.cast (by rw [List.length_insertIdx, if_pos (by first | omega | (simp only [List.length_insertIdx, List.length_set, List.length_drop, List.length_take]; omega) | (simp; omega))]) (flat_ins cK_len (u1962, y1962) (by first | omega | (simp only [List.length_insertIdx, List.length_set, List.length_drop, List.length_take]; omega) | (simp; omega)))
     refine ktk_end (G := fun t9 w' => 21 ∈ t9 → (Bx w' p 115 [(Value.slice none 0 0), kv, cv])) (todo := [9, 17, 18, 21]) (i := 9) rfl (fun _ => hx) ?_
     refine ktk_step (rs := [17]) (by kernel_rfl) ?_
     refine one_mem ?_
     intro w2005 E2005 _ a2005 hN2005 hbs2005 hdp2005 o_ ho_; obtain rfl := Option.some.inj ho_
     have z_w2005 := E2005.size
     have hx := hx.keep0 E2005
     have oc := oc.keep0 E2005
     have ks : ∀ x9 ∈ K, Own w2005 0 5 1 x9.1 x9.2.length (x9.2.map u8v) := fun x9 hx9 => (ks x9 hx9).keep0 E2005
     have hk := hk.keep0 E2005
     have hrest := hrest.keepG (Gr.of0 E2005 NoB) (fun _ _ h => h) (NoK.no _)
     have hB1946 := hB1946.keep0 E2005
     have hT1962 := hT1962.keepG (Gr.of0 E2005 NoB) (fun _ _ h => h) (NoK.no _)
     have hT2_1962 := hT2_1962.keepG (Gr.of0 E2005 NoB) (fun _ _ h => h) (NoK.no _)
     have hu1962 := hu1962.keep0 E2005
     have hB1991 := hB1991.keep0 E2005
     have hO1997 := hO1997.keep0 E2005
     have hb := hb.step0 E2005
     have q2005_77 : Sl a2005 77 (ptr q1962 0) := (hdp2005 16 _ 77 (by kernel_rfl) rfl rfl).2 rfl
     refine op_bslice (e := 69) (pv := [(0, (ptr q1962 0))]) (cs := [(ptr q1962 0)]) ⟨rfl, (ev_base hN2005 rfl q2005_77), trivial⟩ (by kernel_rfl) ?_
     intro w2006 b2007 lo_b2007 hi_b2007 hB2009 E2008
     have dj2010 : ¬ G0 b2007 := fun hf => by have := (hrest.lt _ hf).2; omega
     have dj2011 : ¬ W1_1962 b2007 := fun hf => by have := (hT1962.lt _ hf).2; omega
     have dj2012 : ¬ W2_1962 b2007 := fun hf => by have := (hT2_1962.lt _ hf).2; omega
     have ne_b2007_cv : cv.ownBlock ≠ some b2007 := fun hh => by have := (oc.lt _ hh).2; omega
     have z_w2006 := E2008.size
     have hx := hx.keep0 E2008
     have oc := oc.keep0 E2008
     have ks : ∀ x9 ∈ K, Own w2006 0 5 1 x9.1 x9.2.length (x9.2.map u8v) := fun x9 hx9 => (ks x9 hx9).keep0 E2008
     have hk := hk.keep0 E2008
     have hrest := hrest.keepG (Gr.of0 E2008 NoB) (fun _ _ h => h) (NoK.no _)
     have hB1946 := hB1946.keep0 E2008
     have hT1962 := hT1962.keepG (Gr.of0 E2008 NoB) (fun _ _ h => h) (NoK.no _)
     have hT2_1962 := hT2_1962.keepG (Gr.of0 E2008 NoB) (fun _ _ h => h) (NoK.no _)
     have hu1962 := hu1962.keep0 E2008
     have hB1991 := hB1991.keep0 E2008
     have hO1997 := hO1997.keep0 E2008
     have hb := hb.step0 E2008
     refine ktk_end (G := fun t9 w' => 21 ∈ t9 → (Bx w' p 115 [(Value.slice none 0 0), kv, cv])) (todo := [17, 18, 21]) (i := 17) rfl (fun _ => hx) ?_
     refine ktk_step (rs := [18]) (by kernel_rfl) ?_
     refine one_mem ?_
     intro w2014 E2014 _ a2014 hN2014 hbs2014 hdp2014 o_ ho_; obtain rfl := Option.some.inj ho_
     have z_w2014 := E2014.size
     have hx := hx.keep0 E2014
     have oc := oc.keep0 E2014
     have ks : ∀ x9 ∈ K, Own w2014 0 5 1 x9.1 x9.2.length (x9.2.map u8v) := fun x9 hx9 => (ks x9 hx9).keep0 E2014
     have hk := hk.keep0 E2014
     have hrest := hrest.keepG (Gr.of0 E2014 NoB) (fun _ _ h => h) (NoK.no _)
     have hB1946 := hB1946.keep0 E2014
     have hT1962 := hT1962.keepG (Gr.of0 E2014 NoB) (fun _ _ h => h) (NoK.no _)
     have hT2_1962 := hT2_1962.keepG (Gr.of0 E2014 NoB) (fun _ _ h => h) (NoK.no _)
     have hu1962 := hu1962.keep0 E2014
     have hB1991 := hB1991.keep0 E2014
     have hO1997 := hO1997.keep0 E2014
     have hB2009 := hB2009.keep0 E2014
     have hb := hb.step0 E2014
     have q2014_74 : Sl a2014 74 cv := (hdp2014 13 _ 74 (by kernel_rfl) rfl rfl).2 rfl
     have q2014_76 : Sl a2014 76 (Value.int .i64 ((((way (K.map Prod.snd) k) : Nat) : Int) + 1)) := (hdp2014 15 _ 76 (by kernel_rfl) rfl rfl).2 rfl
     have q2014_78 : Sl a2014 78 (Value.slice (some ⟨b2007, 0, none⟩) 1 1) := (Option.some.inj ((hdp2014 17 _ 78 (by kernel_rfl) rfl rfl).1 rfl)).symm
     refine op_fn (vs := [cv, (Value.int .i64 ((((way (K.map Prod.snd) k) : Nat) : Int) + 1)), (Value.slice (some ⟨b2007, 0, none⟩) 1 1)]) ok85 ⟨(ev_base hN2014 rfl q2014_74), ⟨(ev_base hN2014 rfl q2014_76), ⟨(ev_base hN2014 rfl q2014_78), trivial⟩⟩⟩ (InsNI oc hB2009 (one_pn _) rfl (by first | omega | (simp only [List.length_insertIdx, List.length_set, List.length_drop, List.length_take]; omega) | (simp; omega)) (by first | omega | (simp only [List.length_insertIdx, List.length_set, List.length_drop, List.length_take]; omega) | (simp; omega)) ne_b2007_cv) ?_
     rintro v2015 w2016 ⟨E2017, hO2015, hm2015⟩
     have dj2018 : Dj G0 (Bl v2015) := Dj.step hm2015 (fun k hk => (hrest.lt k hk).2) djcG.symm
     have dj2019 : Dj W1_1962 (Bl v2015) := Dj.step hm2015 (fun k hk => (hT1962.lt k hk).2) dj1973.symm
     have dj2020 : Dj W2_1962 (Bl v2015) := Dj.step hm2015 (fun k hk => (hT2_1962.lt k hk).2) dj1979.symm
     have hin2021 := inF_step (n := w.heap.size) hm2015 (by omega) (fun k _ h => hNd.wc k h)
     have z_w2016 := E2017.size
     have hx := hx.keepO oc E2017 (by decide)
     have ks : ∀ x9 ∈ K, Own w2016 0 5 1 x9.1 x9.2.length (x9.2.map u8v) := fun x9 hx9 => (ks x9 hx9).keepT oc E2017 (by decide)
     have hk := hk.keepT oc E2017 (by decide)
     have hrest := hrest.keepG (Gr.of E2017) djcG.symm (NoK.ofOwn oc (by decide))
     have hB1946 := hB1946.keepO oc E2017 (by decide)
     have hT1962 := hT1962.keepG (Gr.of E2017) dj1973.symm (NoK.ofOwn oc (by decide))
     have hT2_1962 := hT2_1962.keepG (Gr.of E2017) dj1979.symm (NoK.ofOwn oc (by decide))
     have hu1962 := hu1962.keepT oc E2017 (by decide)
     have hB1991 := hB1991.keepO oc E2017 (by decide)
     have hO1997 := hO1997.keepT oc E2017 (by decide)
     have hB2009 := hB2009.keep E2017 (fun hh => ne_b2007_cv hh.symm)
     have hb := hb.stepL E2017 (fun k _ h => hNd.wc k h)
     have hO2015 : Own w2016 0 69 1 v2015 (P.insertIdx (((way (K.map Prod.snd) k)) + 1) q1962).length ((P.insertIdx (((way (K.map Prod.snd) k)) + 1) q1962).flatMap cN) := hO2015.cast (by rw [List.length_insertIdx, if_pos (by first | omega | (simp only [List.length_insertIdx, List.length_set, List.length_drop, List.length_take]; omega) | (simp; omega))]) (flat_ins cN_len q1962 (by first | omega | (simp only [List.length_insertIdx, List.length_set, List.length_drop, List.length_take]; omega) | (simp; omega)))
     refine ktk_end (G := fun t9 w' => 21 ∈ t9 → (Bx w' p 115 [(Value.slice none 0 0), kv, cv])) (todo := [18, 21]) (i := 18) rfl (fun _ => hx) ?_
     refine ktk_step (rs := [21]) (by kernel_rfl) ?_
     refine one_mem ?_
     intro w2023 E2023 _ a2023 hN2023 hbs2023 hdp2023 o_ ho_; obtain rfl := Option.some.inj ho_
     have z_w2023 := E2023.size
     have hx := hx.keep0 E2023
     have ks : ∀ x9 ∈ K, Own w2023 0 5 1 x9.1 x9.2.length (x9.2.map u8v) := fun x9 hx9 => (ks x9 hx9).keep0 E2023
     have hk := hk.keep0 E2023
     have hrest := hrest.keepG (Gr.of0 E2023 NoB) (fun _ _ h => h) (NoK.no _)
     have hB1946 := hB1946.keep0 E2023
     have hT1962 := hT1962.keepG (Gr.of0 E2023 NoB) (fun _ _ h => h) (NoK.no _)
     have hT2_1962 := hT2_1962.keepG (Gr.of0 E2023 NoB) (fun _ _ h => h) (NoK.no _)
     have hu1962 := hu1962.keep0 E2023
     have hB1991 := hB1991.keep0 E2023
     have hO1997 := hO1997.keep0 E2023
     have hB2009 := hB2009.keep0 E2023
     have hO2015 := hO2015.keep0 E2023
     have hb := hb.step0 E2023
     have q2023_81 : Sl a2023 81 (ptr p 1) := (hdp2023 20 _ 81 (by kernel_rfl) rfl rfl).2 rfl
     have q2023_70 : Sl a2023 70 v1997 := (Option.some.inj ((hdp2023 9 _ 70 (by kernel_rfl) rfl rfl).1 rfl)).symm
     have hx_old := hx
     refine op_store (vs := [v1997]) (cs' := [(Value.slice none 0 0), v1997, cv]) size90 (ev_base hN2023 rfl q2023_81) (ev_base hN2023 rfl q2023_70) hO1997.cl rfl (by simp only [List.all_cons, List.all_nil, Bool.true_and, Bool.and_true, hO1997.one]; try rfl) hx (Nat.le_of_ble_eq_true rfl) rfl ?_
     intro w2026 hx E2027
     have z_w2026 := E2027.size
     have ks : ∀ x9 ∈ K, Own w2026 0 5 1 x9.1 x9.2.length (x9.2.map u8v) := fun x9 hx9 => (ks x9 hx9).keepX hx_old E2027 (by decide)
     have hk := hk.keepX hx_old E2027 (by decide)
     have hrest := hrest.keepG (Gr.of E2027) (Dj.one djpG) (NoK.ofBx hx_old (by decide))
     have hB1946 := hB1946.keep E2027 (fun hh => hB1946.ne hx_old (by decide) (Option.some.inj hh))
     have hT1962 := hT1962.keepG (Gr.of E2027) (Dj.one dj1971) (NoK.ofBx hx_old (by decide))
     have hT2_1962 := hT2_1962.keepG (Gr.of E2027) (Dj.one dj1977) (NoK.ofBx hx_old (by decide))
     have hu1962 := hu1962.keepX hx_old E2027 (by decide)
     have hB1991 := hB1991.keep E2027 (fun hh => hB1991.ne hx_old (by decide) (Option.some.inj hh))
     have hO1997 := hO1997.keepX hx_old E2027 (by decide)
     have hB2009 := hB2009.keep E2027 (fun hh => hB2009.ne hx_old (by decide) (Option.some.inj hh))
     have hO2015 := hO2015.keepX hx_old E2027 (by decide)
     have hb := hb.stepB E2027 hNd.wp
     refine ktk_end0 (G := fun t9 w' => 21 ∈ t9 → (Bx w' p 115 [(Value.slice none 0 0), kv, cv])) (todo := [21]) (i := 21) rfl (fun h => absurd h (by decide)) ?_
     intro w2028 E2028 a2028 hN2028 hd2028 hbs2028 hph2028
     have hd2028 := hd2028.trans ((by simp only [putsL_defers] : _ = _).trans hd)
     have z_w2028 := E2028.size
     have ks : ∀ x9 ∈ K, Own w2028 0 5 1 x9.1 x9.2.length (x9.2.map u8v) := fun x9 hx9 => (ks x9 hx9).keep0 E2028
     have hk := hk.keep0 E2028
     have hrest := hrest.keepG (Gr.of0 E2028 NoB) (fun _ _ h => h) (NoK.no _)
     have hB1946 := hB1946.keep0 E2028
     have hT1962 := hT1962.keepG (Gr.of0 E2028 NoB) (fun _ _ h => h) (NoK.no _)
     have hT2_1962 := hT2_1962.keepG (Gr.of0 E2028 NoB) (fun _ _ h => h) (NoK.no _)
     have hu1962 := hu1962.keep0 E2028
     have hB1991 := hB1991.keep0 E2028
     have hO1997 := hO1997.keep0 E2028
     have hB2009 := hB2009.keep0 E2028
     have hO2015 := hO2015.keep0 E2028
     have hx := hx.keep0 E2028
     have hb := hb.step0 E2028
     have s2028_0 := (hbs2028 0 rfl).trans (sl_base hN rfl s0)
     have s2028_4 := (hbs2028 4 rfl).trans (sl_hit hN rfl)
     have s2028_5 := (hbs2028 5 rfl).trans (sl_hit hN rfl)
     have s2028_6 := (hbs2028 6 rfl).trans (sl_hit hN rfl)
     have s2028_62 : Sl a2028 62 (ptr p 0) := (hph2028 1 _ 62 rfl rfl).2 rfl
     have s2028_79 : Sl a2028 79 v2015 := (Option.some.inj ((hph2028 18 _ 79 rfl rfl).1 rfl)).symm
     refine split_end ?_
     refine from_seq (tl := [_, _, _]) (by decide) (by kernel_rfl) rfl ?_
     refine op_nil (ev_base hN2028 rfl s2028_62) ?_
     refine op_field fld115_2 (ev_hit hN2028 rfl) ?_
     have hx_old := hx
     refine op_store (vs := [v2015]) (cs' := [(Value.slice none 0 0), v1997, v2015]) size113 (ev_hit hN2028 rfl) (ev_base hN2028 rfl s2028_79) hO2015.cl rfl (by simp only [List.all_cons, List.all_nil, Bool.true_and, Bool.and_true, hO2015.one]; try rfl) hx (Nat.le_of_ble_eq_true rfl) rfl ?_
     intro w2031 hx E2032
     have z_w2031 := E2032.size
     have ks : ∀ x9 ∈ K, Own w2031 0 5 1 x9.1 x9.2.length (x9.2.map u8v) := fun x9 hx9 => (ks x9 hx9).keepX hx_old E2032 (by decide)
     have hk := hk.keepX hx_old E2032 (by decide)
     have hrest := hrest.keepG (Gr.of E2032) (Dj.one djpG) (NoK.ofBx hx_old (by decide))
     have hB1946 := hB1946.keep E2032 (fun hh => hB1946.ne hx_old (by decide) (Option.some.inj hh))
     have hT1962 := hT1962.keepG (Gr.of E2032) (Dj.one dj1971) (NoK.ofBx hx_old (by decide))
     have hT2_1962 := hT2_1962.keepG (Gr.of E2032) (Dj.one dj1977) (NoK.ofBx hx_old (by decide))
     have hu1962 := hu1962.keepX hx_old E2032 (by decide)
     have hB1991 := hB1991.keep E2032 (fun hh => hB1991.ne hx_old (by decide) (Option.some.inj hh))
     have hO1997 := hO1997.keepX hx_old E2032 (by decide)
     have hB2009 := hB2009.keep E2032 (fun hh => hB2009.ne hx_old (by decide) (Option.some.inj hh))
     have hO2015 := hO2015.keepX hx_old E2032 (by decide)
     have hb := hb.stepB E2032 hNd.wp
     refine reg_nil ?_
     refine hK1949 _ _ ?_
     refine seq_any fun K2033 hK2033 => ?_
     refine one_reg ?_
     have hl1 : (K.insertIdx (way (K.map Prod.snd) k) (u1962, y1962)).length = K.length + 1 := by rw [List.length_insertIdx, if_pos hwl]
     have hl2 : (P.insertIdx (((way (K.map Prod.snd) k)) + 1) q1962).length = P.length + 1 := by rw [List.length_insertIdx, if_pos (by omega)]
     have ks2034 : ∀ x9 ∈ (K.insertIdx (way (K.map Prod.snd) k) (u1962, y1962)), Own w2031 0 5 1 x9.1 x9.2.length (x9.2.map u8v) := kks_ins ks hu1962 hwl
     refine op_move (ev_base hN2028 rfl s2028_0) ?_
     rcases Bool.eq_false_or_eq_true (decide ((K.insertIdx (way (K.map Prod.snd) k) (u1962, y1962)).length ≤ 6)) with k86 | k86
     · -- 86T
      refine op_fn (vs := [(ptr p 0)]) ok86 ⟨(ev_hit hN2028 rfl), trivial⟩ (Ret.flip (halvesNsI hx hO1997 hO2015 (by first | omega | (simp only [List.length_insertIdx, List.length_set, List.length_drop, List.length_take]; omega) | (simp; omega)) (of_decide_eq_true k86))) ?_
      rintro _ _ ⟨rfl, rfl⟩
      refine op_move (ev_hit hN2028 rfl) ?_
      refine op_extract (ev_hit hN2028 rfl) rfl ?_
      refine op_extract (ev_hit hN2028 rfl) rfl ?_
      refine op_assign (ev_hit hN2028 rfl) ?_
      refine op_assign (ev_hit hN2028 rfl) ?_
      refine reg_nil ?_
      refine hK2033 _ _ ?_
      refine seq_any fun K2035 hK2035 => ?_
      refine one_reg ?_
      refine op_move (ev_base hN2028 rfl s2028_4) ?_
      refine op_move (ev_hit hN2028 rfl) ?_
      refine op_move (ev_hit hN2028 rfl) ?_
      refine op_assign (ev_hit hN2028 rfl) ?_
      refine op_assign (ev_hit hN2028 rfl) ?_
      refine op_assign (ev_hit hN2028 rfl) ?_
      refine reg_nil ?_
      refine hK2035 _ _ ?_
      refine wp_ret ?_
      refine retN (rs := [.tmp 4, .tmp 5, .tmp 6]) (vs := [(Value.bool (putT h k x c).1), (Value.slice none 0 0), (Value.pointer none)]) rfl hd2028 ⟨(ev_hit hN2028 rfl), ⟨(ev_hit hN2028 rfl), ⟨(ev_hit hN2028 rfl), trivial⟩⟩⟩ rfl ⟨_, rfl, ?_⟩
      -- path 55T 86T
      exact ⟨hb, _, _, by rw [(put_some (u := u1962) hc hr1962 hwl)]; rfl, out_node_small (K := (K.insertIdx (way (K.map Prod.snd) k) (u1962, y1962))) (ts := ((cs.set (way (K.map Prod.snd) k) (putT h k x c).2.1).insertIdx ((way (K.map Prod.snd) k) + 1) t2_1962)) ((congrArg Prod.snd (put_some (u := u1962) hc hr1962 hwl)).trans (halves_nsmall (by simpa using of_decide_eq_true k86))) hx hO1997 hO2015 ks2034 (kks_ins hNd.kr hur1962 hwl) (Kids.ins (i := (way (K.map Prod.snd) k) + 1) (Kids.back1 (i := (way (K.map Prod.snd) k)) (A := TreeR kI R w2031 h) hrest hPc hic hT1962 dj1975.symm) (by rw [List.length_set]; omega) hT2_1962 (fun k h1 h2 => h2.elim (hd1962.symm k h1) (dj1981.symm k h1))) (fun h9 => h9.elim (fun h8 => dj1977 h8) (fun h8 => h8.elim (fun h8 => dj1971 h8) (fun h8 => djpG h8))) (fun j hj h9 => h9.elim (fun h8 => dj2002.symm j hj h8) (fun h8 => h8.elim (fun h8 => dj2001.symm j hj h8) (fun h8 => dj2000.symm j hj h8))) (fun j hj h9 => h9.elim (fun h8 => dj2020.symm j hj h8) (fun h8 => h8.elim (fun h8 => dj2019.symm j hj h8) (fun h8 => dj2018.symm j hj h8))) (nodeW_in (fun _ => hNd.wp) hin2003 hin2021 (fun j hj h9 => h9.elim (fun h8 => hin1984 j hj h8) (fun h8 => h8.elim (fun h8 => hin1983 j hj h8) (fun h8 => (fun j _ q => hNd.wg j (hGs j q)) j hj h8))))⟩
     · -- 86F
      refine op_fn (vs := [(ptr p 0)]) ok86 ⟨(ev_hit hN2028 rfl), trivial⟩ (halvesNbI hx hO1997 hO2015 ks2034 (by first | omega | (simp only [List.length_insertIdx, List.length_set, List.length_drop, List.length_take]; omega) | (simp; omega)) (by have := of_decide_eq_false k86; omega) (by first | omega | (simp only [List.length_insertIdx, List.length_set, List.length_drop, List.length_take]; omega) | (simp; omega))) ?_
      rintro _ w2037 ⟨E2038, q2036, qk2036, qc2036, rfl, hx2036, oa2036, ob2036, lo2036, hB2036, oc2036, od2036⟩
      have ht2039 := hx.lt
      have ht2040 := hO1997.lt
      have ht2041 := hO2015.lt
      have ht2042 := hrest.lt
      have ht2043 := hT1962.lt
      have ht2044 := hT2_1962.lt
      have E2038 := E2038.grown (row := some p) (fun k _ h => by rw [h])
      have hx_old := hx
      have z_w2037 := E2038.size
      have ks : ∀ x9 ∈ K, Own w2037 0 5 1 x9.1 x9.2.length (x9.2.map u8v) := fun x9 hx9 => (ks x9 hx9).keepX hx_old E2038 (by decide)
      have hk := hk.keepX hx_old E2038 (by decide)
      have hrest := hrest.keepG (Gr.of E2038) (Dj.one djpG) (NoK.ofBx hx_old (by decide))
      have hB1946 := hB1946.keep E2038 (fun hh => hB1946.ne hx_old (by decide) (Option.some.inj hh))
      have hT1962 := hT1962.keepG (Gr.of E2038) (Dj.one dj1971) (NoK.ofBx hx_old (by decide))
      have hT2_1962 := hT2_1962.keepG (Gr.of E2038) (Dj.one dj1977) (NoK.ofBx hx_old (by decide))
      have hu1962 := hu1962.keepX hx_old E2038 (by decide)
      have hB1991 := hB1991.keep E2038 (fun hh => hB1991.ne hx_old (by decide) (Option.some.inj hh))
      have hB2009 := hB2009.keep E2038 (fun hh => hB2009.ne hx_old (by decide) (Option.some.inj hh))
      have ks2034 : ∀ x9 ∈ (K.insertIdx (way (K.map Prod.snd) k) (u1962, y1962)), Own w2037 0 5 1 x9.1 x9.2.length (x9.2.map u8v) := fun x9 hx9 => (ks2034 x9 hx9).keepX hx_old E2038 (by decide)
      have hb := hb.stepB E2038 hNd.wp
      refine op_move (ev_hit hN2028 rfl) ?_
      refine op_extract (ev_hit hN2028 rfl) rfl ?_
      refine op_extract (ev_hit hN2028 rfl) rfl ?_
      refine op_assign (ev_hit hN2028 rfl) ?_
      refine op_assign (ev_hit hN2028 rfl) ?_
      refine reg_nil ?_
      refine hK2033 _ _ ?_
      refine seq_any fun K2045 hK2045 => ?_
      refine one_reg ?_
      refine op_move (ev_base hN2028 rfl s2028_4) ?_
      refine op_move (ev_hit hN2028 rfl) ?_
      refine op_move (ev_hit hN2028 rfl) ?_
      refine op_assign (ev_hit hN2028 rfl) ?_
      refine op_assign (ev_hit hN2028 rfl) ?_
      refine op_assign (ev_hit hN2028 rfl) ?_
      refine reg_nil ?_
      refine hK2045 _ _ ?_
      refine wp_ret ?_
      refine retN (rs := [.tmp 4, .tmp 5, .tmp 6]) (vs := [(Value.bool (putT h k x c).1), ((K.insertIdx (way (K.map Prod.snd) k) (u1962, y1962)).getD ((K.insertIdx (way (K.map Prod.snd) k) (u1962, y1962)).length / 2) default).1, (ptr q2036 0)]) rfl hd2028 ⟨(ev_hit hN2028 rfl), ⟨(ev_hit hN2028 rfl), ⟨(ev_hit hN2028 rfl), trivial⟩⟩⟩ rfl ⟨_, rfl, ?_⟩
      -- path 55T 86F
      exact ⟨hb, _, _, by rw [(put_some (u := u1962) hc hr1962 hwl)]; rfl, out_node_big (K := (K.insertIdx (way (K.map Prod.snd) k) (u1962, y1962))) (ts := ((cs.set (way (K.map Prod.snd) k) (putT h k x c).2.1).insertIdx ((way (K.map Prod.snd) k) + 1) t2_1962)) ((congrArg Prod.snd (put_some (u := u1962) hc hr1962 hwl)).trans (halves_nbig (by have := of_decide_eq_false k86; omega))) (by have := of_decide_eq_false k86; omega) hx2036 oa2036 ob2036 hB2036 oc2036 od2036 lo2036 (by omega) ks2034 (kks_ins hNd.kr hur1962 hwl) (Kids.ins (i := (way (K.map Prod.snd) k) + 1) (Kids.back1 (i := (way (K.map Prod.snd) k)) (A := TreeR kI R w2037 h) hrest hPc hic hT1962 dj1975.symm) (by rw [List.length_set]; omega) hT2_1962 (fun k h1 h2 => h2.elim (hd1962.symm k h1) (dj1981.symm k h1))) (fun h9 => h9.elim (fun h8 => dj1977 h8) (fun h8 => h8.elim (fun h8 => dj1971 h8) (fun h8 => djpG h8))) (fun j hj h9 => h9.elim (fun h8 => dj2002.symm j ((hiV_ob _ _).symm.trans hj) h8) (fun h8 => h8.elim (fun h8 => dj2001.symm j ((hiV_ob _ _).symm.trans hj) h8) (fun h8 => dj2000.symm j ((hiV_ob _ _).symm.trans hj) h8))) (fun j hj h9 => h9.elim (fun h8 => dj2020.symm j ((hiV_ob _ _).symm.trans hj) h8) (fun h8 => h8.elim (fun h8 => dj2019.symm j ((hiV_ob _ _).symm.trans hj) h8) (fun h8 => dj2018.symm j ((hiV_ob _ _).symm.trans hj) h8))) (nodeW_in (fun _ => hNd.wp) (inF_step (n := w.heap.size) (.inl (hiV_ob _ _)) (Nat.le_refl _) hin2003) (inF_step (n := w.heap.size) (.inl (hiV_ob _ _)) (Nat.le_refl _) hin2021) (fun j hj h9 => h9.elim (fun h8 => hin1984 j hj h8) (fun h8 => h8.elim (fun h8 => hin1983 j hj h8) (fun h8 => (fun j _ q => hNd.wg j (hGs j q)) j hj h8)))) (nodeW_lt ht2039 (fun j h9 => (ht2040 j ((hiV_ob _ _).symm.trans h9)).2) (fun j h9 => (ht2041 j ((hiV_ob _ _).symm.trans h9)).2) (fun j h9 => h9.elim (fun h8 => (ht2044 j h8).2) (fun h8 => h8.elim (fun h8 => (ht2043 j h8).2) (fun h8 => (ht2042 j h8).2))))⟩
    refine one_mem ?_
    intro w2046 E2046 _ a2046 hN2046 hbs2046 hdp2046 o_ ho_; obtain rfl := Option.some.inj ho_
    have z_w2046 := E2046.size
    have hx := hx.keep0 E2046
    have ok := ok.keep0 E2046
    have oc := oc.keep0 E2046
    have ks : ∀ x9 ∈ K, Own w2046 0 5 1 x9.1 x9.2.length (x9.2.map u8v) := fun x9 hx9 => (ks x9 hx9).keep0 E2046
    have hk := hk.keep0 E2046
    have hrest := hrest.keepG (Gr.of0 E2046 NoB) (fun _ _ h => h) (NoK.no _)
    have hB1946 := hB1946.keep0 E2046
    have hT1962 := hT1962.keepG (Gr.of0 E2046 NoB) (fun _ _ h => h) (NoK.no _)
    have hT2_1962 := hT2_1962.keepG (Gr.of0 E2046 NoB) (fun _ _ h => h) (NoK.no _)
    have hu1962 := hu1962.keep0 E2046
    have hB1991 := hB1991.keep0 E2046
    have hb := hb.step0 E2046
    have q2046_77 : Sl a2046 77 (ptr q1962 0) := (hdp2046 16 _ 77 (by kernel_rfl) rfl rfl).2 rfl
    refine op_bslice (e := 69) (pv := [(0, (ptr q1962 0))]) (cs := [(ptr q1962 0)]) ⟨rfl, (ev_base hN2046 rfl q2046_77), trivial⟩ (by kernel_rfl) ?_
    intro w2047 b2048 lo_b2048 hi_b2048 hB2050 E2049
    have dj2051 : ¬ G0 b2048 := fun hf => by have := (hrest.lt _ hf).2; omega
    have dj2052 : ¬ W1_1962 b2048 := fun hf => by have := (hT1962.lt _ hf).2; omega
    have dj2053 : ¬ W2_1962 b2048 := fun hf => by have := (hT2_1962.lt _ hf).2; omega
    have ne_b2048_cv : cv.ownBlock ≠ some b2048 := fun hh => by have := (oc.lt _ hh).2; omega
    have z_w2047 := E2049.size
    have hx := hx.keep0 E2049
    have ok := ok.keep0 E2049
    have oc := oc.keep0 E2049
    have ks : ∀ x9 ∈ K, Own w2047 0 5 1 x9.1 x9.2.length (x9.2.map u8v) := fun x9 hx9 => (ks x9 hx9).keep0 E2049
    have hk := hk.keep0 E2049
    have hrest := hrest.keepG (Gr.of0 E2049 NoB) (fun _ _ h => h) (NoK.no _)
    have hB1946 := hB1946.keep0 E2049
    have hT1962 := hT1962.keepG (Gr.of0 E2049 NoB) (fun _ _ h => h) (NoK.no _)
    have hT2_1962 := hT2_1962.keepG (Gr.of0 E2049 NoB) (fun _ _ h => h) (NoK.no _)
    have hu1962 := hu1962.keep0 E2049
    have hB1991 := hB1991.keep0 E2049
    have hb := hb.step0 E2049
    refine ktk_end (G := fun t9 w' => 21 ∈ t9 → (Bx w' p 115 [(Value.slice none 0 0), kv, cv])) (todo := [9, 17, 18, 21]) (i := 17) rfl (fun _ => hx) ?_
    refine ktk_step (rs := [9]) (by kernel_rfl) ?_
    refine one_mem ?_
    intro w2055 E2055 _ a2055 hN2055 hbs2055 hdp2055 o_ ho_; obtain rfl := Option.some.inj ho_
    have z_w2055 := E2055.size
    have hx := hx.keep0 E2055
    have ok := ok.keep0 E2055
    have oc := oc.keep0 E2055
    have ks : ∀ x9 ∈ K, Own w2055 0 5 1 x9.1 x9.2.length (x9.2.map u8v) := fun x9 hx9 => (ks x9 hx9).keep0 E2055
    have hk := hk.keep0 E2055
    have hrest := hrest.keepG (Gr.of0 E2055 NoB) (fun _ _ h => h) (NoK.no _)
    have hB1946 := hB1946.keep0 E2055
    have hT1962 := hT1962.keepG (Gr.of0 E2055 NoB) (fun _ _ h => h) (NoK.no _)
    have hT2_1962 := hT2_1962.keepG (Gr.of0 E2055 NoB) (fun _ _ h => h) (NoK.no _)
    have hu1962 := hu1962.keep0 E2055
    have hB1991 := hB1991.keep0 E2055
    have hB2050 := hB2050.keep0 E2055
    have hb := hb.step0 E2055
    have q2055_66 : Sl a2055 66 kv := (hdp2055 5 _ 66 (by kernel_rfl) rfl rfl).2 rfl
    have q2055_67 : Sl a2055 67 (Value.int .i64 (((way (K.map Prod.snd) k) : Nat) : Int)) := (hdp2055 6 _ 67 (by kernel_rfl) rfl rfl).2 rfl
    have q2055_69 : Sl a2055 69 (Value.slice (some ⟨b1989, 0, none⟩) 1 1) := (Option.some.inj ((hdp2055 8 _ 69 (by kernel_rfl) rfl rfl).1 rfl)).symm
    refine op_fn (vs := [kv, (Value.int .i64 (((way (K.map Prod.snd) k) : Nat) : Int)), (Value.slice (some ⟨b1989, 0, none⟩) 1 1)]) ok67 ⟨(ev_base hN2055 rfl q2055_66), ⟨(ev_base hN2055 rfl q2055_67), ⟨(ev_base hN2055 rfl q2055_69), trivial⟩⟩⟩ (InsK ok hB1991 (one_kd ks (fun _ h => h)) (by simp only [List.all_cons, List.all_nil, Bool.true_and, Bool.and_true, hu1962.one]; try rfl) (by first | omega | (simp only [List.length_insertIdx, List.length_set, List.length_drop, List.length_take]; omega) | (simp; omega)) (by first | omega | (simp only [List.length_insertIdx, List.length_set, List.length_drop, List.length_take]; omega) | (simp; omega)) ne_b1989_kv) ?_
    rintro v2056 w2057 ⟨E2058, hO2056, hm2056⟩
    have dj2059 : Dj G0 (Bl v2056) := Dj.step hm2056 (fun k hk => (hrest.lt k hk).2) djkG.symm
    have dj2060 : Dj W1_1962 (Bl v2056) := Dj.step hm2056 (fun k hk => (hT1962.lt k hk).2) dj1972.symm
    have dj2061 : Dj W2_1962 (Bl v2056) := Dj.step hm2056 (fun k hk => (hT2_1962.lt k hk).2) dj1978.symm
    have hin2062 := inF_step (n := w.heap.size) hm2056 (by omega) (fun k _ h => hNd.wk k h)
    have z_w2057 := E2058.size
    have hx := hx.keepO ok E2058 (by decide)
    have oc := oc.keepT ok E2058 (by decide)
    have ks : ∀ x9 ∈ K, Own w2057 0 5 1 x9.1 x9.2.length (x9.2.map u8v) := fun x9 hx9 => (ks x9 hx9).keepT ok E2058 (by decide)
    have hk := hk.keepT ok E2058 (by decide)
    have hrest := hrest.keepG (Gr.of E2058) djkG.symm (NoK.ofOwn ok (by decide))
    have hB1946 := hB1946.keepO ok E2058 (by decide)
    have hT1962 := hT1962.keepG (Gr.of E2058) dj1972.symm (NoK.ofOwn ok (by decide))
    have hT2_1962 := hT2_1962.keepG (Gr.of E2058) dj1978.symm (NoK.ofOwn ok (by decide))
    have hu1962 := hu1962.keepT ok E2058 (by decide)
    have hB1991 := hB1991.keep E2058 (fun hh => ne_b1989_kv hh.symm)
    have hB2050 := hB2050.keepO ok E2058 (by decide)
    have hb := hb.stepL E2058 (fun k _ h => hNd.wk k h)
    have hO2056 : Own w2057 0 27 1 v2056 (K.insertIdx (way (K.map Prod.snd) k) (u1962, y1962)).length ((K.insertIdx (way (K.map Prod.snd) k) (u1962, y1962)).flatMap cK) := hO2056.cast (by rw [List.length_insertIdx, if_pos (by first | omega | (simp only [List.length_insertIdx, List.length_set, List.length_drop, List.length_take]; omega) | (simp; omega))]) (flat_ins cK_len (u1962, y1962) (by first | omega | (simp only [List.length_insertIdx, List.length_set, List.length_drop, List.length_take]; omega) | (simp; omega)))
    refine ktk_end (G := fun t9 w' => 21 ∈ t9 → (Bx w' p 115 [(Value.slice none 0 0), kv, cv])) (todo := [9, 18, 21]) (i := 9) rfl (fun _ => hx) ?_
    refine ktk_step (rs := [18]) (by kernel_rfl) ?_
    refine one_mem ?_
    intro w2064 E2064 _ a2064 hN2064 hbs2064 hdp2064 o_ ho_; obtain rfl := Option.some.inj ho_
    have z_w2064 := E2064.size
    have hx := hx.keep0 E2064
    have oc := oc.keep0 E2064
    have ks : ∀ x9 ∈ K, Own w2064 0 5 1 x9.1 x9.2.length (x9.2.map u8v) := fun x9 hx9 => (ks x9 hx9).keep0 E2064
    have hk := hk.keep0 E2064
    have hrest := hrest.keepG (Gr.of0 E2064 NoB) (fun _ _ h => h) (NoK.no _)
    have hB1946 := hB1946.keep0 E2064
    have hT1962 := hT1962.keepG (Gr.of0 E2064 NoB) (fun _ _ h => h) (NoK.no _)
    have hT2_1962 := hT2_1962.keepG (Gr.of0 E2064 NoB) (fun _ _ h => h) (NoK.no _)
    have hu1962 := hu1962.keep0 E2064
    have hB1991 := hB1991.keep0 E2064
    have hB2050 := hB2050.keep0 E2064
    have hO2056 := hO2056.keep0 E2064
    have hb := hb.step0 E2064
    have q2064_74 : Sl a2064 74 cv := (hdp2064 13 _ 74 (by kernel_rfl) rfl rfl).2 rfl
    have q2064_76 : Sl a2064 76 (Value.int .i64 ((((way (K.map Prod.snd) k) : Nat) : Int) + 1)) := (hdp2064 15 _ 76 (by kernel_rfl) rfl rfl).2 rfl
    have q2064_78 : Sl a2064 78 (Value.slice (some ⟨b2048, 0, none⟩) 1 1) := (Option.some.inj ((hdp2064 17 _ 78 (by kernel_rfl) rfl rfl).1 rfl)).symm
    refine op_fn (vs := [cv, (Value.int .i64 ((((way (K.map Prod.snd) k) : Nat) : Int) + 1)), (Value.slice (some ⟨b2048, 0, none⟩) 1 1)]) ok85 ⟨(ev_base hN2064 rfl q2064_74), ⟨(ev_base hN2064 rfl q2064_76), ⟨(ev_base hN2064 rfl q2064_78), trivial⟩⟩⟩ (InsNI oc hB2050 (one_pn _) rfl (by first | omega | (simp only [List.length_insertIdx, List.length_set, List.length_drop, List.length_take]; omega) | (simp; omega)) (by first | omega | (simp only [List.length_insertIdx, List.length_set, List.length_drop, List.length_take]; omega) | (simp; omega)) ne_b2048_cv) ?_
    rintro v2065 w2066 ⟨E2067, hO2065, hm2065⟩
    have dj2068 : Dj G0 (Bl v2065) := Dj.step hm2065 (fun k hk => (hrest.lt k hk).2) djcG.symm
    have dj2069 : Dj W1_1962 (Bl v2065) := Dj.step hm2065 (fun k hk => (hT1962.lt k hk).2) dj1973.symm
    have dj2070 : Dj W2_1962 (Bl v2065) := Dj.step hm2065 (fun k hk => (hT2_1962.lt k hk).2) dj1979.symm
    have hin2071 := inF_step (n := w.heap.size) hm2065 (by omega) (fun k _ h => hNd.wc k h)
    have z_w2066 := E2067.size
    have hx := hx.keepO oc E2067 (by decide)
    have ks : ∀ x9 ∈ K, Own w2066 0 5 1 x9.1 x9.2.length (x9.2.map u8v) := fun x9 hx9 => (ks x9 hx9).keepT oc E2067 (by decide)
    have hk := hk.keepT oc E2067 (by decide)
    have hrest := hrest.keepG (Gr.of E2067) djcG.symm (NoK.ofOwn oc (by decide))
    have hB1946 := hB1946.keepO oc E2067 (by decide)
    have hT1962 := hT1962.keepG (Gr.of E2067) dj1973.symm (NoK.ofOwn oc (by decide))
    have hT2_1962 := hT2_1962.keepG (Gr.of E2067) dj1979.symm (NoK.ofOwn oc (by decide))
    have hu1962 := hu1962.keepT oc E2067 (by decide)
    have hB1991 := hB1991.keepO oc E2067 (by decide)
    have hB2050 := hB2050.keep E2067 (fun hh => ne_b2048_cv hh.symm)
    have hO2056 := hO2056.keepT oc E2067 (by decide)
    have hb := hb.stepL E2067 (fun k _ h => hNd.wc k h)
    have hO2065 : Own w2066 0 69 1 v2065 (P.insertIdx (((way (K.map Prod.snd) k)) + 1) q1962).length ((P.insertIdx (((way (K.map Prod.snd) k)) + 1) q1962).flatMap cN) := hO2065.cast (by rw [List.length_insertIdx, if_pos (by first | omega | (simp only [List.length_insertIdx, List.length_set, List.length_drop, List.length_take]; omega) | (simp; omega))]) (flat_ins cN_len q1962 (by first | omega | (simp only [List.length_insertIdx, List.length_set, List.length_drop, List.length_take]; omega) | (simp; omega)))
    refine ktk_end (G := fun t9 w' => 21 ∈ t9 → (Bx w' p 115 [(Value.slice none 0 0), kv, cv])) (todo := [18, 21]) (i := 18) rfl (fun _ => hx) ?_
    refine ktk_step (rs := [21]) (by kernel_rfl) ?_
    refine one_mem ?_
    intro w2073 E2073 _ a2073 hN2073 hbs2073 hdp2073 o_ ho_; obtain rfl := Option.some.inj ho_
    have z_w2073 := E2073.size
    have hx := hx.keep0 E2073
    have ks : ∀ x9 ∈ K, Own w2073 0 5 1 x9.1 x9.2.length (x9.2.map u8v) := fun x9 hx9 => (ks x9 hx9).keep0 E2073
    have hk := hk.keep0 E2073
    have hrest := hrest.keepG (Gr.of0 E2073 NoB) (fun _ _ h => h) (NoK.no _)
    have hB1946 := hB1946.keep0 E2073
    have hT1962 := hT1962.keepG (Gr.of0 E2073 NoB) (fun _ _ h => h) (NoK.no _)
    have hT2_1962 := hT2_1962.keepG (Gr.of0 E2073 NoB) (fun _ _ h => h) (NoK.no _)
    have hu1962 := hu1962.keep0 E2073
    have hB1991 := hB1991.keep0 E2073
    have hB2050 := hB2050.keep0 E2073
    have hO2056 := hO2056.keep0 E2073
    have hO2065 := hO2065.keep0 E2073
    have hb := hb.step0 E2073
    have q2073_81 : Sl a2073 81 (ptr p 1) := (hdp2073 20 _ 81 (by kernel_rfl) rfl rfl).2 rfl
    have q2073_70 : Sl a2073 70 v2056 := (Option.some.inj ((hdp2073 9 _ 70 (by kernel_rfl) rfl rfl).1 rfl)).symm
    have hx_old := hx
    refine op_store (vs := [v2056]) (cs' := [(Value.slice none 0 0), v2056, cv]) size90 (ev_base hN2073 rfl q2073_81) (ev_base hN2073 rfl q2073_70) hO2056.cl rfl (by simp only [List.all_cons, List.all_nil, Bool.true_and, Bool.and_true, hO2056.one]; try rfl) hx (Nat.le_of_ble_eq_true rfl) rfl ?_
    intro w2076 hx E2077
    have z_w2076 := E2077.size
    have ks : ∀ x9 ∈ K, Own w2076 0 5 1 x9.1 x9.2.length (x9.2.map u8v) := fun x9 hx9 => (ks x9 hx9).keepX hx_old E2077 (by decide)
    have hk := hk.keepX hx_old E2077 (by decide)
    have hrest := hrest.keepG (Gr.of E2077) (Dj.one djpG) (NoK.ofBx hx_old (by decide))
    have hB1946 := hB1946.keep E2077 (fun hh => hB1946.ne hx_old (by decide) (Option.some.inj hh))
    have hT1962 := hT1962.keepG (Gr.of E2077) (Dj.one dj1971) (NoK.ofBx hx_old (by decide))
    have hT2_1962 := hT2_1962.keepG (Gr.of E2077) (Dj.one dj1977) (NoK.ofBx hx_old (by decide))
    have hu1962 := hu1962.keepX hx_old E2077 (by decide)
    have hB1991 := hB1991.keep E2077 (fun hh => hB1991.ne hx_old (by decide) (Option.some.inj hh))
    have hB2050 := hB2050.keep E2077 (fun hh => hB2050.ne hx_old (by decide) (Option.some.inj hh))
    have hO2056 := hO2056.keepX hx_old E2077 (by decide)
    have hO2065 := hO2065.keepX hx_old E2077 (by decide)
    have hb := hb.stepB E2077 hNd.wp
    refine ktk_end0 (G := fun t9 w' => 21 ∈ t9 → (Bx w' p 115 [(Value.slice none 0 0), kv, cv])) (todo := [21]) (i := 21) rfl (fun h => absurd h (by decide)) ?_
    intro w2078 E2078 a2078 hN2078 hd2078 hbs2078 hph2078
    have hd2078 := hd2078.trans ((by simp only [putsL_defers] : _ = _).trans hd)
    have z_w2078 := E2078.size
    have ks : ∀ x9 ∈ K, Own w2078 0 5 1 x9.1 x9.2.length (x9.2.map u8v) := fun x9 hx9 => (ks x9 hx9).keep0 E2078
    have hk := hk.keep0 E2078
    have hrest := hrest.keepG (Gr.of0 E2078 NoB) (fun _ _ h => h) (NoK.no _)
    have hB1946 := hB1946.keep0 E2078
    have hT1962 := hT1962.keepG (Gr.of0 E2078 NoB) (fun _ _ h => h) (NoK.no _)
    have hT2_1962 := hT2_1962.keepG (Gr.of0 E2078 NoB) (fun _ _ h => h) (NoK.no _)
    have hu1962 := hu1962.keep0 E2078
    have hB1991 := hB1991.keep0 E2078
    have hB2050 := hB2050.keep0 E2078
    have hO2056 := hO2056.keep0 E2078
    have hO2065 := hO2065.keep0 E2078
    have hx := hx.keep0 E2078
    have hb := hb.step0 E2078
    have s2078_0 := (hbs2078 0 rfl).trans (sl_base hN rfl s0)
    have s2078_4 := (hbs2078 4 rfl).trans (sl_hit hN rfl)
    have s2078_5 := (hbs2078 5 rfl).trans (sl_hit hN rfl)
    have s2078_6 := (hbs2078 6 rfl).trans (sl_hit hN rfl)
    have s2078_62 : Sl a2078 62 (ptr p 0) := (hph2078 1 _ 62 rfl rfl).2 rfl
    have s2078_79 : Sl a2078 79 v2065 := (Option.some.inj ((hph2078 18 _ 79 rfl rfl).1 rfl)).symm
    refine split_end ?_
    refine from_seq (tl := [_, _, _]) (by decide) (by kernel_rfl) rfl ?_
    refine op_nil (ev_base hN2078 rfl s2078_62) ?_
    refine op_field fld115_2 (ev_hit hN2078 rfl) ?_
    have hx_old := hx
    refine op_store (vs := [v2065]) (cs' := [(Value.slice none 0 0), v2056, v2065]) size113 (ev_hit hN2078 rfl) (ev_base hN2078 rfl s2078_79) hO2065.cl rfl (by simp only [List.all_cons, List.all_nil, Bool.true_and, Bool.and_true, hO2065.one]; try rfl) hx (Nat.le_of_ble_eq_true rfl) rfl ?_
    intro w2081 hx E2082
    have z_w2081 := E2082.size
    have ks : ∀ x9 ∈ K, Own w2081 0 5 1 x9.1 x9.2.length (x9.2.map u8v) := fun x9 hx9 => (ks x9 hx9).keepX hx_old E2082 (by decide)
    have hk := hk.keepX hx_old E2082 (by decide)
    have hrest := hrest.keepG (Gr.of E2082) (Dj.one djpG) (NoK.ofBx hx_old (by decide))
    have hB1946 := hB1946.keep E2082 (fun hh => hB1946.ne hx_old (by decide) (Option.some.inj hh))
    have hT1962 := hT1962.keepG (Gr.of E2082) (Dj.one dj1971) (NoK.ofBx hx_old (by decide))
    have hT2_1962 := hT2_1962.keepG (Gr.of E2082) (Dj.one dj1977) (NoK.ofBx hx_old (by decide))
    have hu1962 := hu1962.keepX hx_old E2082 (by decide)
    have hB1991 := hB1991.keep E2082 (fun hh => hB1991.ne hx_old (by decide) (Option.some.inj hh))
    have hB2050 := hB2050.keep E2082 (fun hh => hB2050.ne hx_old (by decide) (Option.some.inj hh))
    have hO2056 := hO2056.keepX hx_old E2082 (by decide)
    have hO2065 := hO2065.keepX hx_old E2082 (by decide)
    have hb := hb.stepB E2082 hNd.wp
    refine reg_nil ?_
    refine hK1949 _ _ ?_
    refine seq_any fun K2083 hK2083 => ?_
    refine one_reg ?_
    have hl1 : (K.insertIdx (way (K.map Prod.snd) k) (u1962, y1962)).length = K.length + 1 := by rw [List.length_insertIdx, if_pos hwl]
    have hl2 : (P.insertIdx (((way (K.map Prod.snd) k)) + 1) q1962).length = P.length + 1 := by rw [List.length_insertIdx, if_pos (by omega)]
    have ks2084 : ∀ x9 ∈ (K.insertIdx (way (K.map Prod.snd) k) (u1962, y1962)), Own w2081 0 5 1 x9.1 x9.2.length (x9.2.map u8v) := kks_ins ks hu1962 hwl
    refine op_move (ev_base hN2078 rfl s2078_0) ?_
    rcases Bool.eq_false_or_eq_true (decide ((K.insertIdx (way (K.map Prod.snd) k) (u1962, y1962)).length ≤ 6)) with k86 | k86
    · -- 86T
     refine op_fn (vs := [(ptr p 0)]) ok86 ⟨(ev_hit hN2078 rfl), trivial⟩ (Ret.flip (halvesNsI hx hO2056 hO2065 (by first | omega | (simp only [List.length_insertIdx, List.length_set, List.length_drop, List.length_take]; omega) | (simp; omega)) (of_decide_eq_true k86))) ?_
     rintro _ _ ⟨rfl, rfl⟩
     refine op_move (ev_hit hN2078 rfl) ?_
     refine op_extract (ev_hit hN2078 rfl) rfl ?_
     refine op_extract (ev_hit hN2078 rfl) rfl ?_
     refine op_assign (ev_hit hN2078 rfl) ?_
     refine op_assign (ev_hit hN2078 rfl) ?_
     refine reg_nil ?_
     refine hK2083 _ _ ?_
     refine seq_any fun K2085 hK2085 => ?_
     refine one_reg ?_
     refine op_move (ev_base hN2078 rfl s2078_4) ?_
     refine op_move (ev_hit hN2078 rfl) ?_
     refine op_move (ev_hit hN2078 rfl) ?_
     refine op_assign (ev_hit hN2078 rfl) ?_
     refine op_assign (ev_hit hN2078 rfl) ?_
     refine op_assign (ev_hit hN2078 rfl) ?_
     refine reg_nil ?_
     refine hK2085 _ _ ?_
     refine wp_ret ?_
     refine retN (rs := [.tmp 4, .tmp 5, .tmp 6]) (vs := [(Value.bool (putT h k x c).1), (Value.slice none 0 0), (Value.pointer none)]) rfl hd2078 ⟨(ev_hit hN2078 rfl), ⟨(ev_hit hN2078 rfl), ⟨(ev_hit hN2078 rfl), trivial⟩⟩⟩ rfl ⟨_, rfl, ?_⟩
     -- path 55T 86T
     exact ⟨hb, _, _, by rw [(put_some (u := u1962) hc hr1962 hwl)]; rfl, out_node_small (K := (K.insertIdx (way (K.map Prod.snd) k) (u1962, y1962))) (ts := ((cs.set (way (K.map Prod.snd) k) (putT h k x c).2.1).insertIdx ((way (K.map Prod.snd) k) + 1) t2_1962)) ((congrArg Prod.snd (put_some (u := u1962) hc hr1962 hwl)).trans (halves_nsmall (by simpa using of_decide_eq_true k86))) hx hO2056 hO2065 ks2084 (kks_ins hNd.kr hur1962 hwl) (Kids.ins (i := (way (K.map Prod.snd) k) + 1) (Kids.back1 (i := (way (K.map Prod.snd) k)) (A := TreeR kI R w2081 h) hrest hPc hic hT1962 dj1975.symm) (by rw [List.length_set]; omega) hT2_1962 (fun k h1 h2 => h2.elim (hd1962.symm k h1) (dj1981.symm k h1))) (fun h9 => h9.elim (fun h8 => dj1977 h8) (fun h8 => h8.elim (fun h8 => dj1971 h8) (fun h8 => djpG h8))) (fun j hj h9 => h9.elim (fun h8 => dj2061.symm j hj h8) (fun h8 => h8.elim (fun h8 => dj2060.symm j hj h8) (fun h8 => dj2059.symm j hj h8))) (fun j hj h9 => h9.elim (fun h8 => dj2070.symm j hj h8) (fun h8 => h8.elim (fun h8 => dj2069.symm j hj h8) (fun h8 => dj2068.symm j hj h8))) (nodeW_in (fun _ => hNd.wp) hin2062 hin2071 (fun j hj h9 => h9.elim (fun h8 => hin1984 j hj h8) (fun h8 => h8.elim (fun h8 => hin1983 j hj h8) (fun h8 => (fun j _ q => hNd.wg j (hGs j q)) j hj h8))))⟩
    · -- 86F
     refine op_fn (vs := [(ptr p 0)]) ok86 ⟨(ev_hit hN2078 rfl), trivial⟩ (halvesNbI hx hO2056 hO2065 ks2084 (by first | omega | (simp only [List.length_insertIdx, List.length_set, List.length_drop, List.length_take]; omega) | (simp; omega)) (by have := of_decide_eq_false k86; omega) (by first | omega | (simp only [List.length_insertIdx, List.length_set, List.length_drop, List.length_take]; omega) | (simp; omega))) ?_
     rintro _ w2087 ⟨E2088, q2086, qk2086, qc2086, rfl, hx2086, oa2086, ob2086, lo2086, hB2086, oc2086, od2086⟩
     have ht2089 := hx.lt
     have ht2090 := hO2056.lt
     have ht2091 := hO2065.lt
     have ht2092 := hrest.lt
     have ht2093 := hT1962.lt
     have ht2094 := hT2_1962.lt
     have E2088 := E2088.grown (row := some p) (fun k _ h => by rw [h])
     have hx_old := hx
     have z_w2087 := E2088.size
     have ks : ∀ x9 ∈ K, Own w2087 0 5 1 x9.1 x9.2.length (x9.2.map u8v) := fun x9 hx9 => (ks x9 hx9).keepX hx_old E2088 (by decide)
     have hk := hk.keepX hx_old E2088 (by decide)
     have hrest := hrest.keepG (Gr.of E2088) (Dj.one djpG) (NoK.ofBx hx_old (by decide))
     have hB1946 := hB1946.keep E2088 (fun hh => hB1946.ne hx_old (by decide) (Option.some.inj hh))
     have hT1962 := hT1962.keepG (Gr.of E2088) (Dj.one dj1971) (NoK.ofBx hx_old (by decide))
     have hT2_1962 := hT2_1962.keepG (Gr.of E2088) (Dj.one dj1977) (NoK.ofBx hx_old (by decide))
     have hu1962 := hu1962.keepX hx_old E2088 (by decide)
     have hB1991 := hB1991.keep E2088 (fun hh => hB1991.ne hx_old (by decide) (Option.some.inj hh))
     have hB2050 := hB2050.keep E2088 (fun hh => hB2050.ne hx_old (by decide) (Option.some.inj hh))
     have ks2084 : ∀ x9 ∈ (K.insertIdx (way (K.map Prod.snd) k) (u1962, y1962)), Own w2087 0 5 1 x9.1 x9.2.length (x9.2.map u8v) := fun x9 hx9 => (ks2084 x9 hx9).keepX hx_old E2088 (by decide)
     have hb := hb.stepB E2088 hNd.wp
     refine op_move (ev_hit hN2078 rfl) ?_
     refine op_extract (ev_hit hN2078 rfl) rfl ?_
     refine op_extract (ev_hit hN2078 rfl) rfl ?_
     refine op_assign (ev_hit hN2078 rfl) ?_
     refine op_assign (ev_hit hN2078 rfl) ?_
     refine reg_nil ?_
     refine hK2083 _ _ ?_
     refine seq_any fun K2095 hK2095 => ?_
     refine one_reg ?_
     refine op_move (ev_base hN2078 rfl s2078_4) ?_
     refine op_move (ev_hit hN2078 rfl) ?_
     refine op_move (ev_hit hN2078 rfl) ?_
     refine op_assign (ev_hit hN2078 rfl) ?_
     refine op_assign (ev_hit hN2078 rfl) ?_
     refine op_assign (ev_hit hN2078 rfl) ?_
     refine reg_nil ?_
     refine hK2095 _ _ ?_
     refine wp_ret ?_
     refine retN (rs := [.tmp 4, .tmp 5, .tmp 6]) (vs := [(Value.bool (putT h k x c).1), ((K.insertIdx (way (K.map Prod.snd) k) (u1962, y1962)).getD ((K.insertIdx (way (K.map Prod.snd) k) (u1962, y1962)).length / 2) default).1, (ptr q2086 0)]) rfl hd2078 ⟨(ev_hit hN2078 rfl), ⟨(ev_hit hN2078 rfl), ⟨(ev_hit hN2078 rfl), trivial⟩⟩⟩ rfl ⟨_, rfl, ?_⟩
     -- path 55T 86F
     exact ⟨hb, _, _, by rw [(put_some (u := u1962) hc hr1962 hwl)]; rfl, out_node_big (K := (K.insertIdx (way (K.map Prod.snd) k) (u1962, y1962))) (ts := ((cs.set (way (K.map Prod.snd) k) (putT h k x c).2.1).insertIdx ((way (K.map Prod.snd) k) + 1) t2_1962)) ((congrArg Prod.snd (put_some (u := u1962) hc hr1962 hwl)).trans (halves_nbig (by have := of_decide_eq_false k86; omega))) (by have := of_decide_eq_false k86; omega) hx2086 oa2086 ob2086 hB2086 oc2086 od2086 lo2086 (by omega) ks2084 (kks_ins hNd.kr hur1962 hwl) (Kids.ins (i := (way (K.map Prod.snd) k) + 1) (Kids.back1 (i := (way (K.map Prod.snd) k)) (A := TreeR kI R w2087 h) hrest hPc hic hT1962 dj1975.symm) (by rw [List.length_set]; omega) hT2_1962 (fun k h1 h2 => h2.elim (hd1962.symm k h1) (dj1981.symm k h1))) (fun h9 => h9.elim (fun h8 => dj1977 h8) (fun h8 => h8.elim (fun h8 => dj1971 h8) (fun h8 => djpG h8))) (fun j hj h9 => h9.elim (fun h8 => dj2061.symm j ((hiV_ob _ _).symm.trans hj) h8) (fun h8 => h8.elim (fun h8 => dj2060.symm j ((hiV_ob _ _).symm.trans hj) h8) (fun h8 => dj2059.symm j ((hiV_ob _ _).symm.trans hj) h8))) (fun j hj h9 => h9.elim (fun h8 => dj2070.symm j ((hiV_ob _ _).symm.trans hj) h8) (fun h8 => h8.elim (fun h8 => dj2069.symm j ((hiV_ob _ _).symm.trans hj) h8) (fun h8 => dj2068.symm j ((hiV_ob _ _).symm.trans hj) h8))) (nodeW_in (fun _ => hNd.wp) (inF_step (n := w.heap.size) (.inl (hiV_ob _ _)) (Nat.le_refl _) hin2062) (inF_step (n := w.heap.size) (.inl (hiV_ob _ _)) (Nat.le_refl _) hin2071) (fun j hj h9 => h9.elim (fun h8 => hin1984 j hj h8) (fun h8 => h8.elim (fun h8 => hin1983 j hj h8) (fun h8 => (fun j _ q => hNd.wg j (hGs j q)) j hj h8)))) (nodeW_lt ht2089 (fun j h9 => (ht2090 j ((hiV_ob _ _).symm.trans h9)).2) (fun j h9 => (ht2091 j ((hiV_ob _ _).symm.trans h9)).2) (fun j h9 => h9.elim (fun h8 => (ht2094 j h8).2) (fun h8 => h8.elim (fun h8 => (ht2093 j h8).2) (fun h8 => (ht2092 j h8).2))))⟩
   refine one_mem ?_
   intro w2096 E2096 _ a2096 hN2096 hbs2096 hdp2096 o_ ho_; obtain rfl := Option.some.inj ho_
   have z_w2096 := E2096.size
   have hx := hx.keep0 E2096
   have ok := ok.keep0 E2096
   have oc := oc.keep0 E2096
   have ks : ∀ x9 ∈ K, Own w2096 0 5 1 x9.1 x9.2.length (x9.2.map u8v) := fun x9 hx9 => (ks x9 hx9).keep0 E2096
   have hk := hk.keep0 E2096
   have hrest := hrest.keepG (Gr.of0 E2096 NoB) (fun _ _ h => h) (NoK.no _)
   have hB1946 := hB1946.keep0 E2096
   have hT1962 := hT1962.keepG (Gr.of0 E2096 NoB) (fun _ _ h => h) (NoK.no _)
   have hT2_1962 := hT2_1962.keepG (Gr.of0 E2096 NoB) (fun _ _ h => h) (NoK.no _)
   have hu1962 := hu1962.keep0 E2096
   have hb := hb.step0 E2096
   have q2096_77 : Sl a2096 77 (ptr q1962 0) := (hdp2096 16 _ 77 (by kernel_rfl) rfl rfl).2 rfl
   refine op_bslice (e := 69) (pv := [(0, (ptr q1962 0))]) (cs := [(ptr q1962 0)]) ⟨rfl, (ev_base hN2096 rfl q2096_77), trivial⟩ (by kernel_rfl) ?_
   intro w2097 b2098 lo_b2098 hi_b2098 hB2100 E2099
   have dj2101 : ¬ G0 b2098 := fun hf => by have := (hrest.lt _ hf).2; omega
   have dj2102 : ¬ W1_1962 b2098 := fun hf => by have := (hT1962.lt _ hf).2; omega
   have dj2103 : ¬ W2_1962 b2098 := fun hf => by have := (hT2_1962.lt _ hf).2; omega
   have ne_b2098_cv : cv.ownBlock ≠ some b2098 := fun hh => by have := (oc.lt _ hh).2; omega
   have z_w2097 := E2099.size
   have hx := hx.keep0 E2099
   have ok := ok.keep0 E2099
   have oc := oc.keep0 E2099
   have ks : ∀ x9 ∈ K, Own w2097 0 5 1 x9.1 x9.2.length (x9.2.map u8v) := fun x9 hx9 => (ks x9 hx9).keep0 E2099
   have hk := hk.keep0 E2099
   have hrest := hrest.keepG (Gr.of0 E2099 NoB) (fun _ _ h => h) (NoK.no _)
   have hB1946 := hB1946.keep0 E2099
   have hT1962 := hT1962.keepG (Gr.of0 E2099 NoB) (fun _ _ h => h) (NoK.no _)
   have hT2_1962 := hT2_1962.keepG (Gr.of0 E2099 NoB) (fun _ _ h => h) (NoK.no _)
   have hu1962 := hu1962.keep0 E2099
   have hb := hb.step0 E2099
   refine ktk_end (G := fun t9 w' => 21 ∈ t9 → (Bx w' p 115 [(Value.slice none 0 0), kv, cv])) (todo := [8, 9, 17, 18, 21]) (i := 17) rfl (fun _ => hx) ?_
   refine ktk_step (rs := [8]) (by kernel_rfl) ?_
   refine one_mem ?_
   intro w2105 E2105 _ a2105 hN2105 hbs2105 hdp2105 o_ ho_; obtain rfl := Option.some.inj ho_
   have z_w2105 := E2105.size
   have hx := hx.keep0 E2105
   have ok := ok.keep0 E2105
   have oc := oc.keep0 E2105
   have ks : ∀ x9 ∈ K, Own w2105 0 5 1 x9.1 x9.2.length (x9.2.map u8v) := fun x9 hx9 => (ks x9 hx9).keep0 E2105
   have hk := hk.keep0 E2105
   have hrest := hrest.keepG (Gr.of0 E2105 NoB) (fun _ _ h => h) (NoK.no _)
   have hB1946 := hB1946.keep0 E2105
   have hT1962 := hT1962.keepG (Gr.of0 E2105 NoB) (fun _ _ h => h) (NoK.no _)
   have hT2_1962 := hT2_1962.keepG (Gr.of0 E2105 NoB) (fun _ _ h => h) (NoK.no _)
   have hu1962 := hu1962.keep0 E2105
   have hB2100 := hB2100.keep0 E2105
   have hb := hb.step0 E2105
   have q2105_68 : Sl a2105 68 u1962 := (hdp2105 7 _ 68 (by kernel_rfl) rfl rfl).2 rfl
   refine op_bslice (e := 27) (pv := [(0, u1962)]) (cs := [u1962]) ⟨rfl, (ev_base hN2105 rfl q2105_68), trivial⟩ (by obtain ⟨_, _, _, rfl⟩ := hu1962.sl; kernel_rfl) ?_
   intro w2106 b2107 lo_b2107 hi_b2107 hB2109 E2108
   have dj2110 : ¬ G0 b2107 := fun hf => by have := (hrest.lt _ hf).2; omega
   have dj2111 : ¬ W1_1962 b2107 := fun hf => by have := (hT1962.lt _ hf).2; omega
   have dj2112 : ¬ W2_1962 b2107 := fun hf => by have := (hT2_1962.lt _ hf).2; omega
   have ne_b2107_kv : kv.ownBlock ≠ some b2107 := fun hh => by have := (ok.lt _ hh).2; omega
   have z_w2106 := E2108.size
   have hx := hx.keep0 E2108
   have ok := ok.keep0 E2108
   have oc := oc.keep0 E2108
   have ks : ∀ x9 ∈ K, Own w2106 0 5 1 x9.1 x9.2.length (x9.2.map u8v) := fun x9 hx9 => (ks x9 hx9).keep0 E2108
   have hk := hk.keep0 E2108
   have hrest := hrest.keepG (Gr.of0 E2108 NoB) (fun _ _ h => h) (NoK.no _)
   have hB1946 := hB1946.keep0 E2108
   have hT1962 := hT1962.keepG (Gr.of0 E2108 NoB) (fun _ _ h => h) (NoK.no _)
   have hT2_1962 := hT2_1962.keepG (Gr.of0 E2108 NoB) (fun _ _ h => h) (NoK.no _)
   have hu1962 := hu1962.keep0 E2108
   have hB2100 := hB2100.keep0 E2108
   have hb := hb.step0 E2108
   refine ktk_end (G := fun t9 w' => 21 ∈ t9 → (Bx w' p 115 [(Value.slice none 0 0), kv, cv])) (todo := [8, 9, 18, 21]) (i := 8) rfl (fun _ => hx) ?_
   refine ktk_step (rs := [9]) (by kernel_rfl) ?_
   refine one_mem ?_
   intro w2114 E2114 _ a2114 hN2114 hbs2114 hdp2114 o_ ho_; obtain rfl := Option.some.inj ho_
   have z_w2114 := E2114.size
   have hx := hx.keep0 E2114
   have ok := ok.keep0 E2114
   have oc := oc.keep0 E2114
   have ks : ∀ x9 ∈ K, Own w2114 0 5 1 x9.1 x9.2.length (x9.2.map u8v) := fun x9 hx9 => (ks x9 hx9).keep0 E2114
   have hk := hk.keep0 E2114
   have hrest := hrest.keepG (Gr.of0 E2114 NoB) (fun _ _ h => h) (NoK.no _)
   have hB1946 := hB1946.keep0 E2114
   have hT1962 := hT1962.keepG (Gr.of0 E2114 NoB) (fun _ _ h => h) (NoK.no _)
   have hT2_1962 := hT2_1962.keepG (Gr.of0 E2114 NoB) (fun _ _ h => h) (NoK.no _)
   have hu1962 := hu1962.keep0 E2114
   have hB2100 := hB2100.keep0 E2114
   have hB2109 := hB2109.keep0 E2114
   have hb := hb.step0 E2114
   have q2114_66 : Sl a2114 66 kv := (hdp2114 5 _ 66 (by kernel_rfl) rfl rfl).2 rfl
   have q2114_67 : Sl a2114 67 (Value.int .i64 (((way (K.map Prod.snd) k) : Nat) : Int)) := (hdp2114 6 _ 67 (by kernel_rfl) rfl rfl).2 rfl
   have q2114_69 : Sl a2114 69 (Value.slice (some ⟨b2107, 0, none⟩) 1 1) := (Option.some.inj ((hdp2114 8 _ 69 (by kernel_rfl) rfl rfl).1 rfl)).symm
   refine op_fn (vs := [kv, (Value.int .i64 (((way (K.map Prod.snd) k) : Nat) : Int)), (Value.slice (some ⟨b2107, 0, none⟩) 1 1)]) ok67 ⟨(ev_base hN2114 rfl q2114_66), ⟨(ev_base hN2114 rfl q2114_67), ⟨(ev_base hN2114 rfl q2114_69), trivial⟩⟩⟩ (InsK ok hB2109 (one_kd ks (fun _ h => h)) (by simp only [List.all_cons, List.all_nil, Bool.true_and, Bool.and_true, hu1962.one]; try rfl) (by first | omega | (simp only [List.length_insertIdx, List.length_set, List.length_drop, List.length_take]; omega) | (simp; omega)) (by first | omega | (simp only [List.length_insertIdx, List.length_set, List.length_drop, List.length_take]; omega) | (simp; omega)) ne_b2107_kv) ?_
   rintro v2115 w2116 ⟨E2117, hO2115, hm2115⟩
   have dj2118 : Dj G0 (Bl v2115) := Dj.step hm2115 (fun k hk => (hrest.lt k hk).2) djkG.symm
   have dj2119 : Dj W1_1962 (Bl v2115) := Dj.step hm2115 (fun k hk => (hT1962.lt k hk).2) dj1972.symm
   have dj2120 : Dj W2_1962 (Bl v2115) := Dj.step hm2115 (fun k hk => (hT2_1962.lt k hk).2) dj1978.symm
   have hin2121 := inF_step (n := w.heap.size) hm2115 (by omega) (fun k _ h => hNd.wk k h)
   have z_w2116 := E2117.size
   have hx := hx.keepO ok E2117 (by decide)
   have oc := oc.keepT ok E2117 (by decide)
   have ks : ∀ x9 ∈ K, Own w2116 0 5 1 x9.1 x9.2.length (x9.2.map u8v) := fun x9 hx9 => (ks x9 hx9).keepT ok E2117 (by decide)
   have hk := hk.keepT ok E2117 (by decide)
   have hrest := hrest.keepG (Gr.of E2117) djkG.symm (NoK.ofOwn ok (by decide))
   have hB1946 := hB1946.keepO ok E2117 (by decide)
   have hT1962 := hT1962.keepG (Gr.of E2117) dj1972.symm (NoK.ofOwn ok (by decide))
   have hT2_1962 := hT2_1962.keepG (Gr.of E2117) dj1978.symm (NoK.ofOwn ok (by decide))
   have hu1962 := hu1962.keepT ok E2117 (by decide)
   have hB2100 := hB2100.keepO ok E2117 (by decide)
   have hB2109 := hB2109.keep E2117 (fun hh => ne_b2107_kv hh.symm)
   have hb := hb.stepL E2117 (fun k _ h => hNd.wk k h)
   have hO2115 : Own w2116 0 27 1 v2115 (K.insertIdx (way (K.map Prod.snd) k) (u1962, y1962)).length ((K.insertIdx (way (K.map Prod.snd) k) (u1962, y1962)).flatMap cK) := hO2115.cast (by rw [List.length_insertIdx, if_pos (by first | omega | (simp only [List.length_insertIdx, List.length_set, List.length_drop, List.length_take]; omega) | (simp; omega))]) (flat_ins cK_len (u1962, y1962) (by first | omega | (simp only [List.length_insertIdx, List.length_set, List.length_drop, List.length_take]; omega) | (simp; omega)))
   refine ktk_end (G := fun t9 w' => 21 ∈ t9 → (Bx w' p 115 [(Value.slice none 0 0), kv, cv])) (todo := [9, 18, 21]) (i := 9) rfl (fun _ => hx) ?_
   refine ktk_step (rs := [18]) (by kernel_rfl) ?_
   refine one_mem ?_
   intro w2123 E2123 _ a2123 hN2123 hbs2123 hdp2123 o_ ho_; obtain rfl := Option.some.inj ho_
   have z_w2123 := E2123.size
   have hx := hx.keep0 E2123
   have oc := oc.keep0 E2123
   have ks : ∀ x9 ∈ K, Own w2123 0 5 1 x9.1 x9.2.length (x9.2.map u8v) := fun x9 hx9 => (ks x9 hx9).keep0 E2123
   have hk := hk.keep0 E2123
   have hrest := hrest.keepG (Gr.of0 E2123 NoB) (fun _ _ h => h) (NoK.no _)
   have hB1946 := hB1946.keep0 E2123
   have hT1962 := hT1962.keepG (Gr.of0 E2123 NoB) (fun _ _ h => h) (NoK.no _)
   have hT2_1962 := hT2_1962.keepG (Gr.of0 E2123 NoB) (fun _ _ h => h) (NoK.no _)
   have hu1962 := hu1962.keep0 E2123
   have hB2100 := hB2100.keep0 E2123
   have hB2109 := hB2109.keep0 E2123
   have hO2115 := hO2115.keep0 E2123
   have hb := hb.step0 E2123
   have q2123_74 : Sl a2123 74 cv := (hdp2123 13 _ 74 (by kernel_rfl) rfl rfl).2 rfl
   have q2123_76 : Sl a2123 76 (Value.int .i64 ((((way (K.map Prod.snd) k) : Nat) : Int) + 1)) := (hdp2123 15 _ 76 (by kernel_rfl) rfl rfl).2 rfl
   have q2123_78 : Sl a2123 78 (Value.slice (some ⟨b2098, 0, none⟩) 1 1) := (Option.some.inj ((hdp2123 17 _ 78 (by kernel_rfl) rfl rfl).1 rfl)).symm
   refine op_fn (vs := [cv, (Value.int .i64 ((((way (K.map Prod.snd) k) : Nat) : Int) + 1)), (Value.slice (some ⟨b2098, 0, none⟩) 1 1)]) ok85 ⟨(ev_base hN2123 rfl q2123_74), ⟨(ev_base hN2123 rfl q2123_76), ⟨(ev_base hN2123 rfl q2123_78), trivial⟩⟩⟩ (InsNI oc hB2100 (one_pn _) rfl (by first | omega | (simp only [List.length_insertIdx, List.length_set, List.length_drop, List.length_take]; omega) | (simp; omega)) (by first | omega | (simp only [List.length_insertIdx, List.length_set, List.length_drop, List.length_take]; omega) | (simp; omega)) ne_b2098_cv) ?_
   rintro v2124 w2125 ⟨E2126, hO2124, hm2124⟩
   have dj2127 : Dj G0 (Bl v2124) := Dj.step hm2124 (fun k hk => (hrest.lt k hk).2) djcG.symm
   have dj2128 : Dj W1_1962 (Bl v2124) := Dj.step hm2124 (fun k hk => (hT1962.lt k hk).2) dj1973.symm
   have dj2129 : Dj W2_1962 (Bl v2124) := Dj.step hm2124 (fun k hk => (hT2_1962.lt k hk).2) dj1979.symm
   have hin2130 := inF_step (n := w.heap.size) hm2124 (by omega) (fun k _ h => hNd.wc k h)
   have z_w2125 := E2126.size
   have hx := hx.keepO oc E2126 (by decide)
   have ks : ∀ x9 ∈ K, Own w2125 0 5 1 x9.1 x9.2.length (x9.2.map u8v) := fun x9 hx9 => (ks x9 hx9).keepT oc E2126 (by decide)
   have hk := hk.keepT oc E2126 (by decide)
   have hrest := hrest.keepG (Gr.of E2126) djcG.symm (NoK.ofOwn oc (by decide))
   have hB1946 := hB1946.keepO oc E2126 (by decide)
   have hT1962 := hT1962.keepG (Gr.of E2126) dj1973.symm (NoK.ofOwn oc (by decide))
   have hT2_1962 := hT2_1962.keepG (Gr.of E2126) dj1979.symm (NoK.ofOwn oc (by decide))
   have hu1962 := hu1962.keepT oc E2126 (by decide)
   have hB2100 := hB2100.keep E2126 (fun hh => ne_b2098_cv hh.symm)
   have hB2109 := hB2109.keepO oc E2126 (by decide)
   have hO2115 := hO2115.keepT oc E2126 (by decide)
   have hb := hb.stepL E2126 (fun k _ h => hNd.wc k h)
   have hO2124 : Own w2125 0 69 1 v2124 (P.insertIdx (((way (K.map Prod.snd) k)) + 1) q1962).length ((P.insertIdx (((way (K.map Prod.snd) k)) + 1) q1962).flatMap cN) := hO2124.cast (by rw [List.length_insertIdx, if_pos (by first | omega | (simp only [List.length_insertIdx, List.length_set, List.length_drop, List.length_take]; omega) | (simp; omega))]) (flat_ins cN_len q1962 (by first | omega | (simp only [List.length_insertIdx, List.length_set, List.length_drop, List.length_take]; omega) | (simp; omega)))
   refine ktk_end (G := fun t9 w' => 21 ∈ t9 → (Bx w' p 115 [(Value.slice none 0 0), kv, cv])) (todo := [18, 21]) (i := 18) rfl (fun _ => hx) ?_
   refine ktk_step (rs := [21]) (by kernel_rfl) ?_
   refine one_mem ?_
   intro w2132 E2132 _ a2132 hN2132 hbs2132 hdp2132 o_ ho_; obtain rfl := Option.some.inj ho_
   have z_w2132 := E2132.size
   have hx := hx.keep0 E2132
   have ks : ∀ x9 ∈ K, Own w2132 0 5 1 x9.1 x9.2.length (x9.2.map u8v) := fun x9 hx9 => (ks x9 hx9).keep0 E2132
   have hk := hk.keep0 E2132
   have hrest := hrest.keepG (Gr.of0 E2132 NoB) (fun _ _ h => h) (NoK.no _)
   have hB1946 := hB1946.keep0 E2132
   have hT1962 := hT1962.keepG (Gr.of0 E2132 NoB) (fun _ _ h => h) (NoK.no _)
   have hT2_1962 := hT2_1962.keepG (Gr.of0 E2132 NoB) (fun _ _ h => h) (NoK.no _)
   have hu1962 := hu1962.keep0 E2132
   have hB2100 := hB2100.keep0 E2132
   have hB2109 := hB2109.keep0 E2132
   have hO2115 := hO2115.keep0 E2132
   have hO2124 := hO2124.keep0 E2132
   have hb := hb.step0 E2132
   have q2132_81 : Sl a2132 81 (ptr p 1) := (hdp2132 20 _ 81 (by kernel_rfl) rfl rfl).2 rfl
   have q2132_70 : Sl a2132 70 v2115 := (Option.some.inj ((hdp2132 9 _ 70 (by kernel_rfl) rfl rfl).1 rfl)).symm
   have hx_old := hx
   refine op_store (vs := [v2115]) (cs' := [(Value.slice none 0 0), v2115, cv]) size90 (ev_base hN2132 rfl q2132_81) (ev_base hN2132 rfl q2132_70) hO2115.cl rfl (by simp only [List.all_cons, List.all_nil, Bool.true_and, Bool.and_true, hO2115.one]; try rfl) hx (Nat.le_of_ble_eq_true rfl) rfl ?_
   intro w2135 hx E2136
   have z_w2135 := E2136.size
   have ks : ∀ x9 ∈ K, Own w2135 0 5 1 x9.1 x9.2.length (x9.2.map u8v) := fun x9 hx9 => (ks x9 hx9).keepX hx_old E2136 (by decide)
   have hk := hk.keepX hx_old E2136 (by decide)
   have hrest := hrest.keepG (Gr.of E2136) (Dj.one djpG) (NoK.ofBx hx_old (by decide))
   have hB1946 := hB1946.keep E2136 (fun hh => hB1946.ne hx_old (by decide) (Option.some.inj hh))
   have hT1962 := hT1962.keepG (Gr.of E2136) (Dj.one dj1971) (NoK.ofBx hx_old (by decide))
   have hT2_1962 := hT2_1962.keepG (Gr.of E2136) (Dj.one dj1977) (NoK.ofBx hx_old (by decide))
   have hu1962 := hu1962.keepX hx_old E2136 (by decide)
   have hB2100 := hB2100.keep E2136 (fun hh => hB2100.ne hx_old (by decide) (Option.some.inj hh))
   have hB2109 := hB2109.keep E2136 (fun hh => hB2109.ne hx_old (by decide) (Option.some.inj hh))
   have hO2115 := hO2115.keepX hx_old E2136 (by decide)
   have hO2124 := hO2124.keepX hx_old E2136 (by decide)
   have hb := hb.stepB E2136 hNd.wp
   refine ktk_end0 (G := fun t9 w' => 21 ∈ t9 → (Bx w' p 115 [(Value.slice none 0 0), kv, cv])) (todo := [21]) (i := 21) rfl (fun h => absurd h (by decide)) ?_
   intro w2137 E2137 a2137 hN2137 hd2137 hbs2137 hph2137
   have hd2137 := hd2137.trans ((by simp only [putsL_defers] : _ = _).trans hd)
   have z_w2137 := E2137.size
   have ks : ∀ x9 ∈ K, Own w2137 0 5 1 x9.1 x9.2.length (x9.2.map u8v) := fun x9 hx9 => (ks x9 hx9).keep0 E2137
   have hk := hk.keep0 E2137
   have hrest := hrest.keepG (Gr.of0 E2137 NoB) (fun _ _ h => h) (NoK.no _)
   have hB1946 := hB1946.keep0 E2137
   have hT1962 := hT1962.keepG (Gr.of0 E2137 NoB) (fun _ _ h => h) (NoK.no _)
   have hT2_1962 := hT2_1962.keepG (Gr.of0 E2137 NoB) (fun _ _ h => h) (NoK.no _)
   have hu1962 := hu1962.keep0 E2137
   have hB2100 := hB2100.keep0 E2137
   have hB2109 := hB2109.keep0 E2137
   have hO2115 := hO2115.keep0 E2137
   have hO2124 := hO2124.keep0 E2137
   have hx := hx.keep0 E2137
   have hb := hb.step0 E2137
   have s2137_0 := (hbs2137 0 rfl).trans (sl_base hN rfl s0)
   have s2137_4 := (hbs2137 4 rfl).trans (sl_hit hN rfl)
   have s2137_5 := (hbs2137 5 rfl).trans (sl_hit hN rfl)
   have s2137_6 := (hbs2137 6 rfl).trans (sl_hit hN rfl)
   have s2137_62 : Sl a2137 62 (ptr p 0) := (hph2137 1 _ 62 rfl rfl).2 rfl
   have s2137_79 : Sl a2137 79 v2124 := (Option.some.inj ((hph2137 18 _ 79 rfl rfl).1 rfl)).symm
   refine split_end ?_
   refine from_seq (tl := [_, _, _]) (by decide) (by kernel_rfl) rfl ?_
   refine op_nil (ev_base hN2137 rfl s2137_62) ?_
   refine op_field fld115_2 (ev_hit hN2137 rfl) ?_
   have hx_old := hx
   refine op_store (vs := [v2124]) (cs' := [(Value.slice none 0 0), v2115, v2124]) size113 (ev_hit hN2137 rfl) (ev_base hN2137 rfl s2137_79) hO2124.cl rfl (by simp only [List.all_cons, List.all_nil, Bool.true_and, Bool.and_true, hO2124.one]; try rfl) hx (Nat.le_of_ble_eq_true rfl) rfl ?_
   intro w2140 hx E2141
   have z_w2140 := E2141.size
   have ks : ∀ x9 ∈ K, Own w2140 0 5 1 x9.1 x9.2.length (x9.2.map u8v) := fun x9 hx9 => (ks x9 hx9).keepX hx_old E2141 (by decide)
   have hk := hk.keepX hx_old E2141 (by decide)
   have hrest := hrest.keepG (Gr.of E2141) (Dj.one djpG) (NoK.ofBx hx_old (by decide))
   have hB1946 := hB1946.keep E2141 (fun hh => hB1946.ne hx_old (by decide) (Option.some.inj hh))
   have hT1962 := hT1962.keepG (Gr.of E2141) (Dj.one dj1971) (NoK.ofBx hx_old (by decide))
   have hT2_1962 := hT2_1962.keepG (Gr.of E2141) (Dj.one dj1977) (NoK.ofBx hx_old (by decide))
   have hu1962 := hu1962.keepX hx_old E2141 (by decide)
   have hB2100 := hB2100.keep E2141 (fun hh => hB2100.ne hx_old (by decide) (Option.some.inj hh))
   have hB2109 := hB2109.keep E2141 (fun hh => hB2109.ne hx_old (by decide) (Option.some.inj hh))
   have hO2115 := hO2115.keepX hx_old E2141 (by decide)
   have hO2124 := hO2124.keepX hx_old E2141 (by decide)
   have hb := hb.stepB E2141 hNd.wp
   refine reg_nil ?_
   refine hK1949 _ _ ?_
   refine seq_any fun K2142 hK2142 => ?_
   refine one_reg ?_
   have hl1 : (K.insertIdx (way (K.map Prod.snd) k) (u1962, y1962)).length = K.length + 1 := by rw [List.length_insertIdx, if_pos hwl]
   have hl2 : (P.insertIdx (((way (K.map Prod.snd) k)) + 1) q1962).length = P.length + 1 := by rw [List.length_insertIdx, if_pos (by omega)]
   have ks2143 : ∀ x9 ∈ (K.insertIdx (way (K.map Prod.snd) k) (u1962, y1962)), Own w2140 0 5 1 x9.1 x9.2.length (x9.2.map u8v) := kks_ins ks hu1962 hwl
   refine op_move (ev_base hN2137 rfl s2137_0) ?_
   rcases Bool.eq_false_or_eq_true (decide ((K.insertIdx (way (K.map Prod.snd) k) (u1962, y1962)).length ≤ 6)) with k86 | k86
   · -- 86T
    refine op_fn (vs := [(ptr p 0)]) ok86 ⟨(ev_hit hN2137 rfl), trivial⟩ (Ret.flip (halvesNsI hx hO2115 hO2124 (by first | omega | (simp only [List.length_insertIdx, List.length_set, List.length_drop, List.length_take]; omega) | (simp; omega)) (of_decide_eq_true k86))) ?_
    rintro _ _ ⟨rfl, rfl⟩
    refine op_move (ev_hit hN2137 rfl) ?_
    refine op_extract (ev_hit hN2137 rfl) rfl ?_
    refine op_extract (ev_hit hN2137 rfl) rfl ?_
    refine op_assign (ev_hit hN2137 rfl) ?_
    refine op_assign (ev_hit hN2137 rfl) ?_
    refine reg_nil ?_
    refine hK2142 _ _ ?_
    refine seq_any fun K2144 hK2144 => ?_
    refine one_reg ?_
    refine op_move (ev_base hN2137 rfl s2137_4) ?_
    refine op_move (ev_hit hN2137 rfl) ?_
    refine op_move (ev_hit hN2137 rfl) ?_
    refine op_assign (ev_hit hN2137 rfl) ?_
    refine op_assign (ev_hit hN2137 rfl) ?_
    refine op_assign (ev_hit hN2137 rfl) ?_
    refine reg_nil ?_
    refine hK2144 _ _ ?_
    refine wp_ret ?_
    refine retN (rs := [.tmp 4, .tmp 5, .tmp 6]) (vs := [(Value.bool (putT h k x c).1), (Value.slice none 0 0), (Value.pointer none)]) rfl hd2137 ⟨(ev_hit hN2137 rfl), ⟨(ev_hit hN2137 rfl), ⟨(ev_hit hN2137 rfl), trivial⟩⟩⟩ rfl ⟨_, rfl, ?_⟩
    -- path 55T 86T
    exact ⟨hb, _, _, by rw [(put_some (u := u1962) hc hr1962 hwl)]; rfl, out_node_small (K := (K.insertIdx (way (K.map Prod.snd) k) (u1962, y1962))) (ts := ((cs.set (way (K.map Prod.snd) k) (putT h k x c).2.1).insertIdx ((way (K.map Prod.snd) k) + 1) t2_1962)) ((congrArg Prod.snd (put_some (u := u1962) hc hr1962 hwl)).trans (halves_nsmall (by simpa using of_decide_eq_true k86))) hx hO2115 hO2124 ks2143 (kks_ins hNd.kr hur1962 hwl) (Kids.ins (i := (way (K.map Prod.snd) k) + 1) (Kids.back1 (i := (way (K.map Prod.snd) k)) (A := TreeR kI R w2140 h) hrest hPc hic hT1962 dj1975.symm) (by rw [List.length_set]; omega) hT2_1962 (fun k h1 h2 => h2.elim (hd1962.symm k h1) (dj1981.symm k h1))) (fun h9 => h9.elim (fun h8 => dj1977 h8) (fun h8 => h8.elim (fun h8 => dj1971 h8) (fun h8 => djpG h8))) (fun j hj h9 => h9.elim (fun h8 => dj2120.symm j hj h8) (fun h8 => h8.elim (fun h8 => dj2119.symm j hj h8) (fun h8 => dj2118.symm j hj h8))) (fun j hj h9 => h9.elim (fun h8 => dj2129.symm j hj h8) (fun h8 => h8.elim (fun h8 => dj2128.symm j hj h8) (fun h8 => dj2127.symm j hj h8))) (nodeW_in (fun _ => hNd.wp) hin2121 hin2130 (fun j hj h9 => h9.elim (fun h8 => hin1984 j hj h8) (fun h8 => h8.elim (fun h8 => hin1983 j hj h8) (fun h8 => (fun j _ q => hNd.wg j (hGs j q)) j hj h8))))⟩
   · -- 86F
    refine op_fn (vs := [(ptr p 0)]) ok86 ⟨(ev_hit hN2137 rfl), trivial⟩ (halvesNbI hx hO2115 hO2124 ks2143 (by first | omega | (simp only [List.length_insertIdx, List.length_set, List.length_drop, List.length_take]; omega) | (simp; omega)) (by have := of_decide_eq_false k86; omega) (by first | omega | (simp only [List.length_insertIdx, List.length_set, List.length_drop, List.length_take]; omega) | (simp; omega))) ?_
    rintro _ w2146 ⟨E2147, q2145, qk2145, qc2145, rfl, hx2145, oa2145, ob2145, lo2145, hB2145, oc2145, od2145⟩
    have ht2148 := hx.lt
    have ht2149 := hO2115.lt
    have ht2150 := hO2124.lt
    have ht2151 := hrest.lt
    have ht2152 := hT1962.lt
    have ht2153 := hT2_1962.lt
    have E2147 := E2147.grown (row := some p) (fun k _ h => by rw [h])
    have hx_old := hx
    have z_w2146 := E2147.size
    have ks : ∀ x9 ∈ K, Own w2146 0 5 1 x9.1 x9.2.length (x9.2.map u8v) := fun x9 hx9 => (ks x9 hx9).keepX hx_old E2147 (by decide)
    have hk := hk.keepX hx_old E2147 (by decide)
    have hrest := hrest.keepG (Gr.of E2147) (Dj.one djpG) (NoK.ofBx hx_old (by decide))
    have hB1946 := hB1946.keep E2147 (fun hh => hB1946.ne hx_old (by decide) (Option.some.inj hh))
    have hT1962 := hT1962.keepG (Gr.of E2147) (Dj.one dj1971) (NoK.ofBx hx_old (by decide))
    have hT2_1962 := hT2_1962.keepG (Gr.of E2147) (Dj.one dj1977) (NoK.ofBx hx_old (by decide))
    have hu1962 := hu1962.keepX hx_old E2147 (by decide)
    have hB2100 := hB2100.keep E2147 (fun hh => hB2100.ne hx_old (by decide) (Option.some.inj hh))
    have hB2109 := hB2109.keep E2147 (fun hh => hB2109.ne hx_old (by decide) (Option.some.inj hh))
    have ks2143 : ∀ x9 ∈ (K.insertIdx (way (K.map Prod.snd) k) (u1962, y1962)), Own w2146 0 5 1 x9.1 x9.2.length (x9.2.map u8v) := fun x9 hx9 => (ks2143 x9 hx9).keepX hx_old E2147 (by decide)
    have hb := hb.stepB E2147 hNd.wp
    refine op_move (ev_hit hN2137 rfl) ?_
    refine op_extract (ev_hit hN2137 rfl) rfl ?_
    refine op_extract (ev_hit hN2137 rfl) rfl ?_
    refine op_assign (ev_hit hN2137 rfl) ?_
    refine op_assign (ev_hit hN2137 rfl) ?_
    refine reg_nil ?_
    refine hK2142 _ _ ?_
    refine seq_any fun K2154 hK2154 => ?_
    refine one_reg ?_
    refine op_move (ev_base hN2137 rfl s2137_4) ?_
    refine op_move (ev_hit hN2137 rfl) ?_
    refine op_move (ev_hit hN2137 rfl) ?_
    refine op_assign (ev_hit hN2137 rfl) ?_
    refine op_assign (ev_hit hN2137 rfl) ?_
    refine op_assign (ev_hit hN2137 rfl) ?_
    refine reg_nil ?_
    refine hK2154 _ _ ?_
    refine wp_ret ?_
    refine retN (rs := [.tmp 4, .tmp 5, .tmp 6]) (vs := [(Value.bool (putT h k x c).1), ((K.insertIdx (way (K.map Prod.snd) k) (u1962, y1962)).getD ((K.insertIdx (way (K.map Prod.snd) k) (u1962, y1962)).length / 2) default).1, (ptr q2145 0)]) rfl hd2137 ⟨(ev_hit hN2137 rfl), ⟨(ev_hit hN2137 rfl), ⟨(ev_hit hN2137 rfl), trivial⟩⟩⟩ rfl ⟨_, rfl, ?_⟩
    -- path 55T 86F
    exact ⟨hb, _, _, by rw [(put_some (u := u1962) hc hr1962 hwl)]; rfl, out_node_big (K := (K.insertIdx (way (K.map Prod.snd) k) (u1962, y1962))) (ts := ((cs.set (way (K.map Prod.snd) k) (putT h k x c).2.1).insertIdx ((way (K.map Prod.snd) k) + 1) t2_1962)) ((congrArg Prod.snd (put_some (u := u1962) hc hr1962 hwl)).trans (halves_nbig (by have := of_decide_eq_false k86; omega))) (by have := of_decide_eq_false k86; omega) hx2145 oa2145 ob2145 hB2145 oc2145 od2145 lo2145 (by omega) ks2143 (kks_ins hNd.kr hur1962 hwl) (Kids.ins (i := (way (K.map Prod.snd) k) + 1) (Kids.back1 (i := (way (K.map Prod.snd) k)) (A := TreeR kI R w2146 h) hrest hPc hic hT1962 dj1975.symm) (by rw [List.length_set]; omega) hT2_1962 (fun k h1 h2 => h2.elim (hd1962.symm k h1) (dj1981.symm k h1))) (fun h9 => h9.elim (fun h8 => dj1977 h8) (fun h8 => h8.elim (fun h8 => dj1971 h8) (fun h8 => djpG h8))) (fun j hj h9 => h9.elim (fun h8 => dj2120.symm j ((hiV_ob _ _).symm.trans hj) h8) (fun h8 => h8.elim (fun h8 => dj2119.symm j ((hiV_ob _ _).symm.trans hj) h8) (fun h8 => dj2118.symm j ((hiV_ob _ _).symm.trans hj) h8))) (fun j hj h9 => h9.elim (fun h8 => dj2129.symm j ((hiV_ob _ _).symm.trans hj) h8) (fun h8 => h8.elim (fun h8 => dj2128.symm j ((hiV_ob _ _).symm.trans hj) h8) (fun h8 => dj2127.symm j ((hiV_ob _ _).symm.trans hj) h8))) (nodeW_in (fun _ => hNd.wp) (inF_step (n := w.heap.size) (.inl (hiV_ob _ _)) (Nat.le_refl _) hin2121) (inF_step (n := w.heap.size) (.inl (hiV_ob _ _)) (Nat.le_refl _) hin2130) (fun j hj h9 => h9.elim (fun h8 => hin1984 j hj h8) (fun h8 => h8.elim (fun h8 => hin1983 j hj h8) (fun h8 => (fun j _ q => hNd.wg j (hGs j q)) j hj h8)))) (nodeW_lt ht2148 (fun j h9 => (ht2149 j ((hiV_ob _ _).symm.trans h9)).2) (fun j h9 => (ht2150 j ((hiV_ob _ _).symm.trans h9)).2) (fun j h9 => h9.elim (fun h8 => (ht2153 j h8).2) (fun h8 => h8.elim (fun h8 => (ht2152 j h8).2) (fun h8 => (ht2151 j h8).2))))⟩
 · -- 55F
  refine op_fn (vs := [(ptr (P.getD ((way (K.map Prod.snd) k)) default) 0), (Value.agg #[yv, (Value.int .i64 x)])]) ok48 ⟨(ev_hit hN rfl), ⟨(ev_hit hN rfl), trivial⟩⟩ (IH hkid hcO (by have := (hz c (List.mem_of_getElem? hc)).2; omega) hk hkr) ?_
  rintro _ w2156 ⟨E2157, u2155, m2155, rfl, ho2155⟩
  have bd2158 := hx.lt
  have bd2159 := ok.lt
  have bd2160 := oc.lt
  have bd2161 := hk.lt
  have bd2162 := hrest.lt
  have bd2163 := hB1946.lt
  obtain ⟨hr2155, rfl, rfl, W1_2155, hT2155, hN1_2155⟩ := outR_none k55 ho2155
  have hkid_old := hkid
  have z_w2156 := E2157.size
  have hx := hx.keepG E2157 djpf
  have ok := ok.keepG E2157 djkf
  have oc := oc.keepG E2157 djcf
  have ks : ∀ x9 ∈ K, Own w2156 0 5 1 x9.1 x9.2.length (x9.2.map u8v) := fun x9 hx9 => (ks x9 hx9).keepG E2157 (hkid_old.notOwn (ks x9 hx9) (by decide) (by decide) (by decide) (by decide))
  have hk := hk.keepG E2157 (hkid_old.notOwn hk (by decide) (by decide) (by decide) (by decide))
  have hrest := hrest.keepG E2157 hfG.symm (hkid_old.noK kI_fine)
  have hB1946 := hB1946.keepG E2157 dj1947
  have hb := hb.stepF E2157 (fun k _ h => hNd.wg k (hfs k h))
  have dj2164 : ¬ W1_2155 p := ne_stepF hN1_2155 bd2158 djpf
  have dj2165 : Dj (Bl kv) W1_2155 := Dj.stepF hN1_2155 (fun k hk => (bd2159 k hk).2) djkf
  have dj2166 : Dj (Bl cv) W1_2155 := Dj.stepF hN1_2155 (fun k hk => (bd2160 k hk).2) djcf
  have dj2168 : Dj G0 W1_2155 := Dj.stepF hN1_2155 (fun k hk => (bd2162 k hk).2) hfG.symm
  have dj2169 : ¬ W1_2155 b1944 := ne_stepF hN1_2155 bd2163 dj1947
  have hin2170 := in_newF (hN1_2155.mono (t := w.heap.size) (by omega)) (fun k hk => hNd.wg k (hfs k hk))
  refine from_next ?_
  refine from_still (m := 16) 7 (hd := [_, _, _, _, _, _, _]) (by kernel_rfl) rfl rfl ?_
  refine st_step rfl (fun _ h9 => op_move (ev_hit hN rfl) h9) ?_
  refine st_step rfl (fun _ h9 => op_extract (ev_hit hN rfl) rfl h9) ?_
  refine st_step rfl (fun _ h9 => op_extract (ev_hit hN rfl) rfl h9) ?_
  refine st_step rfl (fun _ h9 => op_extract (ev_hit hN rfl) rfl h9) ?_
  refine st_step rfl (fun _ h9 => op_assign (ev_hit hN rfl) h9) ?_
  refine st_step rfl (fun _ h9 => op_assign (ev_hit hN rfl) h9) ?_
  refine st_step rfl (fun _ h9 => op_assign (ev_hit hN rfl) h9) ?_
  refine st_nil ?_
  refine from_end ?_ rfl
  refine hK1956 _ _ ?_
  refine seq_any fun K2171 hK2171 => ?_
  refine one_reg ?_
  refine op_move (ev_hit hN rfl) ?_
  refine op_pne_none ptrt69 (ev_hit hN rfl) rfl ?_
  refine reg_nil ?_
  refine hK2171 _ _ ?_
  refine wp_cond_false (ev_hit hN rfl) ?_
  refine wp_skip ?_
  refine hK1949 _ _ ?_
  refine seq_any fun K2172 hK2172 => ?_
  refine one_reg ?_
  skip
  refine op_move (ev_base hN rfl s0) ?_
  rcases Bool.eq_false_or_eq_true (decide (K.length ≤ 6)) with k86 | k86
  · -- 86T
   refine op_fn (vs := [(ptr p 0)]) ok86 ⟨(ev_hit hN rfl), trivial⟩ (Ret.flip (halvesNsI hx ok oc (by first | omega | (simp only [List.length_insertIdx, List.length_set, List.length_drop, List.length_take]; omega) | (simp; omega)) (of_decide_eq_true k86))) ?_
   rintro _ _ ⟨rfl, rfl⟩
   refine op_move (ev_hit hN rfl) ?_
   refine op_extract (ev_hit hN rfl) rfl ?_
   refine op_extract (ev_hit hN rfl) rfl ?_
   refine op_assign (ev_hit hN rfl) ?_
   refine op_assign (ev_hit hN rfl) ?_
   refine reg_nil ?_
   refine hK2172 _ _ ?_
   refine seq_any fun K2173 hK2173 => ?_
   refine one_reg ?_
   refine op_move (ev_hit hN rfl) ?_
   refine op_move (ev_hit hN rfl) ?_
   refine op_move (ev_hit hN rfl) ?_
   refine op_assign (ev_hit hN rfl) ?_
   refine op_assign (ev_hit hN rfl) ?_
   refine op_assign (ev_hit hN rfl) ?_
   refine reg_nil ?_
   refine hK2173 _ _ ?_
   refine wp_ret ?_
   refine retN (rs := [.tmp 4, .tmp 5, .tmp 6]) (vs := [(Value.bool (putT h k x c).1), (Value.slice none 0 0), (Value.pointer none)]) rfl hd ⟨(ev_hit hN rfl), ⟨(ev_hit hN rfl), ⟨(ev_hit hN rfl), trivial⟩⟩⟩ rfl ⟨_, rfl, ?_⟩
   -- path 55F 86T
   exact ⟨hb, _, _, by rw [(put_none hc hr2155)]; rfl, out_node_small (K := K) (ts := (cs.set (way (K.map Prod.snd) k) (putT h k x c).2.1)) ((congrArg Prod.snd (put_none hc hr2155)).trans (halves_nsmall (by simpa using of_decide_eq_true k86))) hx ok oc ks hNd.kr (Kids.back1 (i := (way (K.map Prod.snd) k)) (A := TreeR kI R w2156 h) hrest hPc hic hT2155 dj2168.symm) (fun h9 => h9.elim (fun h8 => dj2164 h8) (fun h8 => djpG h8)) (fun j hj h9 => h9.elim (fun h8 => dj2165 j hj h8) (fun h8 => djkG j hj h8)) (fun j hj h9 => h9.elim (fun h8 => dj2166 j hj h8) (fun h8 => djcG j hj h8)) (nodeW_in (fun _ => hNd.wp) (fun k _ h => hNd.wk k h) (fun k _ h => hNd.wc k h) (fun j hj h9 => h9.elim (fun h8 => hin2170 j hj h8) (fun h8 => (fun j _ q => hNd.wg j (hGs j q)) j hj h8)))⟩
  · -- 86F
   refine op_fn (vs := [(ptr p 0)]) ok86 ⟨(ev_hit hN rfl), trivial⟩ (halvesNbI hx ok oc ks (by first | omega | (simp only [List.length_insertIdx, List.length_set, List.length_drop, List.length_take]; omega) | (simp; omega)) (by have := of_decide_eq_false k86; omega) (by first | omega | (simp only [List.length_insertIdx, List.length_set, List.length_drop, List.length_take]; omega) | (simp; omega))) ?_
   rintro _ w2175 ⟨E2176, q2174, qk2174, qc2174, rfl, hx2174, oa2174, ob2174, lo2174, hB2174, oc2174, od2174⟩
   have ht2177 := hx.lt
   have ht2178 := ok.lt
   have ht2179 := oc.lt
   have ht2180 := hrest.lt
   have ht2181 := hT2155.lt
   have E2176 := E2176.grown (row := some p) (fun k _ h => by rw [h])
   have hx_old := hx
   have z_w2175 := E2176.size
   have ks : ∀ x9 ∈ K, Own w2175 0 5 1 x9.1 x9.2.length (x9.2.map u8v) := fun x9 hx9 => (ks x9 hx9).keepX hx_old E2176 (by decide)
   have hk := hk.keepX hx_old E2176 (by decide)
   have hrest := hrest.keepG (Gr.of E2176) (Dj.one djpG) (NoK.ofBx hx_old (by decide))
   have hB1946 := hB1946.keep E2176 (fun hh => hB1946.ne hx_old (by decide) (Option.some.inj hh))
   have hT2155 := hT2155.keepG (Gr.of E2176) (Dj.one dj2164) (NoK.ofBx hx_old (by decide))
   have hb := hb.stepB E2176 hNd.wp
   refine op_move (ev_hit hN rfl) ?_
   refine op_extract (ev_hit hN rfl) rfl ?_
   refine op_extract (ev_hit hN rfl) rfl ?_
   refine op_assign (ev_hit hN rfl) ?_
   refine op_assign (ev_hit hN rfl) ?_
   refine reg_nil ?_
   refine hK2172 _ _ ?_
   refine seq_any fun K2182 hK2182 => ?_
   refine one_reg ?_
   refine op_move (ev_hit hN rfl) ?_
   refine op_move (ev_hit hN rfl) ?_
   refine op_move (ev_hit hN rfl) ?_
   refine op_assign (ev_hit hN rfl) ?_
   refine op_assign (ev_hit hN rfl) ?_
   refine op_assign (ev_hit hN rfl) ?_
   refine reg_nil ?_
   refine hK2182 _ _ ?_
   refine wp_ret ?_
   refine retN (rs := [.tmp 4, .tmp 5, .tmp 6]) (vs := [(Value.bool (putT h k x c).1), (K.getD (K.length / 2) default).1, (ptr q2174 0)]) rfl hd ⟨(ev_hit hN rfl), ⟨(ev_hit hN rfl), ⟨(ev_hit hN rfl), trivial⟩⟩⟩ rfl ⟨_, rfl, ?_⟩
   -- path 55F 86F
   exact ⟨hb, _, _, by rw [(put_none hc hr2155)]; rfl, out_node_big (K := K) (ts := (cs.set (way (K.map Prod.snd) k) (putT h k x c).2.1)) ((congrArg Prod.snd (put_none hc hr2155)).trans (halves_nbig (by have := of_decide_eq_false k86; omega))) (by have := of_decide_eq_false k86; omega) hx2174 oa2174 ob2174 hB2174 oc2174 od2174 lo2174 (by omega) ks hNd.kr (Kids.back1 (i := (way (K.map Prod.snd) k)) (A := TreeR kI R w2175 h) hrest hPc hic hT2155 dj2168.symm) (fun h9 => h9.elim (fun h8 => dj2164 h8) (fun h8 => djpG h8)) (fun j hj h9 => h9.elim (fun h8 => dj2165 j ((hiV_ob _ _).symm.trans hj) h8) (fun h8 => djkG j ((hiV_ob _ _).symm.trans hj) h8)) (fun j hj h9 => h9.elim (fun h8 => dj2166 j ((hiV_ob _ _).symm.trans hj) h8) (fun h8 => djcG j ((hiV_ob _ _).symm.trans hj) h8)) (nodeW_in (fun _ => hNd.wp) (inF_step (n := w.heap.size) (.inl (hiV_ob _ _)) (Nat.le_refl _) (fun k _ h => hNd.wk k h)) (inF_step (n := w.heap.size) (.inl (hiV_ob _ _)) (Nat.le_refl _) (fun k _ h => hNd.wc k h)) (fun j hj h9 => h9.elim (fun h8 => hin2170 j hj h8) (fun h8 => (fun j _ q => hNd.wg j (hGs j q)) j hj h8))) (nodeW_lt ht2177 (fun j h9 => (ht2178 j ((hiV_ob _ _).symm.trans h9)).2) (fun j h9 => (ht2179 j ((hiV_ob _ _).symm.trans h9)).2) (fun j h9 => h9.elim (fun h8 => (ht2181 j h8).2) (fun h8 => (ht2180 j h8).2)))⟩

end Go.Proofs.Ytcpfdfejojghbaa

/- Walks, written by a program: what each function of the translation hands back. -/
namespace Go.Proofs.Ytcpfdfejojghbaa
open Go.Gx Go.RowKit
attribute [local irreducible] wpList wpStill Code.wp Calls
open Go.Bt
end Go.Proofs.Ytcpfdfejojghbaa

/- Walks, written by a program: what each function of the translation hands back. -/
namespace Go.Proofs.Ytcpfdfejojghbaa
open Go.Gx Go.RowKit
attribute [local irreducible] wpList wpStill Code.wp Calls
open Go.Bt
end Go.Proofs.Ytcpfdfejojghbaa

/- Walks, written by a program: what each function of the translation hands back. -/
namespace Go.Proofs.Ytcpfdfejojghbaa
open Go.Gx Go.RowKit
attribute [local irreducible] wpList wpStill Code.wp Calls
open Go.Bt
theorem putAllI : ∀ h, PutI h
  | 0 => by
    intro k yv x R W p t w T hO h6 hk hkr
    obtain ⟨pv, D, hL, e⟩ := T
    have e' : (D.map Prod.snd : List (Ky × (Int))) = t := e
    subst e'
    exact putLI hL (show Sorted ((D.map Prod.snd).map Prod.fst) from hO) (by have h9 : (D.map Prod.snd).length ≤ 6 := h6; simpa using h9) hk hkr
  | h + 1 => by
    intro k yv x R W p t w T hO h6 hk hkr
    obtain ⟨kv, cv, K, P, G, hN, hKs, e⟩ := T
    obtain ⟨kl, cs⟩ := t
    have e' : K.map Prod.snd = kl := e
    subst e'
    obtain ⟨h1, h2⟩ := ok_node.1 hO
    exact putNI (putAllI h) hN hKs h1 h2 (by have h9 : (K.map Prod.snd).length ≤ 6 := h6; simpa using h9) hk hkr
end Go.Proofs.Ytcpfdfejojghbaa

/- Whole trees, plainly: the root may be missing. -/
namespace Go.Bt
abbrev TO (V : Type) := Option ((h : Nat) × Tr V h)
section
variable {V : Type} {h : Nat} {k : Ky} {x : V} {o : TO V} {t : Tr V h}
def grown (h : Nat) (t : Tr V h) : Option (Ky × Tr V h) → TO V
  | none => some ⟨h, t⟩
  | some (u, m) => some ⟨h + 1, (([u], [t, m]) : List Ky × List (Tr V h))⟩
def putO (k : Ky) (x : V) : TO V → Bool × TO V
  | none => (false, some ⟨0, ([(k, x)] : List (Ky × V))⟩)
  | some ⟨h, t⟩ => ((putT h k x t).1, grown h (putT h k x t).2.1 (putT h k x t).2.2)
def toLO : TO V → List (Ky × V)
  | none => []
  | some ⟨h, t⟩ => toL h t
def OkO : TO V → Prop
  | none => True
  | some ⟨h, t⟩ => Ok h t ∧ 1 ≤ szT h t ∧ szT h t ≤ 6
theorem toL_sorted : ∀ {h : Nat} {t : Tr V h}, Ok h t → Sorted ((toL h t).map Prod.fst)
  | 0, t, H => H
  | h + 1, (ks, cs), H => by
    obtain ⟨N, hs⟩ := ok_node.1 H
    show Sorted ((cs.flatMap (toL h)).map Prod.fst)
    rw [List.map_flatMap, Sorted, List.pairwise_flatMap]
    refine ⟨fun c hc => ?_, ?_⟩
    · obtain ⟨i, hi, rfl⟩ := List.getElem_of_mem hc
      exact toL_sorted (N.2.2 i _ (List.getElem?_eq_getElem hi)).1
    · rw [List.pairwise_iff_getElem]
      intro i j hi hj hij a ha b hb
      obtain ⟨p, hp, rfl⟩ := List.mem_map.1 ha
      obtain ⟨q, hq, rfl⟩ := List.mem_map.1 hb
      have h1 := (N.2.2 i _ (List.getElem?_eq_getElem hi)).2 _ (dom_of_toL hp)
      have h2 := (N.2.2 j _ (List.getElem?_eq_getElem hj)).2 _ (dom_of_toL hq)
      exact lt_of_way (ks := ks) (by omega)
theorem toLO_sorted (H : OkO o) : Sorted ((toLO o).map Prod.fst) := by
  match o, H with
  | none, _ => exact List.Pairwise.nil
  | some ⟨h, t⟩, H => exact toL_sorted H.1
theorem putO_ok (H : OkO o) : OkO (putO k x o).2 ∧ ((putO k x o).1 = true ↔ ∃ p ∈ toLO o, p.1 = k) ∧ ∀ p, p ∈ toLO (putO k x o).2 ↔ PutM (fun p => p ∈ toLO o) k x p := by
  match o, H with
  | none, _ =>
    refine ⟨⟨show Sorted [k] from List.pairwise_singleton _ _, Nat.le_refl _, show 1 ≤ 6 from by decide⟩, ⟨fun h => (nomatch h), fun ⟨p, hp, _⟩ => (nomatch hp)⟩, fun p => ?_⟩
    show p ∈ [(k, x)] ↔ p = (k, x) ∨ (p.1 ≠ k ∧ p ∈ [])
    simp
  | some ⟨h, t⟩, ⟨H, h1, h6⟩ =>
    obtain ⟨a, b⟩ := put_ok (k := k) (v := x) (D := fun _ => True) H h6 (fun _ _ => trivial) trivial
    refine ⟨?_, a, ?_⟩
    · show OkO (grown h (putT h k x t).2.1 (putT h k x t).2.2)
      revert b
      generalize (putT h k x t).2.1 = t1
      cases (putT h k x t).2.2 with
      | none => exact fun b => ⟨b.1, by have := b.2.1; omega, b.2.2.1⟩
      | some q =>
        obtain ⟨u, m⟩ := q
        intro b
        obtain ⟨b1, b2, b3, b4, b5, b6, b7, b8⟩ := b
        refine ⟨ok_node.2 ⟨⟨rfl, List.pairwise_singleton _ _, fun i c hc => ?_⟩, fun c hc => ?_⟩, Nat.le_refl _, show 1 ≤ 6 from by decide⟩
        · match i, hc with
          | 0, hc =>
            have e : t1 = c := by simpa using hc
            subst e
            exact ⟨b1, fun y hy => way_none fun z hz => by rw [List.mem_singleton.1 hz]; exact (b5 y hy).2⟩
          | 1, hc =>
            have e : m = c := by simpa using hc
            subst e
            exact ⟨b2, fun y hy => by rw [way_all fun z hz => by rw [List.mem_singleton.1 hz]; exact (b6 y hy).2]; rfl⟩
          | i + 2, hc => simp at hc
        · rcases List.mem_cons.1 hc with rfl | hc
          · exact b3
          · rw [List.mem_singleton.1 hc]; exact b4
    · show ∀ p, p ∈ toLO (grown h (putT h k x t).2.1 (putT h k x t).2.2) ↔ _
      revert b
      generalize (putT h k x t).2.1 = t1
      cases (putT h k x t).2.2 with
      | none => exact fun b => b.2.2.2.2
      | some q =>
        obtain ⟨u, m⟩ := q
        intro b p
        refine Iff.trans ?_ (b.2.2.2.2.2.2.2 p)
        show p ∈ [t1, m].flatMap (toL h) ↔ _
        simp
/-- Lists in order of the same members are the same. -/
theorem sorted_ext : ∀ {a b : List (Ky × V)}, Sorted (a.map Prod.fst) → Sorted (b.map Prod.fst) → (∀ p, p ∈ a ↔ p ∈ b) → a = b
  | [], [], _, _, _ => rfl
  | [], q :: b, _, _, h => by have := (h q).2 (List.mem_cons_self ..); cases this
  | p :: a, [], _, _, h => by have := (h p).1 (List.mem_cons_self ..); cases this
  | p :: a, q :: b, ha, hb, h => by
    have ha' := List.pairwise_cons.1 (show Sorted (p.1 :: a.map Prod.fst) from ha)
    have hb' := List.pairwise_cons.1 (show Sorted (q.1 :: b.map Prod.fst) from hb)
    have e : p = q := by
      have h1 := (h p).1 (List.mem_cons_self ..)
      have h2 := (h q).2 (List.mem_cons_self ..)
      rcases List.mem_cons.1 h1 with e | h1
      · exact e
      · rcases List.mem_cons.1 h2 with e | h2
        · exact e.symm
        · have q1 := hb'.1 _ (List.mem_map.2 ⟨p, h1, rfl⟩)
          have q2 := ha'.1 _ (List.mem_map.2 ⟨q, h2, rfl⟩)
          grind
    subst e
    have hp : ∀ r ∈ a, r ≠ p := fun r hr e => by
      have := ha'.1 _ (List.mem_map.2 ⟨r, hr, rfl⟩)
      rw [e] at this; grind
    have hq : ∀ r ∈ b, r ≠ p := fun r hr e => by
      have := hb'.1 _ (List.mem_map.2 ⟨r, hr, rfl⟩)
      rw [e] at this; grind
    rw [sorted_ext ha'.2 hb'.2 fun r => ⟨fun hr => by
      rcases List.mem_cons.1 ((h r).1 (List.mem_cons_of_mem _ hr)) with e | h3
      · exact absurd e (hp r hr)
      · exact h3, fun hr => by
      rcases List.mem_cons.1 ((h r).2 (List.mem_cons_of_mem _ hr)) with e | h3
      · exact absurd e (hq r hr)
      · exact h3⟩]
/-! levels -/
def lvl : (h : Nat) → List (Tr V h) → List (List Nat)
  | 0, now => [now.map (szT 0)]
  | h + 1, now => now.map (szT (h + 1)) :: lvl h (now.flatMap fun t => t.2)
def levels : TO V → List (List Nat)
  | none => []
  | some ⟨h, t⟩ => lvl h [t]
theorem lvl_len : ∀ {h : Nat} {now : List (Tr V h)}, (lvl h now).length = h + 1
  | 0, now => rfl
  | h + 1, now => by show (lvl h _).length + 1 = _; rw [lvl_len]
theorem lvl_last : ∀ {h : Nat} {now : List (Tr V h)}, ((lvl h now).getLast?.map List.sum).getD 0 = (now.flatMap (toL h)).length
  | 0, now => by
    show (now.map (szT 0)).sum = _
    rw [List.length_flatMap]; rfl
  | h + 1, now => by
    have ih := lvl_last (h := h) (now := now.flatMap fun t => t.2)
    have e : (lvl (h + 1) now).getLast? = (lvl h (now.flatMap fun t => t.2)).getLast? := by
      show (_ :: lvl h _).getLast? = _
      have : (lvl h (now.flatMap fun t => t.2)) ≠ [] := fun e => by have := lvl_len (h := h) (now := now.flatMap fun t => t.2); rw [e] at this; simp at this
      exact List.getLast?_cons_of_ne_nil this
    rw [e, ih, List.flatMap_assoc]; rfl
end
end Go.Bt

/- Whole trees as objects. -/
namespace Go.Gx
open Go.Bt Go.RowKit
section
variable {V : Type} {κ : Kd V} {w w' : World} {F G H W R R' : Nat → Prop} {base b t h p q n tT : Nat} {v root : Value} {k : Ky} {x : V} {o : TO V} {tr : Tr V h}
theorem TreeR.monoR : ∀ {h : Nat} {p : Nat} {tr : Tr V h} {W : Nat → Prop}, TreeR κ R w h p tr W → (∀ k, R k → R' k) → TreeR κ R' w h p tr W
  | 0, _, _, _, ⟨pv, D, L, e⟩, hs => ⟨pv, D, { L with kr := fun x hx k hk => hs k (L.kr x hx k hk) }, e⟩
  | _ + 1, _, _, _, ⟨kv, cv, K, P, G, N, Ks, e⟩, hs => ⟨kv, cv, K, P, G, { N with kr := fun x hx k hk => hs k (N.kr x hx k hk) }, Ks.imp fun _ _ _ q _ => TreeR.monoR q hs, e⟩
theorem TreeR.ltR : ∀ {h : Nat} {p : Nat} {tr : Tr V h} {W : Nat → Prop}, TreeR κ R w h p tr W → TreeR κ (fun j => R j ∧ j < w.heap.size) w h p tr W
  | 0, _, _, _, ⟨pv, D, L, e⟩ => ⟨pv, D, { L with kr := fun x hx k hk => ⟨L.kr x hx k hk, ((L.ks x hx).lt k hk).2⟩ }, e⟩
  | _ + 1, _, _, _, ⟨kv, cv, K, P, G, N, Ks, e⟩ => ⟨kv, cv, K, P, G, { N with kr := fun x hx k hk => ⟨N.kr x hx k hk, ((N.ks x hx).lt k hk).2⟩ }, Ks.imp fun _ _ _ q _ => TreeR.ltR q, e⟩
/-- A tree that has a root. -/
def TreeO (κ : Kd V) (R : Nat → Prop) (w : World) (o : TO V) (q : Nat) (W : Nat → Prop) : Prop := match o with | none => False | some ⟨h, t⟩ => TreeR κ R w h q t W
theorem TreeO.lt (T : TreeO κ R w o q W) : ∀ k, W k → 0 ≤ k ∧ k < w.heap.size := by
  match o, T with
  | some ⟨h, t⟩, T => exact (show TreeR κ R w h q t W from T).lt
theorem TreeO.keepG (T : TreeO κ R w o q W) (E : Gr w w' H) (hd : Dj W H) (hn : NoK w H) : TreeO κ R w' o q W := by
  match o, T with
  | some ⟨h, t⟩, T => exact TreeR.keepG (show TreeR κ R w h q t W from T) E hd hn
theorem TreeO.monoR (T : TreeO κ R w o q W) (hs : ∀ k, R k → R' k) : TreeO κ R' w o q W := by
  match o, T with
  | some ⟨h, t⟩, T => exact TreeR.monoR (show TreeR κ R w h q t W from T) hs
def TopR (κ : Kd V) (tT base : Nat) (w : World) (p : Nat) (o : TO V) (F : Nat → Prop) : Prop :=
  F p ∧ (∀ k, F k → base ≤ k ∧ k < w.heap.size) ∧ OkO o ∧ ∃ root, Bx w p tT [root] ∧ (o = none ∧ root = .pointer none ∨ ∃ q R W, root = ptr q 0 ∧ TreeO κ R w o q W ∧ (∀ k, W k → F k) ∧ ∀ k, R k → F k)
theorem TopR.lt (T : TopR κ tT base w p o F) : ∀ k, F k → base ≤ k ∧ k < w.heap.size := T.2.1
theorem TopR.keepG (T : TopR κ tT base w p o F) (E : Gr w w' H) (hd : Dj F H) : TopR κ tT base w' p o F := by
  obtain ⟨h1, h2, h3, root, hB, hr⟩ := T
  refine ⟨h1, fun k hk => ⟨(h2 k hk).1, Nat.lt_of_lt_of_le (h2 k hk).2 E.size⟩, h3, root, hB.keepG E (hd p h1), ?_⟩
  rcases hr with hr | ⟨q, R, W, e, hT, hW, hR⟩
  · exact .inl hr
  · refine .inr ⟨q, R, W, e, ?_, hW, hR⟩
    match o, hT with
    | some ⟨h, t⟩, hT => exact TreeR.keepR hT E (fun k hk => hd k (hW k hk)) (fun k hk => hd k (hR k hk))
/-- The tree behind a put: all that is new is its own. -/
theorem TopR.after {o2 : TO V} (T : TopR κ tT base w p o F) (hb : base ≤ w.heap.size) (E : w.heap.size ≤ w'.heap.size) (hO : OkO o2) (hB : Bx w' p tT [ptr q 0]) (hT : TreeO κ (fun j => F j ∨ w.heap.size ≤ j) w' o2 q W) (hW : ∀ j, W j → F j ∨ w.heap.size ≤ j) : ∃ F', TopR κ tT base w' p o2 F' ∧ NewF w.heap.size F F' := by
  refine ⟨fun j => F j ∨ (w.heap.size ≤ j ∧ j < w'.heap.size), ⟨.inl T.1, fun j hj => ?_, hO, _, hB, .inr ?_⟩, fun j hj => hj.imp id And.left⟩
  · rcases hj with hj | hj
    · have := T.2.1 j hj; omega
    · omega
  · match o2, hT with
    | some ⟨h, t⟩, hT =>
      have hT : TreeR κ (fun j => F j ∨ w.heap.size ≤ j) w' h q t W := hT
      refine ⟨q, _, W, rfl, hT.ltR, fun j hj => ?_, fun j hj => ?_⟩
      · exact (hW j hj).imp id fun h => ⟨h, hT.ty.lt j hj⟩
      · exact hj.1.imp id fun h => ⟨h, hj.2⟩
end
end Go.Gx
