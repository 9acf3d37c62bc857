/- Walks, written by a program: what each function of the translation hands back. -/
import Derived.Test.YtcpfdfejojghbaaB2
set_option linter.unusedVariables false
set_option linter.unusedSimpArgs false

namespace Go.Proofs.Ytcpfdfejojghbaa
open Go.Gx Go.RowKit
attribute [local irreducible] wpList wpStill Code.wp Calls

theorem InsK {n i ub : Nat} {v x0 : Value} {cs : List Value} {w : World} (hO : Own w 0 27 1 v n cs) (hU : Bx w ub 27 [x0]) (h1 : cs.all Value.oneCell' = true) (hx1 : ([x0]).all Value.oneCell' = true) (hi : i ≤ n) (hn : n ≤ 1000) (hne : v.ownBlock ≠ some ub) : Ret Try.prog 67 #[v, (Value.int .i64 ((i : Nat) : Int)), (Value.slice (some ⟨ub, 0, none⟩) 1 1)] w (fun v' w' => w.grownBy w' v.ownBlock ∧ Own w' 0 27 1 v' (n + 1) (cs.take (i * 1) ++ [x0] ++ cs.drop (i * 1)) ∧ (v'.ownBlock = v.ownBlock ∨ ∀ k, v'.ownBlock = some k → w.heap.size ≤ k)) := by
 have h0 : 0 ≤ w.heap.size := Nat.zero_le _
 have hlt := hU.lt
 have hO0 := hO.1
 have hb := grown_refl w v.ownBlock
 refine enter (N := 95) Try.func67 rfl rfl (by simp) fun a0 hN hd hA => ?_
 have s0 : a0.tmps.getD 0 undef = v := hA 0 (by simp)
 have s1 : a0.tmps.getD 1 undef = (Value.int .i64 ((i : Nat) : Int)) := hA 1 (by simp)
 have s2 : a0.tmps.getD 2 undef = (Value.slice (some ⟨ub, 0, none⟩) 1 1) := hA 2 (by simp)
 clear hA
 refine seq_any fun K773 hK773 => one_reg (op_assign rfl ?_)
 refine reg_nil (hK773 _ _ (seq_any fun K774 hK774 => one_reg (op_move (ev_base hN rfl s0) (op_move (ev_base hN rfl s1) (op_slice_cutS (k := i) slt90 (ev_hit hN rfl) hO (ev_hit hN rfl) (by omega) hi ?_)))))
 refine reg_nil (hK774 _ _ (seq_any fun K775 hK775 => one_reg (op_move (ev_base hN rfl s2) (op_len_rd Try.underlying90 (ev_hit hN rfl) (RdC.ofBx (sz := 1) (n := 1) hU rfl (by decide)) ?_))))
 refine op_assign (ev_hit hN rfl) (reg_nil (hK775 _ _ ?_))
 refine seq_any fun K776 hK776 => seq_any fun K777 hK777 => one_reg (op_move (ev_hit hN rfl) (op_bin (v := .bool false) (ev_hit hN rfl) rfl (by rw [binOp_eql]; rfl) (reg_nil (hK777 _ _ ?_))))
 refine wp_cond_false (ev_hit hN rfl) (wp_skip (hK776 _ _ (seq_any fun K778 hK778 => one_reg (op_move (ev_base hN rfl s0) (op_len_rd Try.underlying90 (ev_hit hN rfl) hO.rdw ?_)))))
 refine op_assign (ev_hit hN rfl) (reg_nil (hK778 _ _ (seq_any fun K779 hK779 => seq_any fun K780 hK780 => ?_)))
 refine one_reg (op_move (ev_base hN rfl s1) (op_move (ev_hit hN rfl) (op_eql (ev_hit hN rfl) (ev_hit hN rfl) (fun c22 => ?_) (fun c22 => ?_))))
 ·
  refine reg_nil (hK780 _ _ (wp_cond_true (ev_hit hN rfl) (seq_any fun K781 hK781 => one_reg (op_move (ev_base hN rfl s0) (op_move (ev_base hN rfl s2) ?_)))))
  have hP787 := hO
  refine op_append slt90 (ev_hit hN rfl) hP787 (ev_hit hN rfl) (Src.ofRd Try.underlying90 (by decide) (RdC.ofBx (sz := 1) (n := 1) hU rfl (by decide)) hx1) (by unfold maxLen; omega) (by omega) (Nat.le_trans (by assumption) hb.size) ?_
  intro v782 w783 hO785 E784 hm786
  have z_w783 := E784.size
  have hb := grow_stepX hb E784 rfl
  have hO785 : Own w783 0 27 1 v782 (n + 1) ((cs ++ [x0])) := by simpa [u8v, sv] using hO785
  have ne_ub_v782 : v782.ownBlock ≠ some ub := ne_step (w1 := w) ⟨E784, hm786⟩ (by omega) hne
  refine op_assign (ev_hit hN rfl) (reg_nil (hK781 _ _ (wp_ret (then_ret ( ?_)))))
  refine ret1 rfl hd (ev_hit hN rfl) ⟨_, rfl, ?_⟩
  exact ⟨hb, hO785.cast rfl (by rw [show i = n by omega]; exact (ins_end hO0).symm), hm786⟩
 ·
  refine reg_nil (hK780 _ _ (wp_cond_false (ev_hit hN rfl) (wp_skip ?_)))
  refine hK779 _ _ (seq_any fun K788 hK788 => seq_any fun K789 hK789 => one_reg (op_move (ev_hit hN rfl) (op_move (ev_hit hN rfl) (op_add (ev_hit hN rfl) (ev_hit hN rfl) (add64 (by omega)) ?_))))
  refine op_move (ev_base hN rfl s0) ?_
  obtain ⟨cap790, hcap791_1, hcap791_2, hcap791⟩ := hO.capOf
  have hcap791_3 : cap790 ≤ 9223372036854775807 := hcap791_2
  refine op_cap (c := cap790) Try.underlying90 (by rw [(ev_hit hN rfl)]; exact hcap791) ?_
  refine op_gtr (ev_hit hN rfl) (ev_hit hN rfl) (fun c31 => ?_) (fun c31 => ?_)
  ·
   refine reg_nil ?_
   refine hK789 _ _ (wp_cond_true (ev_hit hN rfl) (seq_any fun K792 hK792 => one_reg (op_move (ev_base hN rfl s0) (op_move (ev_base hN rfl s1) (op_slice_hiC (m := i) slt90 (ev_hit hN rfl) hcap791 (ev_hit hN rfl) rfl (by omega) ?_)))))
   refine op_move (ev_hit hN rfl) (op_move (ev_hit hN rfl) (op_add (ev_hit hN rfl) (ev_hit hN rfl) (add64 (by omega)) ?_))
   refine op_move (ev_base hN rfl s1) (op_sub (r := ((n + 1 - i : Nat) : Int)) (ev_hit hN rfl) (ev_hit hN rfl) ((sub64 (by omega)).trans (by omega)) ?_)
   refine op_append_zeros_grow (i := i) (m := n + 1 - i) slt90 Try.underlying3 (ev_hit hN rfl) hO hcap791 hi (ev_hit hN rfl) rfl (by omega) (by omega) (by omega) (by omega) (Nat.zero_le _) ?_
   intro v793 w794 zs795 hO796 E797 hf798
   have hO796 : Own w794 w.heap.size 27 1 v793 (n + 1) (cs.take (i * 1) ++ zs795) := (hO796.cast (by omega) rfl).rebase hf798
   have hzl : zs795.length = (n - i) * 1 + 1 * 1 := by have q1 := hO796.1; have q2 := hO.1; rw [List.length_append, List.length_take] at q1; omega
   have ne799 := fresh_ne hf798 hlt
   have dj800 : DJ v793 v := fun k hk hg => by have q1 := (hO796.lt k hk).1; have q2 := (hO.lt k hg).2; omega
   have z_w794 := E797.size
   have hO := hO.keep0 E797
   have hU := hU.keep0 E797
   have hb := grow_step0 hb E797
   refine op_assign (ev_hit hN rfl) ?_
   refine reg_nil (hK792 _ _ (seq_any fun K801 hK801 => one_reg (op_move (ev_hit hN rfl) (op_move (ev_base hN rfl s1) (op_slice_cutS (k := i) slt90 (ev_hit hN rfl) hO796 (ev_hit hN rfl) (by omega) (by omega) ?_)))))
   refine op_move (ev_base hN rfl s2) ?_
   have hP805 := hO796
   refine op_copy_cutS (k := i) (q := 1) slt90 (ev_hit hN rfl) hP805 (ev_hit hN rfl) (RdC.ofBx (sz := 1) (n := 1) hU rfl (by decide)) hx1 (by omega) (Nat.le_refl _) (.inl rfl) ?_
   intro w802 hO804 E803
   have z_w802 := E803.size
   have hO := hO.keepD E803 dj800.symm
   have hb := grow_stepO hb hP805 E803 (by omega)
   refine reg_nil (hK801 _ _ (seq_any fun K806 hK806 => reg_from mixed ?_))
   intro w808 E807
   have z_w808 := E807.size
   have hO := hO.keep0 E807
   have hO804 := hO804.keep0 E807
   have hb := grow_step0 hb E807
   refine from_still (m := 8) 8 (hd := [_, _, _, _, _, _, _, _]) (by kernel_rfl) rfl rfl ?_
   refine st_step rfl (fun _ h9 => op_move (ev_hit hN rfl) h9) ?_
   refine st_step rfl (fun _ h9 => op_move (ev_base hN rfl s1) h9) ?_
   refine st_step rfl (fun _ h9 => op_move (ev_hit hN rfl) h9) ?_
   refine st_step rfl (fun _ h9 => op_add (ev_hit hN rfl) (ev_hit hN rfl) (add64 (by omega)) h9) ?_
   refine st_step rfl (fun _ h9 => op_slice_cutS (k := i + 1) slt90 (ev_hit hN rfl) hO804 (ev_hit hN rfl) (by omega) (by omega) h9) ?_
   refine st_step rfl (fun _ h9 => op_move (ev_base hN rfl s0) h9) ?_
   refine st_step rfl (fun _ h9 => op_move (ev_base hN rfl s1) h9) ?_
   refine st_step rfl (fun _ h9 => op_slice_cutS (k := i) slt90 (ev_hit hN rfl) hO (ev_hit hN rfl) (by omega) hi h9) ?_
   refine st_nil ?_
   refine from_seq (tl := [_]) (by decide) (by kernel_rfl) rfl ?_
   have hP812 := hO804
   refine op_copy_cutS (k := i + 1) (q := n - i) slt90 (ev_hit hN rfl) hP812 (ev_hit hN rfl) (hO.cutO hi).rdw (all_drop_take h1) (by omega) (Nat.le_refl _) (.inl rfl) ?_
   intro w809 hO811 E810
   have z_w809 := E810.size
   have hb := grow_stepO hb hP812 E810 (by omega)
   refine reg_nil (hK806 _ _ ?_)
   refine seq_any fun K813 hK813 => one_reg (op_move (ev_hit hN rfl) (op_assign (ev_hit hN rfl) (reg_nil (hK813 _ _ (wp_ret (then_ret ( ?_)))))))
   refine ret1 rfl hd (ev_hit hN rfl) ⟨_, rfl, ?_⟩
   exact ⟨hb, (hO811.mono (Nat.zero_le _)).cast rfl (by rw [Nat.add_mul i 1 1]; exact ins_grow (by omega) hzl rfl), .inr hf798⟩
  ·
   refine reg_nil (hK789 _ _ (wp_cond_false (ev_hit hN rfl) (wp_skip ?_)))
   refine hK788 _ _ (seq_any fun K814 hK814 => one_reg (op_move (ev_base hN rfl s0) (op_move (ev_hit hN rfl) (op_move (ev_hit hN rfl) (op_add (ev_hit hN rfl) (ev_hit hN rfl) (add64 (by omega)) ?_)))))
   refine op_slice_hiC (m := n + 1) slt90 (ev_hit hN rfl) hcap791 (ev_hit hN rfl) (by omega) (by omega) ?_
   obtain ⟨sp815, hW816⟩ := hO.wide (m := n + 1) hcap791 (by omega) (by omega)
   refine op_assign (ev_hit hN rfl) (reg_nil (hK814 _ _ (seq_any fun K817 hK817 => ?_)))
   refine seq_any fun K818 hK818 => one_reg (op_move (ev_base hN rfl s2) (op_move (ev_hit hN rfl) (op_move (ev_base hN rfl s1) (op_move (ev_hit hN rfl) (op_add (ev_hit hN rfl) (ev_hit hN rfl) (add64 (by omega)) ?_)))))
   refine op_slice_cutS (k := i + 1) slt90 (ev_hit hN rfl) hW816 (ev_hit hN rfl) (by omega) (by omega) ?_
   refine op_ext2 (ev_hit hN rfl) (ev_hit hN rfl) (ovl99 hU hW816 (hiV_ne hne) (by omega)) ?_
   refine op_not (ev_hit hN rfl) ?_
   refine reg_nil (hK818 _ _ (wp_cond_true (ev_hit hN rfl) (seq_any fun K819 hK819 => reg_from mixed ?_)))
   intro w821 E820
   have z_w821 := E820.size
   have hU := hU.keep0 E820
   have hW816 := hW816.keep0 E820
   have hb := grow_step0 hb E820
   refine from_still (m := 8) 8 (hd := [_, _, _, _, _, _, _, _]) (by kernel_rfl) rfl rfl ?_
   refine st_step rfl (fun _ h9 => op_move (ev_hit hN rfl) h9) ?_
   refine st_step rfl (fun _ h9 => op_move (ev_base hN rfl s1) h9) ?_
   refine st_step rfl (fun _ h9 => op_move (ev_hit hN rfl) h9) ?_
   refine st_step rfl (fun _ h9 => op_add (ev_hit hN rfl) (ev_hit hN rfl) (add64 (by omega)) h9) ?_
   refine st_step rfl (fun _ h9 => op_slice_cutS (k := i + 1) slt90 (ev_hit hN rfl) hW816 (ev_hit hN rfl) (by omega) (by omega) h9) ?_
   refine st_step rfl (fun _ h9 => op_move (ev_hit hN rfl) h9) ?_
   refine st_step rfl (fun _ h9 => op_move (ev_base hN rfl s1) h9) ?_
   refine st_step rfl (fun _ h9 => op_slice_cutS (k := i) slt90 (ev_hit hN rfl) hW816 (ev_hit hN rfl) (by omega) (by omega) h9) ?_
   refine st_nil ?_
   refine from_seq (tl := [_]) (by decide) (by kernel_rfl) rfl ?_
   have hP825 := hW816
   refine op_copy_cutS (k := i + 1) (q := n - i) slt90 (ev_hit hN rfl) hP825 (ev_hit hN rfl) (hW816.cutO (k := i) (by omega)).rdw (all_mid h1 (by have := hO0; omega)) (by omega) (by omega) (.inr (by omega)) ?_
   intro w822 hO824 E823
   have z_w822 := E823.size
   have hU := hU.keep E823 (fun hh => (hiV_ne hne) hh.symm)
   have hb := grow_stepX hb E823 (hiV_ob v (n + 1))
   refine reg_nil (hK819 _ _ (seq_any fun K826 hK826 => one_reg (op_move (ev_hit hN rfl) (op_move (ev_base hN rfl s1) (op_slice_cutS (k := i) slt90 (ev_hit hN rfl) hO824 (ev_hit hN rfl) (by omega) (by omega) ?_)))))
   refine op_move (ev_base hN rfl s2) ?_
   have hP830 := hO824
   refine op_copy_cutS (k := i) (q := 1) slt90 (ev_hit hN rfl) hP830 (ev_hit hN rfl) (RdC.ofBx (sz := 1) (n := 1) hU rfl (by decide)) hx1 (by omega) (by decide) (.inl rfl) ?_
   intro w827 hO829 E828
   have z_w827 := E828.size
   have hb := grow_stepX hb E828 (hiV_ob v (n + 1))
   refine reg_nil (hK826 _ _ ?_)
   refine seq_any fun K831 hK831 => one_reg (op_move (ev_hit hN rfl) (op_assign (ev_hit hN rfl) (reg_nil (hK831 _ _ (wp_ret (then_ret ( ?_)))))))
   refine ret1 rfl hd (ev_hit hN rfl) ⟨_, rfl, ?_⟩
   exact ⟨hb, hO829.cast rfl (by rw [Nat.add_mul i 1 1]; exact ins_room (by omega) (by have := hW816.1; omega) rfl), .inl (hiV_ob _ _)⟩

theorem InsI {n i ub : Nat} {v x0 x1 : Value} {cs : List Value} {w : World} (hO : Own w 0 51 2 v n cs) (hU : Bx w ub 51 [x0, x1]) (h1 : cs.all Value.oneCell' = true) (hx1 : ([x0, x1]).all Value.oneCell' = true) (hi : i ≤ n) (hn : n ≤ 1000) (hne : v.ownBlock ≠ some ub) : Ret Try.prog 83 #[v, (Value.int .i64 ((i : Nat) : Int)), (Value.slice (some ⟨ub, 0, none⟩) 1 1)] w (fun v' w' => w.grownBy w' v.ownBlock ∧ Own w' 0 51 2 v' (n + 1) (cs.take (i * 2) ++ [x0, x1] ++ cs.drop (i * 2)) ∧ (v'.ownBlock = v.ownBlock ∨ ∀ k, v'.ownBlock = some k → w.heap.size ≤ k)) := by
 have h0 : 0 ≤ w.heap.size := Nat.zero_le _
 have hlt := hU.lt
 have hO0 := hO.1
 have hb := grown_refl w v.ownBlock
 refine enter (N := 95) Try.func83 rfl rfl (by simp) fun a0 hN hd hA => ?_
 have s0 : a0.tmps.getD 0 undef = v := hA 0 (by simp)
 have s1 : a0.tmps.getD 1 undef = (Value.int .i64 ((i : Nat) : Int)) := hA 1 (by simp)
 have s2 : a0.tmps.getD 2 undef = (Value.slice (some ⟨ub, 0, none⟩) 1 1) := hA 2 (by simp)
 clear hA
 refine seq_any fun K832 hK832 => one_reg (op_assign rfl ?_)
 refine reg_nil (hK832 _ _ (seq_any fun K833 hK833 => one_reg (op_move (ev_base hN rfl s0) (op_move (ev_base hN rfl s1) (op_slice_cutS (k := i) slt48 (ev_hit hN rfl) hO (ev_hit hN rfl) (by omega) hi ?_)))))
 refine reg_nil (hK833 _ _ (seq_any fun K834 hK834 => one_reg (op_move (ev_base hN rfl s2) (op_len_rd Try.underlying48 (ev_hit hN rfl) (RdC.ofBx (sz := 2) (n := 1) hU rfl (by decide)) ?_))))
 refine op_assign (ev_hit hN rfl) (reg_nil (hK834 _ _ ?_))
 refine seq_any fun K835 hK835 => seq_any fun K836 hK836 => one_reg (op_move (ev_hit hN rfl) (op_bin (v := .bool false) (ev_hit hN rfl) rfl (by rw [binOp_eql]; rfl) (reg_nil (hK836 _ _ ?_))))
 refine wp_cond_false (ev_hit hN rfl) (wp_skip (hK835 _ _ (seq_any fun K837 hK837 => one_reg (op_move (ev_base hN rfl s0) (op_len_rd Try.underlying48 (ev_hit hN rfl) hO.rdw ?_)))))
 refine op_assign (ev_hit hN rfl) (reg_nil (hK837 _ _ (seq_any fun K838 hK838 => seq_any fun K839 hK839 => ?_)))
 refine one_reg (op_move (ev_base hN rfl s1) (op_move (ev_hit hN rfl) (op_eql (ev_hit hN rfl) (ev_hit hN rfl) (fun c22 => ?_) (fun c22 => ?_))))
 ·
  refine reg_nil (hK839 _ _ (wp_cond_true (ev_hit hN rfl) (seq_any fun K840 hK840 => one_reg (op_move (ev_base hN rfl s0) (op_move (ev_base hN rfl s2) ?_)))))
  have hP846 := hO
  refine op_append slt48 (ev_hit hN rfl) hP846 (ev_hit hN rfl) (Src.ofRd Try.underlying48 (by decide) (RdC.ofBx (sz := 2) (n := 1) hU rfl (by decide)) hx1) (by unfold maxLen; omega) (by omega) (Nat.le_trans (by assumption) hb.size) ?_
  intro v841 w842 hO844 E843 hm845
  have z_w842 := E843.size
  have hb := grow_stepX hb E843 rfl
  have hO844 : Own w842 0 51 2 v841 (n + 1) ((cs ++ [x0, x1])) := by simpa [u8v, sv] using hO844
  have ne_ub_v841 : v841.ownBlock ≠ some ub := ne_step (w1 := w) ⟨E843, hm845⟩ (by omega) hne
  refine op_assign (ev_hit hN rfl) (reg_nil (hK840 _ _ (wp_ret (then_ret ( ?_)))))
  refine ret1 rfl hd (ev_hit hN rfl) ⟨_, rfl, ?_⟩
  exact ⟨hb, hO844.cast rfl (by rw [show i = n by omega]; exact (ins_end hO0).symm), hm845⟩
 ·
  refine reg_nil (hK839 _ _ (wp_cond_false (ev_hit hN rfl) (wp_skip ?_)))
  refine hK838 _ _ (seq_any fun K847 hK847 => seq_any fun K848 hK848 => one_reg (op_move (ev_hit hN rfl) (op_move (ev_hit hN rfl) (op_add (ev_hit hN rfl) (ev_hit hN rfl) (add64 (by omega)) ?_))))
  refine op_move (ev_base hN rfl s0) ?_
  obtain ⟨cap849, hcap850_1, hcap850_2, hcap850⟩ := hO.capOf
  have hcap850_3 : cap849 ≤ 9223372036854775807 := hcap850_2
  refine op_cap (c := cap849) Try.underlying48 (by rw [(ev_hit hN rfl)]; exact hcap850) ?_
  refine op_gtr (ev_hit hN rfl) (ev_hit hN rfl) (fun c31 => ?_) (fun c31 => ?_)
  ·
   refine reg_nil ?_
   refine hK848 _ _ (wp_cond_true (ev_hit hN rfl) (seq_any fun K851 hK851 => one_reg (op_move (ev_base hN rfl s0) (op_move (ev_base hN rfl s1) (op_slice_hiC (m := i) slt48 (ev_hit hN rfl) hcap850 (ev_hit hN rfl) rfl (by omega) ?_)))))
   refine op_move (ev_hit hN rfl) (op_move (ev_hit hN rfl) (op_add (ev_hit hN rfl) (ev_hit hN rfl) (add64 (by omega)) ?_))
   refine op_move (ev_base hN rfl s1) (op_sub (r := ((n + 1 - i : Nat) : Int)) (ev_hit hN rfl) (ev_hit hN rfl) ((sub64 (by omega)).trans (by omega)) ?_)
   refine op_append_zeros_grow (i := i) (m := n + 1 - i) slt48 Try.underlying3 (ev_hit hN rfl) hO hcap850 hi (ev_hit hN rfl) rfl (by omega) (by omega) (by omega) (by omega) (Nat.zero_le _) ?_
   intro v852 w853 zs854 hO855 E856 hf857
   have hO855 : Own w853 w.heap.size 51 2 v852 (n + 1) (cs.take (i * 2) ++ zs854) := (hO855.cast (by omega) rfl).rebase hf857
   have hzl : zs854.length = (n - i) * 2 + 1 * 2 := by have q1 := hO855.1; have q2 := hO.1; rw [List.length_append, List.length_take] at q1; omega
   have ne858 := fresh_ne hf857 hlt
   have dj859 : DJ v852 v := fun k hk hg => by have q1 := (hO855.lt k hk).1; have q2 := (hO.lt k hg).2; omega
   have z_w853 := E856.size
   have hO := hO.keep0 E856
   have hU := hU.keep0 E856
   have hb := grow_step0 hb E856
   refine op_assign (ev_hit hN rfl) ?_
   refine reg_nil (hK851 _ _ (seq_any fun K860 hK860 => one_reg (op_move (ev_hit hN rfl) (op_move (ev_base hN rfl s1) (op_slice_cutS (k := i) slt48 (ev_hit hN rfl) hO855 (ev_hit hN rfl) (by omega) (by omega) ?_)))))
   refine op_move (ev_base hN rfl s2) ?_
   have hP864 := hO855
   refine op_copy_cutS (k := i) (q := 1) slt48 (ev_hit hN rfl) hP864 (ev_hit hN rfl) (RdC.ofBx (sz := 2) (n := 1) hU rfl (by decide)) hx1 (by omega) (Nat.le_refl _) (.inl rfl) ?_
   intro w861 hO863 E862
   have z_w861 := E862.size
   have hO := hO.keepD E862 dj859.symm
   have hb := grow_stepO hb hP864 E862 (by omega)
   refine reg_nil (hK860 _ _ (seq_any fun K865 hK865 => reg_from mixed ?_))
   intro w867 E866
   have z_w867 := E866.size
   have hO := hO.keep0 E866
   have hO863 := hO863.keep0 E866
   have hb := grow_step0 hb E866
   refine from_still (m := 8) 8 (hd := [_, _, _, _, _, _, _, _]) (by kernel_rfl) rfl rfl ?_
   refine st_step rfl (fun _ h9 => op_move (ev_hit hN rfl) h9) ?_
   refine st_step rfl (fun _ h9 => op_move (ev_base hN rfl s1) h9) ?_
   refine st_step rfl (fun _ h9 => op_move (ev_hit hN rfl) h9) ?_
   refine st_step rfl (fun _ h9 => op_add (ev_hit hN rfl) (ev_hit hN rfl) (add64 (by omega)) h9) ?_
   refine st_step rfl (fun _ h9 => op_slice_cutS (k := i + 1) slt48 (ev_hit hN rfl) hO863 (ev_hit hN rfl) (by omega) (by omega) h9) ?_
   refine st_step rfl (fun _ h9 => op_move (ev_base hN rfl s0) h9) ?_
   refine st_step rfl (fun _ h9 => op_move (ev_base hN rfl s1) h9) ?_
   refine st_step rfl (fun _ h9 => op_slice_cutS (k := i) slt48 (ev_hit hN rfl) hO (ev_hit hN rfl) (by omega) hi h9) ?_
   refine st_nil ?_
   refine from_seq (tl := [_]) (by decide) (by kernel_rfl) rfl ?_
   have hP871 := hO863
   refine op_copy_cutS (k := i + 1) (q := n - i) slt48 (ev_hit hN rfl) hP871 (ev_hit hN rfl) (hO.cutO hi).rdw (all_drop_take h1) (by omega) (Nat.le_refl _) (.inl rfl) ?_
   intro w868 hO870 E869
   have z_w868 := E869.size
   have hb := grow_stepO hb hP871 E869 (by omega)
   refine reg_nil (hK865 _ _ ?_)
   refine seq_any fun K872 hK872 => one_reg (op_move (ev_hit hN rfl) (op_assign (ev_hit hN rfl) (reg_nil (hK872 _ _ (wp_ret (then_ret ( ?_)))))))
   refine ret1 rfl hd (ev_hit hN rfl) ⟨_, rfl, ?_⟩
   exact ⟨hb, (hO870.mono (Nat.zero_le _)).cast rfl (by rw [Nat.add_mul i 1 2]; exact ins_grow (by omega) hzl rfl), .inr hf857⟩
  ·
   refine reg_nil (hK848 _ _ (wp_cond_false (ev_hit hN rfl) (wp_skip ?_)))
   refine hK847 _ _ (seq_any fun K873 hK873 => one_reg (op_move (ev_base hN rfl s0) (op_move (ev_hit hN rfl) (op_move (ev_hit hN rfl) (op_add (ev_hit hN rfl) (ev_hit hN rfl) (add64 (by omega)) ?_)))))
   refine op_slice_hiC (m := n + 1) slt48 (ev_hit hN rfl) hcap850 (ev_hit hN rfl) (by omega) (by omega) ?_
   obtain ⟨sp874, hW875⟩ := hO.wide (m := n + 1) hcap850 (by omega) (by omega)
   refine op_assign (ev_hit hN rfl) (reg_nil (hK873 _ _ (seq_any fun K876 hK876 => ?_)))
   refine seq_any fun K877 hK877 => one_reg (op_move (ev_base hN rfl s2) (op_move (ev_hit hN rfl) (op_move (ev_base hN rfl s1) (op_move (ev_hit hN rfl) (op_add (ev_hit hN rfl) (ev_hit hN rfl) (add64 (by omega)) ?_)))))
   refine op_slice_cutS (k := i + 1) slt48 (ev_hit hN rfl) hW875 (ev_hit hN rfl) (by omega) (by omega) ?_
   refine op_ext2 (ev_hit hN rfl) (ev_hit hN rfl) (ovl115 hU hW875 (hiV_ne hne) (by omega)) ?_
   refine op_not (ev_hit hN rfl) ?_
   refine reg_nil (hK877 _ _ (wp_cond_true (ev_hit hN rfl) (seq_any fun K878 hK878 => reg_from mixed ?_)))
   intro w880 E879
   have z_w880 := E879.size
   have hU := hU.keep0 E879
   have hW875 := hW875.keep0 E879
   have hb := grow_step0 hb E879
   refine from_still (m := 8) 8 (hd := [_, _, _, _, _, _, _, _]) (by kernel_rfl) rfl rfl ?_
   refine st_step rfl (fun _ h9 => op_move (ev_hit hN rfl) h9) ?_
   refine st_step rfl (fun _ h9 => op_move (ev_base hN rfl s1) h9) ?_
   refine st_step rfl (fun _ h9 => op_move (ev_hit hN rfl) h9) ?_
   refine st_step rfl (fun _ h9 => op_add (ev_hit hN rfl) (ev_hit hN rfl) (add64 (by omega)) h9) ?_
   refine st_step rfl (fun _ h9 => op_slice_cutS (k := i + 1) slt48 (ev_hit hN rfl) hW875 (ev_hit hN rfl) (by omega) (by omega) h9) ?_
   refine st_step rfl (fun _ h9 => op_move (ev_hit hN rfl) h9) ?_
   refine st_step rfl (fun _ h9 => op_move (ev_base hN rfl s1) h9) ?_
   refine st_step rfl (fun _ h9 => op_slice_cutS (k := i) slt48 (ev_hit hN rfl) hW875 (ev_hit hN rfl) (by omega) (by omega) h9) ?_
   refine st_nil ?_
   refine from_seq (tl := [_]) (by decide) (by kernel_rfl) rfl ?_
   have hP884 := hW875
   refine op_copy_cutS (k := i + 1) (q := n - i) slt48 (ev_hit hN rfl) hP884 (ev_hit hN rfl) (hW875.cutO (k := i) (by omega)).rdw (all_mid h1 (by have := hO0; omega)) (by omega) (by omega) (.inr (by omega)) ?_
   intro w881 hO883 E882
   have z_w881 := E882.size
   have hU := hU.keep E882 (fun hh => (hiV_ne hne) hh.symm)
   have hb := grow_stepX hb E882 (hiV_ob v (n + 1))
   refine reg_nil (hK878 _ _ (seq_any fun K885 hK885 => one_reg (op_move (ev_hit hN rfl) (op_move (ev_base hN rfl s1) (op_slice_cutS (k := i) slt48 (ev_hit hN rfl) hO883 (ev_hit hN rfl) (by omega) (by omega) ?_)))))
   refine op_move (ev_base hN rfl s2) ?_
   have hP889 := hO883
   refine op_copy_cutS (k := i) (q := 1) slt48 (ev_hit hN rfl) hP889 (ev_hit hN rfl) (RdC.ofBx (sz := 2) (n := 1) hU rfl (by decide)) hx1 (by omega) (by decide) (.inl rfl) ?_
   intro w886 hO888 E887
   have z_w886 := E887.size
   have hb := grow_stepX hb E887 (hiV_ob v (n + 1))
   refine reg_nil (hK885 _ _ ?_)
   refine seq_any fun K890 hK890 => one_reg (op_move (ev_hit hN rfl) (op_assign (ev_hit hN rfl) (reg_nil (hK890 _ _ (wp_ret (then_ret ( ?_)))))))
   refine ret1 rfl hd (ev_hit hN rfl) ⟨_, rfl, ?_⟩
   exact ⟨hb, hO888.cast rfl (by rw [Nat.add_mul i 1 2]; exact ins_room (by omega) (by have := hW875.1; omega) rfl), .inl (hiV_ob _ _)⟩

theorem InsNI {n i ub : Nat} {v x0 : Value} {cs : List Value} {w : World} (hO : Own w 0 69 1 v n cs) (hU : Bx w ub 69 [x0]) (h1 : cs.all Value.oneCell' = true) (hx1 : ([x0]).all Value.oneCell' = true) (hi : i ≤ n) (hn : n ≤ 1000) (hne : v.ownBlock ≠ some ub) : Ret Try.prog 85 #[v, (Value.int .i64 ((i : Nat) : Int)), (Value.slice (some ⟨ub, 0, none⟩) 1 1)] w (fun v' w' => w.grownBy w' v.ownBlock ∧ Own w' 0 69 1 v' (n + 1) (cs.take (i * 1) ++ [x0] ++ cs.drop (i * 1)) ∧ (v'.ownBlock = v.ownBlock ∨ ∀ k, v'.ownBlock = some k → w.heap.size ≤ k)) := by
 have h0 : 0 ≤ w.heap.size := Nat.zero_le _
 have hlt := hU.lt
 have hO0 := hO.1
 have hb := grown_refl w v.ownBlock
 refine enter (N := 95) Try.func85 rfl rfl (by simp) fun a0 hN hd hA => ?_
 have s0 : a0.tmps.getD 0 undef = v := hA 0 (by simp)
 have s1 : a0.tmps.getD 1 undef = (Value.int .i64 ((i : Nat) : Int)) := hA 1 (by simp)
 have s2 : a0.tmps.getD 2 undef = (Value.slice (some ⟨ub, 0, none⟩) 1 1) := hA 2 (by simp)
 clear hA
 refine seq_any fun K891 hK891 => one_reg (op_assign rfl ?_)
 refine reg_nil (hK891 _ _ (seq_any fun K892 hK892 => one_reg (op_move (ev_base hN rfl s0) (op_move (ev_base hN rfl s1) (op_slice_cutS (k := i) slt113 (ev_hit hN rfl) hO (ev_hit hN rfl) (by omega) hi ?_)))))
 refine reg_nil (hK892 _ _ (seq_any fun K893 hK893 => one_reg (op_move (ev_base hN rfl s2) (op_len_rd Try.underlying113 (ev_hit hN rfl) (RdC.ofBx (sz := 1) (n := 1) hU rfl (by decide)) ?_))))
 refine op_assign (ev_hit hN rfl) (reg_nil (hK893 _ _ ?_))
 refine seq_any fun K894 hK894 => seq_any fun K895 hK895 => one_reg (op_move (ev_hit hN rfl) (op_bin (v := .bool false) (ev_hit hN rfl) rfl (by rw [binOp_eql]; rfl) (reg_nil (hK895 _ _ ?_))))
 refine wp_cond_false (ev_hit hN rfl) (wp_skip (hK894 _ _ (seq_any fun K896 hK896 => one_reg (op_move (ev_base hN rfl s0) (op_len_rd Try.underlying113 (ev_hit hN rfl) hO.rdw ?_)))))
 refine op_assign (ev_hit hN rfl) (reg_nil (hK896 _ _ (seq_any fun K897 hK897 => seq_any fun K898 hK898 => ?_)))
 refine one_reg (op_move (ev_base hN rfl s1) (op_move (ev_hit hN rfl) (op_eql (ev_hit hN rfl) (ev_hit hN rfl) (fun c22 => ?_) (fun c22 => ?_))))
 ·
  refine reg_nil (hK898 _ _ (wp_cond_true (ev_hit hN rfl) (seq_any fun K899 hK899 => one_reg (op_move (ev_base hN rfl s0) (op_move (ev_base hN rfl s2) ?_)))))
  have hP905 := hO
  refine op_append slt113 (ev_hit hN rfl) hP905 (ev_hit hN rfl) (Src.ofRd Try.underlying113 (by decide) (RdC.ofBx (sz := 1) (n := 1) hU rfl (by decide)) hx1) (by unfold maxLen; omega) (by omega) (Nat.le_trans (by assumption) hb.size) ?_
  intro v900 w901 hO903 E902 hm904
  have z_w901 := E902.size
  have hb := grow_stepX hb E902 rfl
  have hO903 : Own w901 0 69 1 v900 (n + 1) ((cs ++ [x0])) := by simpa [u8v, sv] using hO903
  have ne_ub_v900 : v900.ownBlock ≠ some ub := ne_step (w1 := w) ⟨E902, hm904⟩ (by omega) hne
  refine op_assign (ev_hit hN rfl) (reg_nil (hK899 _ _ (wp_ret (then_ret ( ?_)))))
  refine ret1 rfl hd (ev_hit hN rfl) ⟨_, rfl, ?_⟩
  exact ⟨hb, hO903.cast rfl (by rw [show i = n by omega]; exact (ins_end hO0).symm), hm904⟩
 ·
  refine reg_nil (hK898 _ _ (wp_cond_false (ev_hit hN rfl) (wp_skip ?_)))
  refine hK897 _ _ (seq_any fun K906 hK906 => seq_any fun K907 hK907 => one_reg (op_move (ev_hit hN rfl) (op_move (ev_hit hN rfl) (op_add (ev_hit hN rfl) (ev_hit hN rfl) (add64 (by omega)) ?_))))
  refine op_move (ev_base hN rfl s0) ?_
  obtain ⟨cap908, hcap909_1, hcap909_2, hcap909⟩ := hO.capOf
  have hcap909_3 : cap908 ≤ 9223372036854775807 := hcap909_2
  refine op_cap (c := cap908) Try.underlying113 (by rw [(ev_hit hN rfl)]; exact hcap909) ?_
  refine op_gtr (ev_hit hN rfl) (ev_hit hN rfl) (fun c31 => ?_) (fun c31 => ?_)
  ·
   refine reg_nil ?_
   refine hK907 _ _ (wp_cond_true (ev_hit hN rfl) (seq_any fun K910 hK910 => one_reg (op_move (ev_base hN rfl s0) (op_move (ev_base hN rfl s1) (op_slice_hiC (m := i) slt113 (ev_hit hN rfl) hcap909 (ev_hit hN rfl) rfl (by omega) ?_)))))
   refine op_move (ev_hit hN rfl) (op_move (ev_hit hN rfl) (op_add (ev_hit hN rfl) (ev_hit hN rfl) (add64 (by omega)) ?_))
   refine op_move (ev_base hN rfl s1) (op_sub (r := ((n + 1 - i : Nat) : Int)) (ev_hit hN rfl) (ev_hit hN rfl) ((sub64 (by omega)).trans (by omega)) ?_)
   refine op_append_zeros_grow (i := i) (m := n + 1 - i) slt113 Try.underlying3 (ev_hit hN rfl) hO hcap909 hi (ev_hit hN rfl) rfl (by omega) (by omega) (by omega) (by omega) (Nat.zero_le _) ?_
   intro v911 w912 zs913 hO914 E915 hf916
   have hO914 : Own w912 w.heap.size 69 1 v911 (n + 1) (cs.take (i * 1) ++ zs913) := (hO914.cast (by omega) rfl).rebase hf916
   have hzl : zs913.length = (n - i) * 1 + 1 * 1 := by have q1 := hO914.1; have q2 := hO.1; rw [List.length_append, List.length_take] at q1; omega
   have ne917 := fresh_ne hf916 hlt
   have dj918 : DJ v911 v := fun k hk hg => by have q1 := (hO914.lt k hk).1; have q2 := (hO.lt k hg).2; omega
   have z_w912 := E915.size
   have hO := hO.keep0 E915
   have hU := hU.keep0 E915
   have hb := grow_step0 hb E915
   refine op_assign (ev_hit hN rfl) ?_
   refine reg_nil (hK910 _ _ (seq_any fun K919 hK919 => one_reg (op_move (ev_hit hN rfl) (op_move (ev_base hN rfl s1) (op_slice_cutS (k := i) slt113 (ev_hit hN rfl) hO914 (ev_hit hN rfl) (by omega) (by omega) ?_)))))
   refine op_move (ev_base hN rfl s2) ?_
   have hP923 := hO914
   refine op_copy_cutS (k := i) (q := 1) slt113 (ev_hit hN rfl) hP923 (ev_hit hN rfl) (RdC.ofBx (sz := 1) (n := 1) hU rfl (by decide)) hx1 (by omega) (Nat.le_refl _) (.inl rfl) ?_
   intro w920 hO922 E921
   have z_w920 := E921.size
   have hO := hO.keepD E921 dj918.symm
   have hb := grow_stepO hb hP923 E921 (by omega)
   refine reg_nil (hK919 _ _ (seq_any fun K924 hK924 => reg_from mixed ?_))
   intro w926 E925
   have z_w926 := E925.size
   have hO := hO.keep0 E925
   have hO922 := hO922.keep0 E925
   have hb := grow_step0 hb E925
   refine from_still (m := 8) 8 (hd := [_, _, _, _, _, _, _, _]) (by kernel_rfl) rfl rfl ?_
   refine st_step rfl (fun _ h9 => op_move (ev_hit hN rfl) h9) ?_
   refine st_step rfl (fun _ h9 => op_move (ev_base hN rfl s1) h9) ?_
   refine st_step rfl (fun _ h9 => op_move (ev_hit hN rfl) h9) ?_
   refine st_step rfl (fun _ h9 => op_add (ev_hit hN rfl) (ev_hit hN rfl) (add64 (by omega)) h9) ?_
   refine st_step rfl (fun _ h9 => op_slice_cutS (k := i + 1) slt113 (ev_hit hN rfl) hO922 (ev_hit hN rfl) (by omega) (by omega) h9) ?_
   refine st_step rfl (fun _ h9 => op_move (ev_base hN rfl s0) h9) ?_
   refine st_step rfl (fun _ h9 => op_move (ev_base hN rfl s1) h9) ?_
   refine st_step rfl (fun _ h9 => op_slice_cutS (k := i) slt113 (ev_hit hN rfl) hO (ev_hit hN rfl) (by omega) hi h9) ?_
   refine st_nil ?_
   refine from_seq (tl := [_]) (by decide) (by kernel_rfl) rfl ?_
   have hP930 := hO922
   refine op_copy_cutS (k := i + 1) (q := n - i) slt113 (ev_hit hN rfl) hP930 (ev_hit hN rfl) (hO.cutO hi).rdw (all_drop_take h1) (by omega) (Nat.le_refl _) (.inl rfl) ?_
   intro w927 hO929 E928
   have z_w927 := E928.size
   have hb := grow_stepO hb hP930 E928 (by omega)
   refine reg_nil (hK924 _ _ ?_)
   refine seq_any fun K931 hK931 => one_reg (op_move (ev_hit hN rfl) (op_assign (ev_hit hN rfl) (reg_nil (hK931 _ _ (wp_ret (then_ret ( ?_)))))))
   refine ret1 rfl hd (ev_hit hN rfl) ⟨_, rfl, ?_⟩
   exact ⟨hb, (hO929.mono (Nat.zero_le _)).cast rfl (by rw [Nat.add_mul i 1 1]; exact ins_grow (by omega) hzl rfl), .inr hf916⟩
  ·
   refine reg_nil (hK907 _ _ (wp_cond_false (ev_hit hN rfl) (wp_skip ?_)))
   refine hK906 _ _ (seq_any fun K932 hK932 => one_reg (op_move (ev_base hN rfl s0) (op_move (ev_hit hN rfl) (op_move (ev_hit hN rfl) (op_add (ev_hit hN rfl) (ev_hit hN rfl) (add64 (by omega)) ?_)))))
   refine op_slice_hiC (m := n + 1) slt113 (ev_hit hN rfl) hcap909 (ev_hit hN rfl) (by omega) (by omega) ?_
   obtain ⟨sp933, hW934⟩ := hO.wide (m := n + 1) hcap909 (by omega) (by omega)
   refine op_assign (ev_hit hN rfl) (reg_nil (hK932 _ _ (seq_any fun K935 hK935 => ?_)))
   refine seq_any fun K936 hK936 => one_reg (op_move (ev_base hN rfl s2) (op_move (ev_hit hN rfl) (op_move (ev_base hN rfl s1) (op_move (ev_hit hN rfl) (op_add (ev_hit hN rfl) (ev_hit hN rfl) (add64 (by omega)) ?_)))))
   refine op_slice_cutS (k := i + 1) slt113 (ev_hit hN rfl) hW934 (ev_hit hN rfl) (by omega) (by omega) ?_
   refine op_ext2 (ev_hit hN rfl) (ev_hit hN rfl) (ovl117 hU hW934 (hiV_ne hne) (by omega)) ?_
   refine op_not (ev_hit hN rfl) ?_
   refine reg_nil (hK936 _ _ (wp_cond_true (ev_hit hN rfl) (seq_any fun K937 hK937 => reg_from mixed ?_)))
   intro w939 E938
   have z_w939 := E938.size
   have hU := hU.keep0 E938
   have hW934 := hW934.keep0 E938
   have hb := grow_step0 hb E938
   refine from_still (m := 8) 8 (hd := [_, _, _, _, _, _, _, _]) (by kernel_rfl) rfl rfl ?_
   refine st_step rfl (fun _ h9 => op_move (ev_hit hN rfl) h9) ?_
   refine st_step rfl (fun _ h9 => op_move (ev_base hN rfl s1) h9) ?_
   refine st_step rfl (fun _ h9 => op_move (ev_hit hN rfl) h9) ?_
   refine st_step rfl (fun _ h9 => op_add (ev_hit hN rfl) (ev_hit hN rfl) (add64 (by omega)) h9) ?_
   refine st_step rfl (fun _ h9 => op_slice_cutS (k := i + 1) slt113 (ev_hit hN rfl) hW934 (ev_hit hN rfl) (by omega) (by omega) h9) ?_
   refine st_step rfl (fun _ h9 => op_move (ev_hit hN rfl) h9) ?_
   refine st_step rfl (fun _ h9 => op_move (ev_base hN rfl s1) h9) ?_
   refine st_step rfl (fun _ h9 => op_slice_cutS (k := i) slt113 (ev_hit hN rfl) hW934 (ev_hit hN rfl) (by omega) (by omega) h9) ?_
   refine st_nil ?_
   refine from_seq (tl := [_]) (by decide) (by kernel_rfl) rfl ?_
   have hP943 := hW934
   refine op_copy_cutS (k := i + 1) (q := n - i) slt113 (ev_hit hN rfl) hP943 (ev_hit hN rfl) (hW934.cutO (k := i) (by omega)).rdw (all_mid h1 (by have := hO0; omega)) (by omega) (by omega) (.inr (by omega)) ?_
   intro w940 hO942 E941
   have z_w940 := E941.size
   have hU := hU.keep E941 (fun hh => (hiV_ne hne) hh.symm)
   have hb := grow_stepX hb E941 (hiV_ob v (n + 1))
   refine reg_nil (hK937 _ _ (seq_any fun K944 hK944 => one_reg (op_move (ev_hit hN rfl) (op_move (ev_base hN rfl s1) (op_slice_cutS (k := i) slt113 (ev_hit hN rfl) hO942 (ev_hit hN rfl) (by omega) (by omega) ?_)))))
   refine op_move (ev_base hN rfl s2) ?_
   have hP948 := hO942
   refine op_copy_cutS (k := i) (q := 1) slt113 (ev_hit hN rfl) hP948 (ev_hit hN rfl) (RdC.ofBx (sz := 1) (n := 1) hU rfl (by decide)) hx1 (by omega) (by decide) (.inl rfl) ?_
   intro w945 hO947 E946
   have z_w945 := E946.size
   have hb := grow_stepX hb E946 (hiV_ob v (n + 1))
   refine reg_nil (hK944 _ _ ?_)
   refine seq_any fun K949 hK949 => one_reg (op_move (ev_hit hN rfl) (op_assign (ev_hit hN rfl) (reg_nil (hK949 _ _ (wp_ret (then_ret ( ?_)))))))
   refine ret1 rfl hd (ev_hit hN rfl) ⟨_, rfl, ?_⟩
   exact ⟨hb, hO947.cast rfl (by rw [Nat.add_mul i 1 1]; exact ins_room (by omega) (by have := hW934.1; omega) rfl), .inl (hiV_ob _ _)⟩

theorem DelI {n i : Nat} {v : Value} {cs : List Value} {w : World} (hO : Own w 0 51 2 v n cs) (h1 : cs.all Value.oneCell' = true) (hi : i < n) (hn : n ≤ 1000) : Ret Try.prog 87 #[v, (Value.int .i64 ((i : Nat) : Int)), (Value.int .i64 (((i + 1) : Nat) : Int))] w (fun v' w' => w.grownBy w' v.ownBlock ∧ Own w' 0 51 2 v' (n - 1) (cs.take (i * 2) ++ cs.drop ((i + 1) * 2)) ∧ v'.ownBlock = v.ownBlock) := by
 have h0 : 0 ≤ w.heap.size := Nat.zero_le _
 have hO0 := hO.1
 have hb := grown_refl w v.ownBlock
 refine enter (N := 33) Try.func87 rfl rfl (by simp) fun a0 hN hd hA => ?_
 have s0 : a0.tmps.getD 0 undef = v := hA 0 (by simp)
 have s1 : a0.tmps.getD 1 undef = (Value.int .i64 ((i : Nat) : Int)) := hA 1 (by simp)
 have s2 : a0.tmps.getD 2 undef = (Value.int .i64 (((i + 1) : Nat) : Int)) := hA 2 (by simp)
 clear hA
 refine seq_any fun K3 hK3 => one_reg (op_assign rfl (reg_nil (hK3 _ _ ?_)))
 refine seq_any fun K4 hK4 => one_reg (op_move (ev_base hN rfl s0) (op_move (ev_base hN rfl s1) (op_move (ev_base hN rfl s2) (op_move (ev_base hN rfl s0) (op_len_rd Try.underlying48 (ev_hit hN rfl) hO.rdw ?_)))))
 obtain ⟨cap5, cap26, cap27, cap28⟩ := hO.cap
 refine op_slice_any (i := i) (j := i + 1) (m := n) slt48 (ev_hit hN rfl) cap28 (ev_hit hN rfl) (ev_hit hN rfl) (ev_hit hN rfl) rfl rfl rfl (by omega) (by omega) (by omega) ?_
 intro u6
 refine reg_nil (hK4 _ _ (seq_any fun K7 hK7 => seq_any fun K8 hK8 => ?_))
 refine one_reg (op_move (ev_base hN rfl s1) (op_move (ev_base hN rfl s2) (op_eql (ev_hit hN rfl) (ev_hit hN rfl) (fun c16 => ?_) (fun c16 => ?_))))
 ·
  exfalso; omega
 ·
  refine reg_nil (hK8 _ _ ?_)
  refine wp_cond_false (ev_hit hN rfl) (wp_skip (hK7 _ _ (seq_any fun K10 hK10 => one_reg (op_move (ev_base hN rfl s0) (op_len_rd Try.underlying48 (ev_hit hN rfl) hO.rdw ?_)))))
  refine op_assign (ev_hit hN rfl) (reg_nil (hK10 _ _ (seq_any fun K11 hK11 => reg_from mixed ?_)))
  intro w13 E12
  have z_w13 := E12.size
  have hO := hO.keep0 E12
  have hb := grow_step0 hb E12
  refine from_still (m := 6) 6 (hd := [_, _, _, _, _, _]) (by kernel_rfl) rfl rfl ?_
  refine st_step rfl (fun _ h9 => op_move (ev_base hN rfl s0) h9) ?_
  refine st_step rfl (fun _ h9 => op_move (ev_base hN rfl s1) h9) ?_
  refine st_step rfl (fun _ h9 => op_slice_hiC (m := i) slt48 (ev_hit hN rfl) cap28 (ev_hit hN rfl) rfl (by omega) h9) ?_
  refine st_step rfl (fun _ h9 => op_move (ev_base hN rfl s0) h9) ?_
  refine st_step rfl (fun _ h9 => op_move (ev_base hN rfl s2) h9) ?_
  refine st_step rfl (fun _ h9 => op_slice_cutS (k := i + 1) slt48 (ev_hit hN rfl) hO (ev_hit hN rfl) (by omega) (by omega) h9) ?_
  refine st_nil ?_
  refine from_seq (tl := [_, _]) (by decide) (by kernel_rfl) rfl ?_
  have hP18 := hO
  refine op_append_room (i := i) (m := (n - (i + 1))) slt48 (ev_hit hN rfl) hP18 (ev_hit hN rfl) (Src.ofRd Try.underlying48 (by decide) (hP18.cutO (k := i + 1) (by omega)).rdw (all_drop9 h1)) (by omega) ?_
  intro w14 hO17 E15
  have z_w14 := E15.size
  have hb := grow_stepX hb E15 rfl
  refine op_assign (ev_hit hN rfl) ?_
  refine reg_nil (hK11 _ _ (seq_any fun K19 hK19 => one_reg (op_move (ev_hit hN rfl) (op_move (ev_hit hN rfl) (op_len_rd Try.underlying48 (ev_hit hN rfl) (hO17.hiCut (k := (i + (n - (i + 1)))) (by omega)).rdw ?_)))))
  refine op_move (ev_hit hN rfl) (op_slice_spare (n' := (i + (n - (i + 1)))) slt48 (ev_hit hN rfl) hO17 (ev_hit hN rfl) (ev_hit hN rfl) rfl rfl (by omega) ?_)
  have hP23 := hO17
  refine op_clear_cutS slt48 (by kernel_rfl) (ev_hit hN rfl) hP23 (by omega) ?_
  intro w20 zs24 hO22 E21
  have z_w20 := E21.size
  have hb := grow_stepX hb E21 rfl
  refine reg_nil (hK19 _ _ ?_)
  refine seq_any fun K25 hK25 => one_reg (op_move (ev_hit hN rfl) (op_assign (ev_hit hN rfl) (reg_nil (hK25 _ _ (wp_ret ?_)))))
  refine ret1 rfl hd (ev_hit hN rfl) ⟨_, rfl, ?_⟩
  exact ⟨hb, (hO22.hiCut (k := (i + (n - (i + 1)))) (by omega)).cast (by omega) (by rw [Nat.add_mul i (n - (i + 1)) 2]; rw [Nat.add_mul i 1 2]; exact del_cut (a := i * 2) (s := 1 * 2) (r := (n - (i + 1)) * 2) (by omega)), hiV_ob _ _⟩

theorem DelK {n i : Nat} {v : Value} {cs : List Value} {w : World} (hO : Own w 0 27 1 v n cs) (h1 : cs.all Value.oneCell' = true) (hi : i < n) (hn : n ≤ 1000) : Ret Try.prog 121 #[v, (Value.int .i64 ((i : Nat) : Int)), (Value.int .i64 (((i + 1) : Nat) : Int))] w (fun v' w' => w.grownBy w' v.ownBlock ∧ Own w' 0 27 1 v' (n - 1) (cs.take (i * 1) ++ cs.drop ((i + 1) * 1)) ∧ v'.ownBlock = v.ownBlock) := by
 have h0 : 0 ≤ w.heap.size := Nat.zero_le _
 have hO0 := hO.1
 have hb := grown_refl w v.ownBlock
 refine enter (N := 33) Try.func121 rfl rfl (by simp) fun a0 hN hd hA => ?_
 have s0 : a0.tmps.getD 0 undef = v := hA 0 (by simp)
 have s1 : a0.tmps.getD 1 undef = (Value.int .i64 ((i : Nat) : Int)) := hA 1 (by simp)
 have s2 : a0.tmps.getD 2 undef = (Value.int .i64 (((i + 1) : Nat) : Int)) := hA 2 (by simp)
 clear hA
 refine seq_any fun K3 hK3 => one_reg (op_assign rfl (reg_nil (hK3 _ _ ?_)))
 refine seq_any fun K4 hK4 => one_reg (op_move (ev_base hN rfl s0) (op_move (ev_base hN rfl s1) (op_move (ev_base hN rfl s2) (op_move (ev_base hN rfl s0) (op_len_rd Try.underlying90 (ev_hit hN rfl) hO.rdw ?_)))))
 obtain ⟨cap5, cap26, cap27, cap28⟩ := hO.cap
 refine op_slice_any (i := i) (j := i + 1) (m := n) slt90 (ev_hit hN rfl) cap28 (ev_hit hN rfl) (ev_hit hN rfl) (ev_hit hN rfl) rfl rfl rfl (by omega) (by omega) (by omega) ?_
 intro u6
 refine reg_nil (hK4 _ _ (seq_any fun K7 hK7 => seq_any fun K8 hK8 => ?_))
 refine one_reg (op_move (ev_base hN rfl s1) (op_move (ev_base hN rfl s2) (op_eql (ev_hit hN rfl) (ev_hit hN rfl) (fun c16 => ?_) (fun c16 => ?_))))
 ·
  exfalso; omega
 ·
  refine reg_nil (hK8 _ _ ?_)
  refine wp_cond_false (ev_hit hN rfl) (wp_skip (hK7 _ _ (seq_any fun K10 hK10 => one_reg (op_move (ev_base hN rfl s0) (op_len_rd Try.underlying90 (ev_hit hN rfl) hO.rdw ?_)))))
  refine op_assign (ev_hit hN rfl) (reg_nil (hK10 _ _ (seq_any fun K11 hK11 => reg_from mixed ?_)))
  intro w13 E12
  have z_w13 := E12.size
  have hO := hO.keep0 E12
  have hb := grow_step0 hb E12
  refine from_still (m := 6) 6 (hd := [_, _, _, _, _, _]) (by kernel_rfl) rfl rfl ?_
  refine st_step rfl (fun _ h9 => op_move (ev_base hN rfl s0) h9) ?_
  refine st_step rfl (fun _ h9 => op_move (ev_base hN rfl s1) h9) ?_
  refine st_step rfl (fun _ h9 => op_slice_hiC (m := i) slt90 (ev_hit hN rfl) cap28 (ev_hit hN rfl) rfl (by omega) h9) ?_
  refine st_step rfl (fun _ h9 => op_move (ev_base hN rfl s0) h9) ?_
  refine st_step rfl (fun _ h9 => op_move (ev_base hN rfl s2) h9) ?_
  refine st_step rfl (fun _ h9 => op_slice_cutS (k := i + 1) slt90 (ev_hit hN rfl) hO (ev_hit hN rfl) (by omega) (by omega) h9) ?_
  refine st_nil ?_
  refine from_seq (tl := [_, _]) (by decide) (by kernel_rfl) rfl ?_
  have hP18 := hO
  refine op_append_room (i := i) (m := (n - (i + 1))) slt90 (ev_hit hN rfl) hP18 (ev_hit hN rfl) (Src.ofRd Try.underlying90 (by decide) (hP18.cutO (k := i + 1) (by omega)).rdw (all_drop9 h1)) (by omega) ?_
  intro w14 hO17 E15
  have z_w14 := E15.size
  have hb := grow_stepX hb E15 rfl
  refine op_assign (ev_hit hN rfl) ?_
  refine reg_nil (hK11 _ _ (seq_any fun K19 hK19 => one_reg (op_move (ev_hit hN rfl) (op_move (ev_hit hN rfl) (op_len_rd Try.underlying90 (ev_hit hN rfl) (hO17.hiCut (k := (i + (n - (i + 1)))) (by omega)).rdw ?_)))))
  refine op_move (ev_hit hN rfl) (op_slice_spare (n' := (i + (n - (i + 1)))) slt90 (ev_hit hN rfl) hO17 (ev_hit hN rfl) (ev_hit hN rfl) rfl rfl (by omega) ?_)
  have hP23 := hO17
  refine op_clear_cutS slt90 (by kernel_rfl) (ev_hit hN rfl) hP23 (by omega) ?_
  intro w20 zs24 hO22 E21
  have z_w20 := E21.size
  have hb := grow_stepX hb E21 rfl
  refine reg_nil (hK19 _ _ ?_)
  refine seq_any fun K25 hK25 => one_reg (op_move (ev_hit hN rfl) (op_assign (ev_hit hN rfl) (reg_nil (hK25 _ _ (wp_ret ?_)))))
  refine ret1 rfl hd (ev_hit hN rfl) ⟨_, rfl, ?_⟩
  exact ⟨hb, (hO22.hiCut (k := (i + (n - (i + 1)))) (by omega)).cast (by omega) (by rw [Nat.add_mul i (n - (i + 1)) 1]; rw [Nat.add_mul i 1 1]; exact del_cut (a := i * 1) (s := 1 * 1) (r := (n - (i + 1)) * 1) (by omega)), hiV_ob _ _⟩

theorem DelN {n i : Nat} {v : Value} {cs : List Value} {w : World} (hO : Own w 0 69 1 v n cs) (h1 : cs.all Value.oneCell' = true) (hi : i < n) (hn : n ≤ 1000) : Ret Try.prog 122 #[v, (Value.int .i64 ((i : Nat) : Int)), (Value.int .i64 (((i + 1) : Nat) : Int))] w (fun v' w' => w.grownBy w' v.ownBlock ∧ Own w' 0 69 1 v' (n - 1) (cs.take (i * 1) ++ cs.drop ((i + 1) * 1)) ∧ v'.ownBlock = v.ownBlock) := by
 have h0 : 0 ≤ w.heap.size := Nat.zero_le _
 have hO0 := hO.1
 have hb := grown_refl w v.ownBlock
 refine enter (N := 33) Try.func122 rfl rfl (by simp) fun a0 hN hd hA => ?_
 have s0 : a0.tmps.getD 0 undef = v := hA 0 (by simp)
 have s1 : a0.tmps.getD 1 undef = (Value.int .i64 ((i : Nat) : Int)) := hA 1 (by simp)
 have s2 : a0.tmps.getD 2 undef = (Value.int .i64 (((i + 1) : Nat) : Int)) := hA 2 (by simp)
 clear hA
 refine seq_any fun K3 hK3 => one_reg (op_assign rfl (reg_nil (hK3 _ _ ?_)))
 refine seq_any fun K4 hK4 => one_reg (op_move (ev_base hN rfl s0) (op_move (ev_base hN rfl s1) (op_move (ev_base hN rfl s2) (op_move (ev_base hN rfl s0) (op_len_rd Try.underlying113 (ev_hit hN rfl) hO.rdw ?_)))))
 obtain ⟨cap5, cap26, cap27, cap28⟩ := hO.cap
 refine op_slice_any (i := i) (j := i + 1) (m := n) slt113 (ev_hit hN rfl) cap28 (ev_hit hN rfl) (ev_hit hN rfl) (ev_hit hN rfl) rfl rfl rfl (by omega) (by omega) (by omega) ?_
 intro u6
 refine reg_nil (hK4 _ _ (seq_any fun K7 hK7 => seq_any fun K8 hK8 => ?_))
 refine one_reg (op_move (ev_base hN rfl s1) (op_move (ev_base hN rfl s2) (op_eql (ev_hit hN rfl) (ev_hit hN rfl) (fun c16 => ?_) (fun c16 => ?_))))
 ·
  exfalso; omega
 ·
  refine reg_nil (hK8 _ _ ?_)
  refine wp_cond_false (ev_hit hN rfl) (wp_skip (hK7 _ _ (seq_any fun K10 hK10 => one_reg (op_move (ev_base hN rfl s0) (op_len_rd Try.underlying113 (ev_hit hN rfl) hO.rdw ?_)))))
  refine op_assign (ev_hit hN rfl) (reg_nil (hK10 _ _ (seq_any fun K11 hK11 => reg_from mixed ?_)))
  intro w13 E12
  have z_w13 := E12.size
  have hO := hO.keep0 E12
  have hb := grow_step0 hb E12
  refine from_still (m := 6) 6 (hd := [_, _, _, _, _, _]) (by kernel_rfl) rfl rfl ?_
  refine st_step rfl (fun _ h9 => op_move (ev_base hN rfl s0) h9) ?_
  refine st_step rfl (fun _ h9 => op_move (ev_base hN rfl s1) h9) ?_
  refine st_step rfl (fun _ h9 => op_slice_hiC (m := i) slt113 (ev_hit hN rfl) cap28 (ev_hit hN rfl) rfl (by omega) h9) ?_
  refine st_step rfl (fun _ h9 => op_move (ev_base hN rfl s0) h9) ?_
  refine st_step rfl (fun _ h9 => op_move (ev_base hN rfl s2) h9) ?_
  refine st_step rfl (fun _ h9 => op_slice_cutS (k := i + 1) slt113 (ev_hit hN rfl) hO (ev_hit hN rfl) (by omega) (by omega) h9) ?_
  refine st_nil ?_
  refine from_seq (tl := [_, _]) (by decide) (by kernel_rfl) rfl ?_
  have hP18 := hO
  refine op_append_room (i := i) (m := (n - (i + 1))) slt113 (ev_hit hN rfl) hP18 (ev_hit hN rfl) (Src.ofRd Try.underlying113 (by decide) (hP18.cutO (k := i + 1) (by omega)).rdw (all_drop9 h1)) (by omega) ?_
  intro w14 hO17 E15
  have z_w14 := E15.size
  have hb := grow_stepX hb E15 rfl
  refine op_assign (ev_hit hN rfl) ?_
  refine reg_nil (hK11 _ _ (seq_any fun K19 hK19 => one_reg (op_move (ev_hit hN rfl) (op_move (ev_hit hN rfl) (op_len_rd Try.underlying113 (ev_hit hN rfl) (hO17.hiCut (k := (i + (n - (i + 1)))) (by omega)).rdw ?_)))))
  refine op_move (ev_hit hN rfl) (op_slice_spare (n' := (i + (n - (i + 1)))) slt113 (ev_hit hN rfl) hO17 (ev_hit hN rfl) (ev_hit hN rfl) rfl rfl (by omega) ?_)
  have hP23 := hO17
  refine op_clear_cutS slt113 (by kernel_rfl) (ev_hit hN rfl) hP23 (by omega) ?_
  intro w20 zs24 hO22 E21
  have z_w20 := E21.size
  have hb := grow_stepX hb E21 rfl
  refine reg_nil (hK19 _ _ ?_)
  refine seq_any fun K25 hK25 => one_reg (op_move (ev_hit hN rfl) (op_assign (ev_hit hN rfl) (reg_nil (hK25 _ _ (wp_ret ?_)))))
  refine ret1 rfl hd (ev_hit hN rfl) ⟨_, rfl, ?_⟩
  exact ⟨hb, (hO22.hiCut (k := (i + (n - (i + 1)))) (by omega)).cast (by omega) (by rw [Nat.add_mul i (n - (i + 1)) 1]; rw [Nat.add_mul i 1 1]; exact del_cut (a := i * 1) (s := 1 * 1) (r := (n - (i + 1)) * 1) (by omega)), hiV_ob _ _⟩

end Go.Proofs.Ytcpfdfejojghbaa

namespace Go.Gx
open Go.Bt Go.RowKit
section
variable {V : Type} {κ : Kd V} {w w' : World} {F G H W W' W2 R : Nat → Prop} {base e sz n b t h p q i : Nat} {u m pv kv cv : Value} {cs : List Value} {D : List (DP V)} {K : List DK} {P : List Nat} {k : Ky} {x : V}
def OutR (κ : Kd V) (R : Nat → Prop) (w : World) (n : Nat) (W : Nat → Prop) (h p : Nat) (x : Tr V h × Option (Ky × Tr V h)) (u m : Value) : Prop :=
  match x with
  | (t, none) => u = nilV ∧ m = .pointer none ∧ ∃ W', TreeR κ R w h p t W' ∧ NewF n W W'
  | (t, some (k, t2)) => ∃ q W' W2, m = ptr q 0 ∧ Own w 0 5 1 u k.length (k.map u8v) ∧ (∀ j, Bl u j → R j) ∧ TreeR κ R w h p t W' ∧ TreeR κ R w h q t2 W2 ∧ NewF n W W' ∧ NewF n W W2 ∧ Dj W' W2
def leafW (p : Nat) (pv : Value) : Nat → Prop := fun y => y = p ∨ Bl pv y
theorem leafW_ty (B : Bx w p κ.tB [pv, nilV, nilV]) (O : Own w base κ.tP κ.pc pv n cs) : TyF κ w (leafW p pv) := (TyF.ofBx B (.inl rfl)).or (TyF.ofOwn O (.inr (.inl rfl)))
theorem mkLeaf {l : List (Ky × V)} (B : Bx w p κ.tB [pv, nilV, nilV]) (O : Own w base κ.tP κ.pc pv D.length (D.flatMap κ.ce)) (ks : ∀ x9 ∈ D.map pk, Own w 0 5 1 x9.1 x9.2.length (x9.2.map u8v)) (kr : ∀ x9 ∈ D.map pk, ∀ k, Bl x9.1 k → R k) (e : D.map Prod.snd = l) : TreeR κ R w 0 p (l : Tr V 0) (leafW p pv) :=
  ⟨pv, D, ⟨B, O.mono (Nat.zero_le _), ks, kr, .inl rfl, fun _ h => .inr h, leafW_ty B O⟩, e⟩
theorem leafW_fresh (hp : n ≤ p) (O : Own w n e sz pv b cs) : ∀ j, leafW p pv j → n ≤ j := fun j hj => hj.elim (fun e => e ▸ hp) (fun q => (O.lt j q).1)
theorem new_dj (hW : ∀ j, W j → j < n) (h2 : ∀ j, W2 j → n ≤ j) : Dj W W2 := fun j h1 q => by have := hW j h1; have := h2 j q; omega
theorem inF_step {F : Nat → Prop} {v v2 : Value} {n n2 : Nat} (hm : v2.ownBlock = v.ownBlock ∨ ∀ k, v2.ownBlock = some k → n2 ≤ k) (hn : n ≤ n2) (h : ∀ k, k < n → Bl v k → F k) : ∀ k, k < n → Bl v2 k → F k := fun k hk hb => by
  rcases hm with hm | hm
  · exact h k hk (hm.symm.trans hb)
  · have := hm k hb; omega
theorem newF_in (h : ∀ k, k < n → W' k → W k) : NewF n W W' := fun k hk => by
  by_cases q : k < n
  · exact .inl (h k q hk)
  · exact .inr (by omega)
theorem leafW_in (hp : p < n → W p) (hv : ∀ k, k < n → Bl pv k → W k) : ∀ k, k < n → leafW p pv k → W k := fun k hk hj => hj.elim (fun e => by subst e; exact hp hk) (hv k hk)
/-! leaves that change -/
theorem set_map9 {i : Nat} {d : DP V} : (D.set i d).map Prod.snd = (D.map Prod.snd).set i d.2 := List.map_set ..
theorem put_found {x : V} (hc : (kys D).contains k = true) [Inhabited V] : putT 0 k x ((D.map Prod.snd : List (Ky × V)) : Tr V 0) = (true, ((D.set (pos (kys D) k) ((D.getD (pos (kys D) k) default).1, (D.getD (pos (kys D) k) default).2.1, x)).map Prod.snd : List (Ky × V)), none) := by
  rw [put0]
  have hh : hasK (D.map Prod.snd) k = true := hc
  rw [if_pos hh, set_map9]
  have hx : k ∈ kys D := List.contains_iff_mem.1 hc
  have hl : pos (kys D) k < D.length ∨ ¬ pos (kys D) k < D.length := Nat.lt_or_ge _ _ |>.imp id (Nat.not_lt_of_le)
  show (true, ((D.map Prod.snd).set (pos (kys D) k) (((D.map Prod.snd).getD (pos (kys D) k) (k, x)).1, x) : List (Ky × V)), (none : Option (Ky × Tr V 0))) = _
  rcases hl with hl | hl
  · have e : (D.map Prod.snd).getD (pos (kys D) k) (k, x) = (D.getD (pos (kys D) k) default).2 := by simp [List.getD_eq_getElem?_getD, hl]
    rw [e]
  · rw [List.set_eq_of_length_le (by simp; omega), List.set_eq_of_length_le (by simp; omega)]
theorem put_miss {x : V} {kv : Value} (hc : (kys D).contains k = false) (hi : pos (kys D) k ≤ D.length) : putT 0 k x ((D.map Prod.snd : List (Ky × V)) : Tr V 0) = (false, halves 0 (((D.insertIdx (pos (kys D) k) (kv, k, x)).map Prod.snd : List (Ky × V)) : Tr V 0)) := by
  rw [put0]
  have hh : ¬ hasK (D.map Prod.snd) k = true := by show ¬ (kys D).contains k = true; rw [hc]; decide
  rw [if_neg hh, ← map_ins9 (f := Prod.snd) hi]
  rfl
theorem pos_ltP (hs : Sorted (kys D)) (hc : (kys D).contains k = true) : pos (kys D) k < D.length := by
  obtain ⟨h, _⟩ := pos_hit hs (List.contains_iff_mem.1 hc)
  rwa [kys_len] at h
theorem halves_small {l : List (Ky × V)} (h6 : l.length ≤ 6) : halves 0 (l : Tr V 0) = (l, none) := if_pos h6
theorem halves_big [Inhabited V] (h6 : 6 < D.length) : halves 0 ((D.map Prod.snd : List (Ky × V)) : Tr V 0) = (((D.take (D.length - 3)).map Prod.snd : List (Ky × V)), some (((D.drop (D.length - 3)).getD 0 default).2.1, ((D.drop (D.length - 3)).map Prod.snd : List (Ky × V)))) := by
  have h : ¬ (D.map Prod.snd).length ≤ 6 := by simp; omega
  show (if (D.map Prod.snd).length ≤ 6 then _ else _) = _
  rw [if_neg h]
  have e1 : (D.map Prod.snd).length = D.length := by simp
  rw [e1, List.map_take, List.map_drop]
  have e2 : hd ((D.map Prod.snd).drop (D.length - 3)) = ((D.drop (D.length - 3)).getD 0 default).2.1 := by
    have hl : D.length - 3 < D.length := by omega
    simp [hd, List.head?_drop, List.getD_eq_getElem?_getD, hl]
  rw [e2]
  rfl
theorem out_small {l : List (Ky × V)} {X : Tr V 0 × Option (Ky × Tr V 0)} (hX : X = (l, none)) (T : TreeR κ R w 0 p (l : Tr V 0) W') (N : NewF n W W') : OutR κ R w n W 0 p X nilV (.pointer none) := by
  subst hX; exact ⟨rfl, rfl, W', T, N⟩
theorem out_big {h : Nat} {t t2 : Tr V h} {X : Tr V h × Option (Ky × Tr V h)} (hX : X = (t, some (k, t2))) (O : Own w 0 5 1 u k.length (k.map u8v)) (hr : ∀ j, Bl u j → R j) (T : TreeR κ R w h p t W') (T2 : TreeR κ R w h q t2 W2) (N : NewF n W W') (N2 : NewF n W W2) (hd : Dj W' W2) : OutR κ R w n W h p X u (ptr q 0) := by
  subst hX; exact ⟨q, W', W2, rfl, O, hr, T, T2, N, N2, hd⟩
theorem ks_ins {d : DP V} (ks : ∀ x9 ∈ D.map pk, Own w 0 5 1 x9.1 x9.2.length (x9.2.map u8v)) (hd : Own w 0 5 1 d.1 d.2.1.length (d.2.1.map u8v)) (hi : i ≤ D.length) : ∀ x9 ∈ (D.insertIdx i d).map pk, Own w 0 5 1 x9.1 x9.2.length (x9.2.map u8v) := fun x hx => by
  rw [insIdx d hi, List.map_append, List.map_cons, List.mem_append, List.mem_cons] at hx
  rcases hx with hx | rfl | hx
  · obtain ⟨y, hy, rfl⟩ := List.mem_map.1 hx; exact ks _ (List.mem_map.2 ⟨y, List.mem_of_mem_take hy, rfl⟩)
  · exact hd
  · obtain ⟨y, hy, rfl⟩ := List.mem_map.1 hx; exact ks _ (List.mem_map.2 ⟨y, List.mem_of_mem_drop hy, rfl⟩)
theorem kr_ins {d : DP V} (kr : ∀ x9 ∈ D.map pk, ∀ k, Bl x9.1 k → R k) (hd : ∀ k, Bl d.1 k → R k) (hi : i ≤ D.length) : ∀ x9 ∈ (D.insertIdx i d).map pk, ∀ k, Bl x9.1 k → R k := fun x hx => by
  rw [insIdx d hi, List.map_append, List.map_cons, List.mem_append, List.mem_cons] at hx
  rcases hx with hx | rfl | hx
  · obtain ⟨y, hy, rfl⟩ := List.mem_map.1 hx; exact kr _ (List.mem_map.2 ⟨y, List.mem_of_mem_take hy, rfl⟩)
  · exact hd
  · obtain ⟨y, hy, rfl⟩ := List.mem_map.1 hx; exact kr _ (List.mem_map.2 ⟨y, List.mem_of_mem_drop hy, rfl⟩)
theorem ks_sub {A B : List (DP V)} {Q : DK → Prop} (ks : ∀ x9 ∈ A.map pk, Q x9) (h : ∀ x ∈ B, x ∈ A) : ∀ x9 ∈ B.map pk, Q x9 := fun x hx => by
  obtain ⟨y, hy, rfl⟩ := List.mem_map.1 hx; exact ks _ (List.mem_map.2 ⟨y, h y hy, rfl⟩)
theorem ks_mem [Inhabited V] (h : i < D.length) : pk (D.getD i default) ∈ D.map pk := List.mem_map.2 ⟨_, getD_mem h, rfl⟩
theorem drop_key [Inhabited V] {j : Nat} (h : j < D.length) : pk ((D.drop j).getD 0 default) ∈ D.map pk := by
  have e : (D.drop j).getD 0 default = D.getD j default := by simp [List.getD_eq_getElem?_getD]
  rw [e]; exact ks_mem h
theorem leafW_lt (hp : p < n) (hv : ∀ j, Bl pv j → j < n) : ∀ j, leafW p pv j → j < n := fun j hj => hj.elim (fun e => e ▸ hp) (hv j)
theorem ks_set {d : DP V} {Q : DK → Prop} (ks : ∀ x9 ∈ D.map pk, Q x9) (hd : Q (pk d)) : ∀ x9 ∈ (D.set i d).map pk, Q x9 := fun x hx => by
  obtain ⟨y, hy, rfl⟩ := List.mem_map.1 hx
  rcases List.mem_or_eq_of_mem_set hy with h | h
  · exact ks _ (List.mem_map.2 ⟨y, h, rfl⟩)
  · subst h; exact hd
end
theorem set_flat9 {α : Type} {f : α → List Value} {sz j : Nat} {d x : α} {vs : List Value} : ∀ {l : List α} {i : Nat}, (∀ u, (f u).length = sz) → i < l.length → j + vs.length ≤ sz → f x = (f (l.getD i d)).take j ++ vs ++ (f (l.getD i d)).drop (j + vs.length) →
    (l.flatMap f).take (i * sz + j) ++ vs ++ (l.flatMap f).drop (i * sz + j + vs.length) = (l.set i x).flatMap f
  | [], _, _, h, _, _ => absurd h (Nat.not_lt_zero _)
  | a :: t, 0, hf, _, hj, hx => by
    have ha := hf a
    simp only [List.getD_cons_zero] at hx
    simp only [Nat.zero_mul, Nat.zero_add, List.flatMap_cons, List.set_cons_zero, hx]
    rw [List.take_append_of_le_length (by omega), List.drop_append_of_le_length (by omega)]
    simp [List.append_assoc]
  | a :: t, i + 1, hf, h, hj, hx => by
    have ha := hf a
    simp only [List.getD_cons_succ] at hx
    have ih := set_flat9 (l := t) (i := i) hf (by simpa using h) hj hx
    have e1 : (i + 1) * sz + j = (f a).length + (i * sz + j) := by rw [ha, Nat.add_mul]; omega
    simp only [List.flatMap_cons, List.set_cons_succ]
    rw [e1, List.take_length_add_append, Nat.add_assoc, List.drop_length_add_append, ← ih]
    simp [List.append_assoc]
end Go.Gx

namespace Go.Proofs.Ytcpfdfejojghbaa
open Go.Gx Go.RowKit
attribute [local irreducible] wpList wpStill Code.wp Calls
open Go.Bt
theorem putLI {k : List UInt8} {kv : Value} {x : Int} {R W : Nat → Prop} {p : Nat} {pv : Value} {D : List (DP (Int))} {w : World} (hL : LeafR kI R w p pv D W) (hs : Sorted (kys D)) (hn : D.length ≤ 6) (hk : Own w 0 5 1 kv k.length (k.map u8v)) (hkr : ∀ j, Bl kv j → R j) : Ret Try.prog 48 #[(ptr p 0), (Value.agg #[kv, (Value.int .i64 x)])] w (fun v' w' => Gr w w' W ∧ ∃ u m, v' = .tuple #[.bool (putT 0 k x ((D.map Prod.snd : List (Ky × (Int))) : Tr (Int) 0)).1, u, m] ∧ OutR kI R w' w.heap.size W 0 p (putT 0 k x ((D.map Prod.snd : List (Ky × (Int))) : Tr (Int) 0)).2 u m) := by
 have hx : Bx w p 115 [pv, .slice none 0 0, .slice none 0 0] := hL.bx
 have op : Own w 0 51 2 pv D.length (D.flatMap cI) := hL.op
 have ks := hL.ks
 have hi_p := hx.lt
 have hb := Gr.refl w W
 refine enter (N := 92) Try.func48 rfl rfl (by simp) fun a0 hN hd hA => ?_
 have s0 : a0.tmps.getD 0 undef = (ptr p 0) := hA 0 (by simp)
 have s1 : a0.tmps.getD 1 undef = (Value.agg #[kv, (Value.int .i64 x)]) := hA 1 (by simp)
 clear hA
 refine seq_any fun K5 hK5 => one_reg (op_box (cs := [kv, (Value.int .i64 x)]) (ev_base hN rfl s1) rfl ?_)
 intro w6 b10 lo_b10 hi_b10 hB12 E11
 have ne_b10_pv : pv.ownBlock ≠ some b10 := fun hh => by have := (op.lt _ hh).2; omega
 have z_w6 := E11.size
 have hx := hx.keep0 E11
 have op := op.keep0 E11
 have ks := all9 ks fun _ h => h.keep0 E11
 have hk := hk.keep0 E11
 have hb := hb.step0 E11
 refine op_assign rfl (op_assign rfl (op_assign rfl ?_))
 refine reg_nil (hK5 _ _ (seq_any fun K13 hK13 => seq_any fun K14 hK14 => one_reg (op_move (ev_base hN rfl s0) (op_fn (vs := [(ptr p 0)]) ok81 ⟨(ev_hit hN rfl), trivial⟩ (Ret.flip (leafLI hx op)) ?_))))
 rintro _ _ ⟨rfl, rfl⟩
 refine reg_nil (hK14 _ _ ?_)
 refine wp_cond_true (ev_hit hN rfl) (seq_any fun K15 hK15 => one_reg (op_move (ev_base hN rfl s0) (op_field fld51_0 (ev_hit hN rfl) (op_load1 (v := kv) one27 (ev_hit hN rfl) (hB12.cell rfl) (op_fn (vs := [(ptr p 0), kv]) ok82 ⟨(ev_hit hN rfl), ⟨(ev_hit hN rfl), trivial⟩⟩ (findI hx op ks hs (by omega) (hk.rdw.mono (Nat.zero_le _) (by omega))) ?_)))))
 rintro _ w16 ⟨E17, rfl⟩
 have E17 := grown_of_below E17
 have z_w16 := E17.size
 have hx := hx.keep0 E17
 have op := op.keep0 E17
 have ks := all9 ks fun _ h => h.keep0 E17
 have hk := hk.keep0 E17
 have hB12 := hB12.keep0 E17
 have hb := hb.step0 E17
 refine op_move (ev_hit hN rfl) (op_extract (ev_hit hN rfl) rfl ?_)
 refine op_extract (ev_hit hN rfl) rfl ?_
 refine op_assign (ev_hit hN rfl) (op_assign (ev_hit hN rfl) (reg_nil (hK15 _ _ (seq_any fun K18 hK18 => seq_any fun K19 hK19 => one_reg ?_))))
 rcases Bool.eq_false_or_eq_true (((kys D).contains k)) with c21 | c21
 ·
  rw [c21]
  refine op_move (ev_hit hN rfl) (reg_nil (hK19 _ _ (wp_cond_true (ev_hit hN rfl) (seq_any fun K20 hK20 => reg_from mixed ?_))))
  intro w23 E22
  have z_w23 := E22.size
  have hx := hx.keep0 E22
  have op := op.keep0 E22
  have ks := all9 ks fun _ h => h.keep0 E22
  have hB12 := hB12.keep0 E22
  have hb := hb.step0 E22
  refine from_still (m := 9) 9 (hd := [_, _, _, _, _, _, _, _, _]) (by kernel_rfl) rfl rfl ?_
  have hpl := pos_ltP hs c21
  refine st_step rfl (fun _ h9 => op_move (ev_base hN rfl s0) h9) ?_
  refine st_step rfl (fun _ h9 => op_nil (ev_hit hN rfl) h9) ?_
  refine st_step rfl (fun _ h9 => op_field fld115_0 (ev_hit hN rfl) h9) ?_
  refine st_step rfl (fun _ h9 => op_load1 (v := pv) one48 (ev_hit hN rfl) (hx.cell rfl) h9) ?_
  refine st_step rfl (fun _ h9 => op_move (ev_hit hN rfl) h9) ?_
  refine st_step rfl (fun _ h9 => op_field fld51_1 (ev_hit hN rfl) h9) ?_
  refine st_step rfl (fun _ h9 => op_load1 (v := (Value.int .i64 x)) one3 (ev_hit hN rfl) (hB12.cell rfl) h9) ?_
  refine st_index_own (i := ((pos (kys D) k))) slt48 (ev_hit hN rfl) op (ev_hit hN rfl) (by omega) (by omega) ?_
  intro b24 o25 lo_b24 hA26
  refine st_step rfl (fun _ h9 => op_field fld51_1 (ev_hit hN rfl) h9) ?_
  refine st_nil ?_
  refine from_seq (tl := [_]) (by decide) (by kernel_rfl) rfl ?_
  have hP30 := op
  refine op_store_own (vs := [(Value.int .i64 x)]) size3 (ev_hit hN rfl) (ev_hit hN rfl) rfl rfl rfl hP30 (hA26.fld 1) (by have := hP30.1; simp at this ⊢; omega) ?_
  intro w28 hO40 E29
  have z_w28 := E29.size
  have hx := hx.keepO hP30 E29 (by decide)
  have ks := all9 ks fun _ h => h.keepT hP30 E29 (by decide)
  have hb := hb.stepL E29 (fun k _ h => hL.wv k h)
  have hO40 : Own w28 0 51 2 pv D.length (((D.set (pos (kys D) k) ((D.getD (pos (kys D) k) default).1, (D.getD (pos (kys D) k) default).2.1, x))).flatMap cI) := by exact hO40.cast rfl (set_flat9 (f := cI) (d := default) cI_len (by omega) (by simp) rfl)
  refine reg_nil (hK20 _ _ (seq_any fun K41 hK41 => ?_))
  refine one_reg (op_assign rfl (op_assign rfl (op_assign rfl (reg_nil (hK41 _ _ (wp_ret (then_ret (then_ret ( ?_)))))))))
  refine retN (rs := [.tmp 4, .tmp 5, .tmp 6]) (vs := [(Value.bool true), (Value.slice none 0 0), (Value.pointer none)]) rfl hd ⟨(ev_hit hN rfl), ⟨(ev_hit hN rfl), ⟨(ev_hit hN rfl), trivial⟩⟩⟩ rfl ⟨_, rfl, ?_⟩
  exact ⟨hb, _, _, by rw [put_found c21]; rfl, out_small (congrArg Prod.snd (put_found c21)) (mkLeaf (D := (D.set (pos (kys D) k) ((D.getD (pos (kys D) k) default).1, (D.getD (pos (kys D) k) default).2.1, x))) (κ := kI) hx (hO40.cast (by simp) rfl) (ks_set ks (ks _ (ks_mem hpl))) (ks_set hL.kr (hL.kr _ (ks_mem hpl))) rfl) (newF_in (leafW_in (fun _ => hL.wp) (fun k _ h => hL.wv k h)))⟩
 ·
  rw [c21]
  refine op_move (ev_hit hN rfl) (reg_nil (hK19 _ _ (wp_cond_false (ev_hit hN rfl) (wp_skip (hK18 _ _ ?_)))))
  have hpl := pos_leP (D := D) (x := k)
  refine reg_split (hd := [_, _, _, _, _, _, _, _, _]) (tl := _) 9 mixed (by kernel_rfl) rfl rfl ?_
  refine any_env (φ := phiV [(fun uz => uz = (ptr p 0)), (fun uz => uz = (ptr p 0)), (fun uz => uz = (ptr p 0)), (fun uz => uz = (ptr p 0)), (fun uz => uz = pv), (fun uz => uz = (Value.int .i64 (((pos (kys D) k) : Nat) : Int))), (fun uz => uz = (Value.agg #[kv, (Value.int .i64 x)])), (fun _ => True), (fun _ => True)]) (G := fun w' => Bx w' p 115 [pv, (Value.slice none 0 0), (Value.slice none 0 0)] ∧ Bx w' b10 51 [kv, (Value.int .i64 x)]) [7, 8] (by kernel_rfl) (by kernel_rfl) (by kernel_rfl) (by kernel_rfl) hN (fun w1 w2 E h => by obtain ⟨h0, h1⟩ := h; exact ⟨h0.keep0 E, h1.keep0 E⟩) ⟨hx, hB12⟩ (ObEs.cons ?_ (ObEs.cons ?_ (ObEs.cons ?_ (ObEs.cons ?_ (ObEs.cons ?_ (ObEs.cons ?_ (ObEs.cons ?_ (ObEs.pass rfl (ObEs.pass rfl (ObEs.nil)))))))))) (by simp only [putsL_defers]) ?_
  ·
   intro eA aA wA hNA hGA hbsA hdpA
   have qA_0 := (hbsA 0 rfl).trans (sl_base hN rfl s0)
   refine op_move (ev_base hNA rfl qA_0) ?_
   exact obE_end rfl rfl rfl
  ·
   intro eA aA wA hNA hGA hbsA hdpA
   have qA_0 := (hbsA 0 rfl).trans (sl_base hN rfl s0)
   refine op_move (ev_base hNA rfl qA_0) ?_
   exact obE_end rfl rfl rfl
  ·
   intro eA aA wA hNA hGA hbsA hdpA
   have qA_32 : Sl aA 32 (ptr p 0) := (hdpA 1 _ 32 (by kernel_rfl) rfl rfl).2 rfl
   refine op_nil (ev_base hNA rfl qA_32) ?_
   exact obE_end rfl rfl rfl
  ·
   intro eA aA wA hNA hGA hbsA hdpA
   have qA_33 : Sl aA 33 (ptr p 0) := (hdpA 2 _ 33 (by kernel_rfl) rfl rfl).2 rfl
   refine op_field fld115_0 (ev_base hNA rfl qA_33) ?_
   exact obE_end rfl rfl rfl
  ·
   intro eA aA wA hNA hGA hbsA hdpA
   have qA_34 : Sl aA 34 (ptr p 0) := (hdpA 3 _ 34 (by kernel_rfl) rfl rfl).2 rfl
   obtain ⟨hx, hB12⟩ := hGA
   refine op_load1 (v := pv) one48 (ev_base hNA rfl qA_34) (hx.cell rfl) ?_
   exact obE_end rfl rfl rfl
  ·
   intro eA aA wA hNA hGA hbsA hdpA
   have qA_7 := (hbsA 7 rfl).trans (sl_hit hN rfl)
   refine op_move (ev_base hNA rfl qA_7) ?_
   exact obE_end rfl rfl rfl
  ·
   intro eA aA wA hNA hGA hbsA hdpA
   have qA_3 := (hbsA 3 rfl).trans (sl_hit hN rfl)
   obtain ⟨hx, hB12⟩ := hGA
   refine op_loadA (cs := [kv, (Value.int .i64 x)]) agg51 rfl (ev_base hNA rfl qA_3) (fun j u hu => by rw [Nat.zero_add]; exact hB12.cell hu) ?_
   exact obE_end rfl rfl rfl
  ·
   intro w42 E42 _ a42 hN42 hbs42 hdp42 o_ ho_; obtain rfl := Option.some.inj ho_
   have z_w42 := E42.size
   have hx := hx.keep0 E42
   have op := op.keep0 E42
   have ks := all9 ks fun _ h => h.keep0 E42
   have hk := hk.keep0 E42
   have hB12 := hB12.keep0 E42
   have hb := hb.step0 E42
   have q42_37 : Sl a42 37 (Value.agg #[kv, (Value.int .i64 x)]) := (hdp42 6 _ 37 (by kernel_rfl) rfl rfl).2 rfl
   refine op_bslice (e := 51) (pv := [(0, (Value.agg #[kv, (Value.int .i64 x)]))]) (cs := [kv, (Value.int .i64 x)]) ⟨rfl, (ev_base hN42 rfl q42_37), trivial⟩ (by obtain ⟨_, _, _, rfl⟩ := hk.sl; kernel_rfl) ?_
   intro w43 b44 lo_b44 hi_b44 hB46 E45
   have ne_b44_pv : pv.ownBlock ≠ some b44 := fun hh => by have := (op.lt _ hh).2; omega
   have z_w43 := E45.size
   have hx := hx.keep0 E45
   have op := op.keep0 E45
   have ks := all9 ks fun _ h => h.keep0 E45
   have hk := hk.keep0 E45
   have hB12 := hB12.keep0 E45
   have hb := hb.step0 E45
   refine ke_end rfl (by decide) rfl ⟨hx, hB12⟩ ?_
   intro w47 E47 _ a47 hN47 hbs47 hdp47 o_ ho_; obtain rfl := Option.some.inj ho_
   have z_w47 := E47.size
   have hx := hx.keep0 E47
   have op := op.keep0 E47
   have ks := all9 ks fun _ h => h.keep0 E47
   have hk := hk.keep0 E47
   have hB12 := hB12.keep0 E47
   have hB46 := hB46.keep0 E47
   have hb := hb.step0 E47
   have q47_35 : Sl a47 35 pv := (hdp47 4 _ 35 (by kernel_rfl) rfl rfl).2 rfl
   have q47_36 : Sl a47 36 (Value.int .i64 (((pos (kys D) k) : Nat) : Int)) := (hdp47 5 _ 36 (by kernel_rfl) rfl rfl).2 rfl
   have q47_38 : Sl a47 38 (Value.slice (some ⟨b44, 0, none⟩) 1 1) := (Option.some.inj ((hdp47 7 _ 38 (by kernel_rfl) rfl rfl).1 0 rfl)).symm
   refine op_fn (vs := [pv, (Value.int .i64 (((pos (kys D) k) : Nat) : Int)), (Value.slice (some ⟨b44, 0, none⟩) 1 1)]) ok83 ⟨(ev_base hN47 rfl q47_35), ⟨(ev_base hN47 rfl q47_36), ⟨(ev_base hN47 rfl q47_38), trivial⟩⟩⟩ (InsI op hB46 (one_pI ks (fun _ h => h)) (by simp only [List.all_cons, List.all_nil, Bool.true_and, Bool.and_true, hk.one]; try rfl) (by first | omega | (simp only [List.length_insertIdx, List.length_set, List.length_drop, List.length_take]; omega) | (simp; omega)) (by first | omega | (simp only [List.length_insertIdx, List.length_set, List.length_drop, List.length_take]; omega) | (simp; omega)) ne_b44_pv) ?_
   rintro v49 w50 ⟨E52, hO49, hm49⟩
   have hin53 := inF_step (n := w.heap.size) hm49 (by omega) (fun k _ h => hL.wv k h)
   have z_w50 := E52.size
   have hx := hx.keepO op E52 (by decide)
   have ks := all9 ks fun _ h => h.keepT op E52 (by decide)
   have hk := hk.keepT op E52 (by decide)
   have hB12 := hB12.keep E52 (fun hh => ne_b10_pv hh.symm)
   have hb := hb.stepL E52 (fun k _ h => hL.wv k h)
   have hO49 : Own w50 0 51 2 v49 (D.insertIdx (pos (kys D) k) (kv, k, x)).length ((D.insertIdx (pos (kys D) k) (kv, k, x)).flatMap cI) := hO49.cast (by rw [List.length_insertIdx, if_pos (by first | omega | (simp only [List.length_insertIdx, List.length_set, List.length_drop, List.length_take]; omega) | (simp; omega))]) (flat_ins cI_len (kv, k, x) (by first | omega | (simp only [List.length_insertIdx, List.length_set, List.length_drop, List.length_take]; omega) | (simp; omega)))
   refine ke_end rfl (by decide) rfl ⟨hx, hB12⟩ ?_
   intro w54 E54 a54 hN54 hd54 hbs54 hph54
   have hd54 := hd54.trans ((by simp only [putsL_defers] : _ = _).trans hd)
   have z_w54 := E54.size
   have hx := hx.keep0 E54
   have ks := all9 ks fun _ h => h.keep0 E54
   have hk := hk.keep0 E54
   have hO49 := hO49.keep0 E54
   have hb := hb.step0 E54
   have s54_0 := (hbs54 0 rfl).trans (sl_base hN rfl s0)
   have s54_4 := (hbs54 4 rfl).trans (sl_hit hN rfl)
   have s54_31 : Sl a54 31 (ptr p 0) := (hph54 0 _ 31 rfl rfl).2 rfl
   have s54_39 : Sl a54 39 v49 := (Option.some.inj ((hph54 8 _ 39 rfl rfl).1 1 rfl)).symm
   refine split_end ?_
   refine from_seq (tl := [_, _, _]) (by decide) (by kernel_rfl) rfl ?_
   refine op_nil (ev_base hN54 rfl s54_31) (op_field fld115_0 (ev_hit hN54 rfl) ?_)
   have hx_old := hx
   refine op_store (vs := [v49]) (cs' := [v49, (Value.slice none 0 0), (Value.slice none 0 0)]) size48 (ev_hit hN54 rfl) (ev_base hN54 rfl s54_39) hO49.cl rfl (by simp only [List.all_cons, List.all_nil, Bool.true_and, Bool.and_true, hO49.one]; try rfl) hx (Nat.le_of_ble_eq_true rfl) rfl ?_
   intro w55 hx E56
   have z_w55 := E56.size
   have ks := all9 ks fun _ h => h.keepX hx_old E56 (by decide)
   have hk := hk.keepX hx_old E56 (by decide)
   have hO49 := hO49.keepX hx_old E56 (by decide)
   have hb := hb.stepB E56 hL.wp
   refine reg_nil (hK13 _ _ (seq_any fun K57 hK57 => one_reg ?_))
   have hl1 : (D.insertIdx (pos (kys D) k) (kv, k, x)).length = D.length + 1 := by rw [List.length_insertIdx, if_pos hpl]
   have ks58 : ∀ x9 ∈ ((D.insertIdx (pos (kys D) k) (kv, k, x)).map pk), Own w55 0 5 1 x9.1 x9.2.length (x9.2.map u8v) := ks_ins ks hk hpl
   refine op_move (ev_base hN54 rfl s54_0) ?_
   rcases Bool.eq_false_or_eq_true (decide ((D.insertIdx (pos (kys D) k) (kv, k, x)).length ≤ 6)) with k86 | k86
   ·
    refine op_fn (vs := [(ptr p 0)]) ok86 ⟨(ev_hit hN54 rfl), trivial⟩ (Ret.flip (halvesLsI hx hO49 (of_decide_eq_true k86))) ?_
    rintro _ _ ⟨rfl, rfl⟩
    refine op_move (ev_hit hN54 rfl) (op_extract (ev_hit hN54 rfl) rfl ?_)
    refine op_extract (ev_hit hN54 rfl) rfl ?_
    refine op_assign (ev_hit hN54 rfl) ?_
    refine op_assign (ev_hit hN54 rfl) (reg_nil (hK57 _ _ (seq_any fun K59 hK59 => one_reg (op_move (ev_base hN54 rfl s54_4) (op_move (ev_hit hN54 rfl) ?_)))))
    refine op_move (ev_hit hN54 rfl) (op_assign (ev_hit hN54 rfl) (op_assign (ev_hit hN54 rfl) (op_assign (ev_hit hN54 rfl) (reg_nil (hK59 _ _ (wp_ret ?_))))))
    refine retN (rs := [.tmp 4, .tmp 5, .tmp 6]) (vs := [(Value.bool false), (Value.slice none 0 0), (Value.pointer none)]) rfl hd54 ⟨(ev_hit hN54 rfl), ⟨(ev_hit hN54 rfl), ⟨(ev_hit hN54 rfl), trivial⟩⟩⟩ rfl ⟨_, rfl, ?_⟩
    exact ⟨hb, _, _, by rw [put_miss (kv := kv) c21 hpl]; rfl, out_small ((congrArg Prod.snd (put_miss (kv := kv) c21 hpl)).trans (congrArg Prod.snd (rfl : (true, halves 0 _) = (true, halves 0 _)) |>.trans (halves_small (by simpa using of_decide_eq_true k86)))) (mkLeaf (D := (D.insertIdx (pos (kys D) k) (kv, k, x))) (κ := kI) hx hO49 ks58 (kr_ins hL.kr hkr hpl) rfl) (newF_in (leafW_in (fun _ => hL.wp) hin53))⟩
   ·
    refine op_fn (vs := [(ptr p 0)]) ok86 ⟨(ev_hit hN54 rfl), trivial⟩ (halvesLbI hx hO49 ks58 (by have := of_decide_eq_false k86; omega) (by first | omega | (simp only [List.length_insertIdx, List.length_set, List.length_drop, List.length_take]; omega) | (simp; omega))) ?_
    rintro _ w61 ⟨E62, q60, qv60, rfl, hx60, op60, lo60, hB60, hO60⟩
    have E62 := E62.grown (row := some p) (fun k _ h => by rw [h])
    have hx_old := hx
    have hlt63 : ∀ j, leafW p (hiV v49 ((D.insertIdx (pos (kys D) k) (kv, k, x)).length - 3)) j → j < w55.heap.size := leafW_lt hx.lt (fun j h => (hO49.lt j ((hiV_ob _ _).symm.trans h)).2)
    have z_w61 := E62.size
    have ks58 := all9 ks58 fun _ h => h.keepX hx_old E62 (by decide)
    have hb := hb.stepB E62 hL.wp
    refine op_move (ev_hit hN54 rfl) (op_extract (ev_hit hN54 rfl) rfl ?_)
    refine op_extract (ev_hit hN54 rfl) rfl ?_
    refine op_assign (ev_hit hN54 rfl) ?_
    refine op_assign (ev_hit hN54 rfl) (reg_nil (hK57 _ _ (seq_any fun K64 hK64 => one_reg (op_move (ev_base hN54 rfl s54_4) (op_move (ev_hit hN54 rfl) ?_)))))
    refine op_move (ev_hit hN54 rfl) (op_assign (ev_hit hN54 rfl) (op_assign (ev_hit hN54 rfl) (op_assign (ev_hit hN54 rfl) (reg_nil (hK64 _ _ (wp_ret ?_))))))
    refine retN (rs := [.tmp 4, .tmp 5, .tmp 6]) (vs := [(Value.bool false), (((D.insertIdx (pos (kys D) k) (kv, k, x)).drop ((D.insertIdx (pos (kys D) k) (kv, k, x)).length - 3)).getD 0 default).1, (ptr q60 0)]) rfl hd54 ⟨(ev_hit hN54 rfl), ⟨(ev_hit hN54 rfl), ⟨(ev_hit hN54 rfl), trivial⟩⟩⟩ rfl ⟨_, rfl, ?_⟩
    exact ⟨hb, _, _, by rw [put_miss (kv := kv) c21 hpl]; rfl, out_big ((congrArg Prod.snd (put_miss (kv := kv) c21 hpl)).trans (halves_big (D := (D.insertIdx (pos (kys D) k) (kv, k, x))) (by have := of_decide_eq_false k86; omega))) (ks58 _ (drop_key (by omega))) ((kr_ins hL.kr hkr hpl) _ (drop_key (by omega))) (mkLeaf (D := (D.insertIdx (pos (kys D) k) (kv, k, x)).take ((D.insertIdx (pos (kys D) k) (kv, k, x)).length - 3)) (κ := kI) hx60 op60 (ks_sub ks58 (fun _ h => List.mem_of_mem_take h)) (ks_sub (kr_ins hL.kr hkr hpl) (fun _ h => List.mem_of_mem_take h)) rfl) (mkLeaf (D := (D.insertIdx (pos (kys D) k) (kv, k, x)).drop ((D.insertIdx (pos (kys D) k) (kv, k, x)).length - 3)) (κ := kI) hB60 hO60 (ks_sub ks58 (fun _ h => List.mem_of_mem_drop h)) (ks_sub (kr_ins hL.kr hkr hpl) (fun _ h => List.mem_of_mem_drop h)) rfl) (newF_in (leafW_in (fun _ => hL.wp) (inF_step (n := w.heap.size) (.inl (hiV_ob _ _)) (Nat.le_refl _) hin53))) (fun j hj => .inr (Nat.le_trans (by omega) ((leafW_fresh lo60 hO60) j hj))) (new_dj hlt63 (leafW_fresh lo60 hO60))⟩

end Go.Proofs.Ytcpfdfejojghbaa

namespace Go.Gx
open Go.Bt Go.RowKit
section
variable {V : Type} {κ : Kd V} {w w' : World} {F G G1 G2 H W W' W2 R : Nat → Prop} {base e sz n n2 b t h p q i : Nat} {u m pv kv cv qk qc : Value} {cs : List Value} {D : List (DP V)} {K : List DK} {P : List Nat} {k y : Ky} {x : V} {ts : List (Tr V h)} {c t2 : Tr V h}
variable {α : Type} {A : Nat → α → (Nat → Prop) → Prop} {ys9 : List α} {a : α} {f : Nat → Prop}
theorem Kids.cutc (K : Kids A P ys9 G) (hc : ys9[i]? = some a) : ∃ f G0, A (P.getD i default) a f ∧ Kids A (P.eraseIdx i) (ys9.eraseIdx i) G0 ∧ Dj f G0 ∧ (∀ k, f k → G k) ∧ (∀ k, G0 k → G k) := by
  obtain ⟨hi, rfl⟩ := List.getElem?_eq_some_iff.1 hc
  exact K.cut1 hi
theorem Kids.split (K : Kids A P ys9 G) (n : Nat) : ∃ G1 G2, Kids A (P.take n) (ys9.take n) G1 ∧ Kids A (P.drop n) (ys9.drop n) G2 ∧ Dj G1 G2 ∧ (∀ k, G1 k → G k) ∧ (∀ k, G2 k → G k) := by
  obtain ⟨L, rfl, rfl, h3, h4, h5⟩ := K
  have hp := h4
  rw [← List.take_append_drop n L, List.pairwise_append] at hp
  refine ⟨fun k => ∃ x ∈ L.take n, x.2.2 k, fun k => ∃ x ∈ L.drop n, x.2.2 k, ⟨L.take n, by rw [List.map_take], by rw [List.map_take], fun x hx => h3 x (List.mem_of_mem_take hx), hp.1, fun _ => Iff.rfl⟩, ⟨L.drop n, by rw [List.map_drop], by rw [List.map_drop], fun x hx => h3 x (List.mem_of_mem_drop hx), hp.2.1, fun _ => Iff.rfl⟩, ?_, fun k ⟨x, hx, hk⟩ => (h5 k).2 ⟨x, List.mem_of_mem_take hx, hk⟩, fun k ⟨x, hx, hk⟩ => (h5 k).2 ⟨x, List.mem_of_mem_drop hx, hk⟩⟩
  rintro k ⟨x, hx, hk⟩ ⟨y, hy, hk2⟩
  exact hp.2.2 x hx y hy k hk hk2
def nodeW (p : Nat) (kv cv : Value) (G : Nat → Prop) : Nat → Prop := fun j => j = p ∨ Bl kv j ∨ Bl cv j ∨ G j
theorem nodeW_ty (B : Bx w p κ.tB [nilV, kv, cv]) (O : Own w base 27 1 kv n cs) {base2 : Nat} {cs2 : List Value} (O2 : Own w base2 κ.tN 1 cv n2 cs2) (T : TyF κ w G) : TyF κ w (nodeW p kv cv G) := (TyF.ofBx B (.inl rfl)).or ((TyF.ofOwn O (.inr (.inr (.inl rfl)))).or ((TyF.ofOwn O2 (.inr (.inr (.inr rfl)))).or T))
theorem mkNode {base2 : Nat} (B : Bx w p κ.tB [nilV, kv, cv]) (O : Own w base 27 1 kv K.length (K.flatMap cK)) (O2 : Own w base2 κ.tN 1 cv P.length (P.flatMap cN)) (ks : ∀ x9 ∈ K, Own w 0 5 1 x9.1 x9.2.length (x9.2.map u8v)) (kr : ∀ x9 ∈ K, ∀ k, Bl x9.1 k → R k) (Ks : KidsR κ R w h P ts G) (np : ¬ G p) (nk : Dj (Bl kv) G) (nc : Dj (Bl cv) G) : TreeR κ R w (h + 1) p ((K.map Prod.snd, ts) : Tr V (h + 1)) (nodeW p kv cv G) :=
  ⟨kv, cv, K, P, G, ⟨B, O.mono (Nat.zero_le _), O2.mono (Nat.zero_le _), ks, kr, .inl rfl, fun _ h => .inr (.inl h), fun _ h => .inr (.inr (.inl h)), fun _ h => .inr (.inr (.inr h)), nodeW_ty B O O2 Ks.ty, np, nk, nc⟩, Ks, rfl⟩
theorem nodeW_in (hp : p < n → W p) (hk : ∀ j, j < n → Bl kv j → W j) (hc : ∀ j, j < n → Bl cv j → W j) (hg : ∀ j, j < n → G j → W j) : ∀ j, j < n → nodeW p kv cv G j → W j := fun j hj hh => by
  rcases hh with rfl | hh | hh | hh
  · exact hp hj
  · exact hk j hj hh
  · exact hc j hj hh
  · exact hg j hj hh
theorem nodeW_lt (hp : p < n) (hk : ∀ j, Bl kv j → j < n) (hc : ∀ j, Bl cv j → j < n) (hg : ∀ j, G j → j < n) : ∀ j, nodeW p kv cv G j → j < n := fun j hh => by
  rcases hh with rfl | hh | hh | hh
  · exact hp
  · exact hk j hh
  · exact hc j hh
  · exact hg j hh
theorem in_newF (h : NewF n F W') (hs : ∀ k, F k → W k) : ∀ k, k < n → W' k → W k := fun k hk hw => (h k hw).elim (hs k) (fun q => by omega)
theorem out_node_small {X : Tr V (h + 1) × Option (Ky × Tr V (h + 1))} (hX : X = (((K.map Prod.snd, ts) : Tr V (h + 1)), none)) (B : Bx w p κ.tB [nilV, kv, cv]) (O : Own w base 27 1 kv K.length (K.flatMap cK)) {base2 : Nat} (O2 : Own w base2 κ.tN 1 cv P.length (P.flatMap cN)) (ks : ∀ x9 ∈ K, Own w 0 5 1 x9.1 x9.2.length (x9.2.map u8v)) (kr : ∀ x9 ∈ K, ∀ k, Bl x9.1 k → R k) (Ks : KidsR κ R w h P ts G) (np : ¬ G p) (nk : Dj (Bl kv) G) (nc : Dj (Bl cv) G) (N : ∀ j, j < n → nodeW p kv cv G j → W j) : OutR κ R w n W (h + 1) p X nilV (.pointer none) := by
  subst hX; exact ⟨rfl, rfl, _, mkNode B O O2 ks kr Ks np nk nc, newF_in N⟩
theorem out_node_big [Inhabited V] {X : Tr V (h + 1) × Option (Ky × Tr V (h + 1))} {b9 m9 : Nat} (hX : X = (((K.take m9).map Prod.snd, ts.take (m9 + 1)), some ((K.getD m9 default).2, ((K.drop (m9 + 1)).map Prod.snd, ts.drop (m9 + 1))))) (hm : m9 < K.length)
    (B : Bx w p κ.tB [nilV, kv, cv]) (O : Own w 0 27 1 kv (K.take m9).length ((K.take m9).flatMap cK)) (O2 : Own w 0 κ.tN 1 cv (P.take (m9 + 1)).length ((P.take (m9 + 1)).flatMap cN))
    (B2 : Bx w q κ.tB [nilV, qk, qc]) (O3 : Own w b9 27 1 qk (K.drop (m9 + 1)).length ((K.drop (m9 + 1)).flatMap cK)) (O4 : Own w b9 κ.tN 1 qc (P.drop (m9 + 1)).length ((P.drop (m9 + 1)).flatMap cN)) (hq : b9 ≤ q) (hn : n ≤ b9)
    (ks : ∀ x9 ∈ K, Own w 0 5 1 x9.1 x9.2.length (x9.2.map u8v)) (kr : ∀ x9 ∈ K, ∀ k, Bl x9.1 k → R k) (Ks : KidsR κ R w h P ts G) (np : ¬ G p) (nk : Dj (Bl kv) G) (nc : Dj (Bl cv) G) (N : ∀ j, j < n → nodeW p kv cv G j → W j) (hlt : ∀ j, nodeW p kv cv G j → j < b9) : OutR κ R w n W (h + 1) p X (K.getD m9 default).1 (ptr q 0) := by
  obtain ⟨G1, G2, K1, K2, hd, s1, s2⟩ := Kids.split Ks (m9 + 1)
  have hmem := getD_mem (d := default) hm
  have sub : ∀ j, nodeW p kv cv G1 j → nodeW p kv cv G j := fun j hj => by
    rcases hj with hj | hj | hj | hj
    · exact .inl hj
    · exact .inr (.inl hj)
    · exact .inr (.inr (.inl hj))
    · exact .inr (.inr (.inr (s1 j hj)))
  have g2 : ∀ j, G2 j → j < b9 := fun j hj => hlt j (.inr (.inr (.inr (s2 j hj))))
  have fr : ∀ j, nodeW q qk qc G2 j → b9 ≤ j ∨ G2 j := fun j hj => by
    rcases hj with rfl | hj | hj | hj
    · exact .inl hq
    · exact .inl (O3.lt j hj).1
    · exact .inl (O4.lt j hj).1
    · exact .inr hj
  subst hX
  refine ⟨q, _, _, rfl, ks _ hmem, kr _ hmem, mkNode B O O2 (fun x hx => ks x (List.mem_of_mem_take hx)) (fun x hx => kr x (List.mem_of_mem_take hx)) K1 (fun h => np (s1 _ h)) (nk.mono s1) (nc.mono s1), mkNode B2 O3 O4 (fun x hx => ks x (List.mem_of_mem_drop hx)) (fun x hx => kr x (List.mem_of_mem_drop hx)) K2 (fun h => by have := g2 _ h; omega) (fun j hj hg => by have := (O3.lt j hj).1; have := g2 j hg; omega) (fun j hj hg => by have := (O4.lt j hj).1; have := g2 j hg; omega), newF_in fun j hj hw => N j hj (sub j hw), fun j hj => ?_, fun j hj hg => ?_⟩
  · rcases fr j hj with hj | hj
    · exact .inr (by omega)
    · by_cases hjn : j < n
      · exact .inl (N j hjn (.inr (.inr (.inr (s2 j hj)))))
      · exact .inr (by omega)
  · rcases fr j hg with hq' | hq'
    · have := hlt j (sub j hj); omega
    · rcases hj with rfl | hj | hj | hj
      · exact np (s2 _ hq')
      · exact nk j hj (s2 j hq')
      · exact nc j hj (s2 j hq')
      · exact hd j hj hq'
theorem halves_nsmall {ks : List Ky} (h6 : ks.length ≤ 6) : halves (h + 1) ((ks, ts) : Tr V (h + 1)) = ((ks, ts), none) := if_pos h6
theorem halves_nbig (h6 : 6 < K.length) : halves (h + 1) ((K.map Prod.snd, ts) : Tr V (h + 1)) = (((K.take (K.length / 2)).map Prod.snd, ts.take (K.length / 2 + 1)), some ((K.getD (K.length / 2) default).2, ((K.drop (K.length / 2 + 1)).map Prod.snd, ts.drop (K.length / 2 + 1)))) := by
  have hh : ¬ (K.map Prod.snd).length ≤ 6 := by simp; omega
  show (if (K.map Prod.snd).length ≤ 6 then _ else _) = _
  rw [if_neg hh]
  have e1 : (K.map Prod.snd).length = K.length := by simp
  have hl : K.length / 2 < K.length := by omega
  have e2 : (K.map Prod.snd).getD (K.length / 2) [] = (K.getD (K.length / 2) default).2 := getD_map9 hl
  show ((((K.map Prod.snd).take ((K.map Prod.snd).length / 2), ts.take ((K.map Prod.snd).length / 2 + 1)) : Tr V (h + 1)), some ((K.map Prod.snd).getD ((K.map Prod.snd).length / 2) [], (((K.map Prod.snd).drop ((K.map Prod.snd).length / 2 + 1), ts.drop ((K.map Prod.snd).length / 2 + 1)) : Tr V (h + 1)))) = _
  rw [e1, e2, List.map_take, List.map_drop]
theorem put_none (hc : ts[way (K.map Prod.snd) k]? = some c) (hr : (putT h k x c).2.2 = none) : putT (h + 1) k x ((K.map Prod.snd, ts) : Tr V (h + 1)) = ((putT h k x c).1, halves (h + 1) ((K.map Prod.snd, ts.set (way (K.map Prod.snd) k) (putT h k x c).2.1) : Tr V (h + 1))) := by
  have e : ts.getD (way (K.map Prod.snd) k) default = c := by rw [List.getD_eq_getElem?_getD, hc]; rfl
  rw [puts, e, hr]; rfl
theorem put_some (hc : ts[way (K.map Prod.snd) k]? = some c) (hr : (putT h k x c).2.2 = some (y, t2)) (hi : way (K.map Prod.snd) k ≤ K.length) : putT (h + 1) k x ((K.map Prod.snd, ts) : Tr V (h + 1)) = ((putT h k x c).1, halves (h + 1) (((K.insertIdx (way (K.map Prod.snd) k) (u, y)).map Prod.snd, (ts.set (way (K.map Prod.snd) k) (putT h k x c).2.1).insertIdx (way (K.map Prod.snd) k + 1) t2) : Tr V (h + 1))) := by
  have e : ts.getD (way (K.map Prod.snd) k) default = c := by rw [List.getD_eq_getElem?_getD, hc]; rfl
  rw [puts, e, hr, ← map_ins9 (f := Prod.snd) hi]; rfl
theorem outR_none {X : Tr V h × Option (Ky × Tr V h)} (hr : X.2.isSome = false) (O : OutR κ R w n W h p X u m) : X.2 = none ∧ u = nilV ∧ m = .pointer none ∧ ∃ W', TreeR κ R w h p X.1 W' ∧ NewF n W W' := by
  obtain ⟨t, o⟩ := X
  cases o with
  | none => obtain ⟨h1, h2, h3⟩ := O; exact ⟨rfl, h1, h2, h3⟩
  | some o => cases hr
theorem outR_some {X : Tr V h × Option (Ky × Tr V h)} (hr : X.2.isSome = true) (O : OutR κ R w n W h p X u m) : ∃ y t2 q W' W2, X.2 = some (y, t2) ∧ m = ptr q 0 ∧ Own w 0 5 1 u y.length (y.map u8v) ∧ (∀ j, Bl u j → R j) ∧ TreeR κ R w h p X.1 W' ∧ TreeR κ R w h q t2 W2 ∧ NewF n W W' ∧ NewF n W W2 ∧ Dj W' W2 := by
  obtain ⟨t, o⟩ := X
  cases o with
  | none => cases hr
  | some o => obtain ⟨y, t2⟩ := o; obtain ⟨q, W', W2, h⟩ := O; exact ⟨y, t2, q, W', W2, rfl, h⟩
theorem kks_ins {d : DK} {Q : DK → Prop} (ks : ∀ x9 ∈ K, Q x9) (hd : Q d) (hi : i ≤ K.length) : ∀ x9 ∈ K.insertIdx i d, Q x9 := fun x hx => by
  rw [insIdx d hi, List.mem_append, List.mem_cons] at hx
  rcases hx with hx | rfl | hx
  · exact ks _ (List.mem_of_mem_take hx)
  · exact hd
  · exact ks _ (List.mem_of_mem_drop hx)
end
end Go.Gx

namespace Go.Gx
open Go.RowKit
section
variable {P : Program} {ol : List Oper} {Q : Exit → Act → World → Prop} {bigs : List Nat} {φ : Nat → Value → Prop} {G : World → Prop} {a0 : Act} {N : Nat}
def PhT (bigs : List Nat) (φ : Nat → Value → Prop) (e : List (Nat × Value)) (j : Nat) (u : Value) : Prop := (bigs.contains j = true → e.lookup j = some u) ∧ (bigs.contains j = false → φ j u)
theorem PhT.mono {e : List (Nat × Value)} {i j : Nat} {v u : Value} (hij : j ≠ i) (h : PhT bigs φ e j u) : PhT bigs φ ((i, v) :: e) j u :=
  ⟨fun hb => by rw [List.lookup_cons, beq_false_of_ne hij]; exact h.1 hb, h.2⟩
structure TInv (ol : List Oper) (bigs : List Nat) (φ : Nat → Value → Prop) (a0 : Act) (N : Nat) (listed : Array Bool) (todo : List Nat) (e : List (Nat × Value)) (a : Act) : Prop where
  size : a.tmps.size = N
  defers : a.defers = a0.defers
  base : ∀ t, (∀ j o, ol[j]? = some o → listed.getD j true = true → o.dst ≠ some t) → a.tmps.getD t undef = a0.tmps.getD t undef
  phi : ∀ j o d, ol[j]? = some o → listed.getD j true = true → o.dst = some d → PhT bigs φ e j (a.tmps.getD d undef)
  closed : ∀ j o, ol[j]? = some o → listed.getD j true = true → ∀ x ∈ o.after, Region.binds .any x = true → listed.getD x.on false = true
  lsize : listed.size = ol.length
  todos : ∀ i, i ∈ todo ↔ i ∈ bigs ∧ listed.getD i true = false
  nodup : List.Nodup todo
def KI (P : Program) (ol : List Oper) (bigs : List Nat) (φ : Nat → Value → Prop) (G : World → Prop) (a0 : Act) (N : Nat) (e : List (Nat × Value)) (i : Nat) (w : World) (K : Value → World → Prop) : Prop :=
  ∀ w1, w.grownBy w1 none → G w1 → ∀ a, a.tmps.size = N → (∀ t, safeB ol i t = true → a.tmps.getD t undef = a0.tmps.getD t undef) → (∀ j oj d, depB ol i j = true → ol[j]? = some oj → oj.dst = some d → PhT bigs φ e j (a.tmps.getD d undef)) →
    ∀ o, ol[i]? = some o → wpList P ol.toArray (fun ex a' w' => ex = .normal ∧ ∃ v, ((o.dst = none ∧ a' = a) ∨ ∃ d, o.dst = some d ∧ a' = putsL a [(d, v)]) ∧ K v w' ∧ G w') [o] (putsL a []) w1
def readyT (ol : List Oper) (todo : List Nat) : List Nat := todo.filter fun i => todo.all fun j => !depB ol i j
def KT (P : Program) (ol : List Oper) (bigs : List Nat) (φ : Nat → Value → Prop) (G : World → Prop) (a0 : Act) (N : Nat) (Q : Exit → Act → World → Prop) : Nat → List Nat → List (Nat × Value) → World → Prop
  | 0, _, e, w => ∀ w1, w.grownBy w1 none → ∀ a', a'.tmps.size = N → a'.defers = a0.defers → (∀ t, (ol.all fun o => o.dst != some t) = true → a'.tmps.getD t undef = a0.tmps.getD t undef) →
      (∀ j oj d, ol[j]? = some oj → oj.dst = some d → PhT bigs φ e j (a'.tmps.getD d undef)) → Q .normal (putsL a' []) w1
  | n + 1, todo, e, w => ∀ i ∈ readyT ol todo, KI P ol bigs φ G a0 N e i w fun v w' => KT P ol bigs φ G a0 N Q n (todo.erase i) ((i, v) :: e) w'
theorem KT.stable : ∀ {n : Nat} {todo : List Nat} {e : List (Nat × Value)} {w w2 : World}, KT P ol bigs φ G a0 N Q n todo e w → w.grownBy w2 none → KT P ol bigs φ G a0 N Q n todo e w2
  | 0, _, _, _, _, h, E => fun w1 E1 => h w1 (grown_trans E E1)
  | _ + 1, _, _, _, _, h, E => fun i hi w1 E1 => h i hi w1 (grown_trans E E1)
def ObR9 (P : Program) (ol : List Oper) (bigs : List Nat) (φ : Nat → Value → Prop) (G : World → Prop) (a0 : Act) (N : Nat) (i : Nat) (o : Oper) : Prop :=
  ∀ (e : List (Nat × Value)) (a : Act) (w : World), a.tmps.size = N → G w → (∀ t, safeB ol i t = true → a.tmps.getD t undef = a0.tmps.getD t undef) → (∀ j oj d, depB ol i j = true → ol[j]? = some oj → oj.dst = some d → PhT bigs φ e j (a.tmps.getD d undef)) →
    wpList P ol.toArray (fun ex a' w' => ex = .normal ∧ (∃ d v, o.dst = some d ∧ a' = putsL a [(d, v)] ∧ φ i v) ∧ w.grownBy w' none) [o] (putsL a []) w
def ObRs9 (P : Program) (ol : List Oper) (bigs : List Nat) (φ : Nat → Value → Prop) (G : World → Prop) (a0 : Act) (N : Nat) : Nat → List Oper → Prop
  | _, [] => True
  | i, o :: r => (bigs.contains i = false → ObR9 P ol bigs φ G a0 N i o) ∧ ObRs9 P ol bigs φ G a0 N (i + 1) r
theorem ObRs9.nil {i : Nat} : ObRs9 P ol bigs φ G a0 N i [] := trivial
theorem ObRs9.cons {i : Nat} {o : Oper} {r : List Oper} (h : ObR9 P ol bigs φ G a0 N i o) (h' : ObRs9 P ol bigs φ G a0 N (i + 1) r) : ObRs9 P ol bigs φ G a0 N i (o :: r) := ⟨fun _ => h, h'⟩
theorem ObRs9.pass {i : Nat} {o : Oper} {r : List Oper} (hh : bigs.contains i = true) (h' : ObRs9 P ol bigs φ G a0 N (i + 1) r) : ObRs9 P ol bigs φ G a0 N i (o :: r) := ⟨fun h => absurd (hh.symm.trans h) (by decide), h'⟩
theorem ObRs9.getx : ∀ {l : List Oper} {i : Nat}, ObRs9 P ol bigs φ G a0 N i l → ∀ j o, l[j]? = some o → bigs.contains (i + j) = false → ObR9 P ol bigs φ G a0 N (i + j) o
  | [], _, _, j, o, h, _ => by simp at h
  | o' :: r, i, h, 0, o, hj, hs => by simp at hj; subst hj; exact h.1 hs
  | o' :: r, i, h, j + 1, o, hj, hs => by
    have := ObRs9.getx h.2 j o (by simpa using hj) (by rwa [show i + 1 + j = i + (j + 1) by omega])
    rwa [show i + 1 + j = i + (j + 1) by omega] at this
theorem region_tree_steps (hlex : lexB' ol = true) (hdn : dstNB ol N = true) (hdst : dstsB ol = true) (hbl : (bigs.all fun i => Nat.blt i ol.length) = true)
    (hG : ∀ w1 w2, w1.grownBy w2 none → G w1 → G w2) (obL : ∀ i o, ol[i]? = some o → bigs.contains i = false → ObR9 P ol bigs φ G a0 N i o) :
    ∀ (fuel : Nat) (listed : Array Bool) (todo : List Nat) (e : List (Nat × Value)) (a : Act) (w : World), TInv ol bigs φ a0 N listed todo e a → KT P ol bigs φ G a0 N Q todo.length todo e w → G w → (List.range ol.length).countP (fun i => !listed.getD i true) ≤ fuel → wpAny P .any ol.toArray Q fuel listed a w := by
  have done : ∀ (listed : Array Bool) (todo : List Nat) (e : List (Nat × Value)) (a : Act) (w : World), TInv ol bigs φ a0 N listed todo e a → KT P ol bigs φ G a0 N Q todo.length todo e w → Region.ready .any ol.toArray listed = [] → Q .normal a w := by
    intro listed todo ee a w I hk hr
    have hall : ∀ i, i < ol.length → listed.getD i true = true := by
      intro i
      induction i using Nat.strongRecOn with
      | _ i ih =>
        intro hi
        by_cases hq : listed.getD i true = true
        · exact hq
        · exfalso
          have hm : i ∈ Region.ready .any ol.toArray listed := by
            rw [mem_ready]
            refine ⟨by simpa using hq, ol[i], by simp [hi], fun e he hb => ?_⟩
            have h1 := List.all_eq_true.1 hlex i (by simp [hi])
            simp only [List.getElem?_eq_getElem hi, Array.all_eq_true_iff_forall_mem, Bool.or_eq_true, Bool.not_eq_true', Nat.blt_eq] at h1
            have h2 := (h1 e he).resolve_left (by simp [hb])
            exact getD_true_lt (ih e.on h2 (by omega)) (by rw [I.lsize]; omega)
          rw [hr] at hm
          cases hm
    have ht : todo = [] := by
      rw [List.eq_nil_iff_forall_not_mem]
      intro i hi
      obtain ⟨hb, hl⟩ := (I.todos i).1 hi
      have := List.all_eq_true.1 hbl i hb
      rw [hall i (by simpa [Nat.blt_eq] using this)] at hl
      cases hl
    subst ht
    exact hk w (grown_refl _ _) a I.size I.defers (fun t ht => I.base t fun j o hj _ hd' => by
      have := List.all_eq_true.1 ht o (List.mem_of_getElem? hj)
      simp [hd'] at this) (fun j oj d hj hd' => I.phi j oj d hj (hall j (List.getElem?_eq_some_iff.1 hj).1) hd')
  intro fuel
  induction fuel with
  | zero =>
    intro listed todo ee a w I hk hg hcnt
    have hr : Region.ready .any ol.toArray listed = [] := by
      rw [List.eq_nil_iff_forall_not_mem]
      intro i hi
      obtain ⟨h1, o, ho, _⟩ := mem_ready.1 hi
      have hlt : i < ol.length := by simpa using (Array.getElem?_eq_some_iff.1 ho).1
      have hz : (List.range ol.length).countP (fun i => !listed.getD i true) = 0 := by omega
      rw [List.countP_eq_zero] at hz
      exact hz i (by simp [hlt]) (by simp [h1])
    exact ⟨hr, done listed todo ee a w I hk hr⟩
  | succ fuel ih =>
    intro listed todo ee a w I hk hg hcnt
    refine ⟨fun hr => done listed todo ee a w I hk hr, fun i hi => ?_⟩
    obtain ⟨hun, o, ho, hwait⟩ := mem_ready.1 hi
    have ho' : ol[i]? = some o := by simpa using ho
    have hlt : i < ol.length := (List.getElem?_eq_some_iff.1 ho').1
    have hls : i < listed.size := by rw [I.lsize]; exact hlt
    have hcnt' : (List.range ol.length).countP (fun j => !(listed.setIfInBounds i true).getD j true) ≤ fuel := by
      have : (List.range ol.length).countP (fun j => !(listed.setIfInBounds i true).getD j true) < (List.range ol.length).countP (fun j => !listed.getD j true) := by
        refine countP_lt _ _ (fun y hy => ?_) _ i (by simp [hlt]) (by simp [hun]) (by simp [Array.getD_eq_getD_getElem?, hls])
        by_cases hiy : i = y
        · subst hiy; simp [Array.getD_eq_getD_getElem?, hls] at hy
        · rwa [getD_set_ne true hiy] at hy
      omega
    have hbase : ∀ t, safeB ol i t = true → a.tmps.getD t undef = a0.tmps.getD t undef := by
      intro t ht
      refine I.base t fun j oj hj hlj hd => ?_
      have h1 := List.all_eq_true.1 ht oj (List.mem_of_getElem? hj)
      simp only [Bool.or_eq_true, bne_iff_ne, ne_eq, Array.any_eq_true, Bool.and_eq_true, beq_iff_eq] at h1
      rcases h1 with h1 | ⟨q, hq, h1, h2⟩
      · exact h1 hd
      · have := getD_of_false (I.closed j oj hj hlj _ (Array.getElem_mem hq) h2)
        rw [h1, hun] at this
        cases this
    have hdep : ∀ j oj d, depB ol i j = true → ol[j]? = some oj → oj.dst = some d → PhT bigs φ ee j (a.tmps.getD d undef) := by
      intro j oj d hj hoj hd
      obtain ⟨e, he, h1, h2⟩ := depB_spec ho' hj
      exact I.phi j oj d hoj (getD_of_false (by rw [← h1]; exact hwait e he h2)) hd
    have hset : ∀ j, j ≠ i → (listed.setIfInBounds i true).getD j true = listed.getD j true := fun j hj => getD_set_ne true (Ne.symm hj)
    have hseti : (listed.setIfInBounds i true).getD i true = true := by simp [Array.getD_eq_getD_getElem?, hls]
    have hclosed : ∀ j oj, ol[j]? = some oj → (listed.setIfInBounds i true).getD j true = true → ∀ e ∈ oj.after, Region.binds .any e = true → (listed.setIfInBounds i true).getD e.on false = true := by
      intro j oj hoj hlj e he hb
      refine getD_set_true ?_
      by_cases hji : j = i
      · subst hji
        rw [ho'] at hoj; cases hoj
        exact hwait e he hb
      · rw [hset j hji] at hlj
        exact I.closed j oj hoj hlj e he hb
    have hne : ∀ j oj d, ol[j]? = some oj → j ≠ i → o.dst = some d → oj.dst ≠ some d := by
      intro j oj d hoj hji hd hd'
      have hj : j < ol.length := (List.getElem?_eq_some_iff.1 hoj).1
      have h1 := List.all_eq_true.1 (List.all_eq_true.1 hdst i (by simp [hlt])) j (by simp [hj])
      simp only [ho', hoj, Bool.or_eq_true, beq_iff_eq, bne_iff_ne, ne_eq] at h1
      rcases h1 with h1 | h1 | h1
      · exact hji h1.symm
      · exact h1 (by rw [hd, hd'])
      · rw [hd] at h1; cases h1
    -- what is left of the frame, behind a value in slot d
    have hframe : ∀ d v (e' : List (Nat × Value)), o.dst = some d → (∀ j u, j ≠ i → PhT bigs φ ee j u → PhT bigs φ e' j u) → PhT bigs φ e' i v → 
        (∀ t, (∀ j oj, ol[j]? = some oj → (listed.setIfInBounds i true).getD j true = true → oj.dst ≠ some t) → (putsL a [(d, v)]).tmps.getD t undef = a0.tmps.getD t undef) ∧
        (∀ j oj d', ol[j]? = some oj → (listed.setIfInBounds i true).getD j true = true → oj.dst = some d' → PhT bigs φ e' j ((putsL a [(d, v)]).tmps.getD d' undef)) := by
      intro d v e' hd hR hv
      have hdN : d < a.tmps.size := by
        have h1 := List.all_eq_true.1 hdn o (List.mem_of_getElem? ho')
        simp only [hd, Nat.blt_eq] at h1
        rw [I.size]; exact h1
      refine ⟨fun t ht => ?_, fun j oj d' hoj hlj hd' => ?_⟩
      · have hdt : d ≠ t := fun e => ht i o ho' hseti (by rw [hd, e])
        rw [get_put_ne hdt]
        refine I.base t fun j oj hoj hlj => ?_
        by_cases hji : j = i
        · subst hji; rw [hun] at hlj; cases hlj
        · exact ht j oj hoj (by rw [hset j hji]; exact hlj)
      · by_cases hji : j = i
        · subst hji
          rw [ho'] at hoj; cases hoj
          rw [hd] at hd'; cases hd'
          rw [get_put_eq hdN]
          exact hv
        · rw [hset j hji] at hlj
          have : d ≠ d' := fun e => hne j oj d hoj hji hd (by rw [hd', e])
          rw [get_put_ne this]
          exact hR j _ hji (I.phi j oj d' hoj hlj hd')
    by_cases hin : bigs.contains i = true
    · have hmem : i ∈ bigs := by simpa using hin
      have hit : i ∈ todo := (I.todos i).2 ⟨hmem, hun⟩
      have hrt : i ∈ readyT ol todo := by
        unfold readyT
        rw [List.mem_filter]
        refine ⟨hit, List.all_eq_true.2 fun j hj => ?_⟩
        cases hd : depB ol i j with
        | false => rfl
        | true =>
          obtain ⟨x, hx, h1, h2⟩ := depB_spec ho' hd
          have h3 := getD_of_false (hwait x hx h2)
          rw [h1, ((I.todos j).1 hj).2] at h3
          cases h3
      obtain ⟨n, hn⟩ : ∃ n, todo.length = n + 1 := ⟨todo.length - 1, by have := List.length_pos_of_mem hit; omega⟩
      have hn2 : (todo.erase i).length = n := by rw [List.length_erase_of_mem hit, hn]; rfl
      rw [hn] at hk
      have h0 := hk i hrt w (grown_refl _ _) hg a I.size hbase hdep o ho'
      refine wp_one (by simpa using ho') h0 fun a' w' h => ?_
      obtain ⟨v, h1, h2, h3⟩ := h
      have htodo : ∀ x, x ∈ todo.erase i ↔ x ∈ bigs ∧ (listed.setIfInBounds i true).getD x true = false := by
        intro x
        rw [I.nodup.mem_erase_iff, I.todos]
        by_cases hxi : x = i
        · subst hxi; simp [hseti]
        · rw [hset x hxi]; simp [hxi]
      refine ih _ (todo.erase i) ((i, v) :: ee) a' w' ?_ (by rw [hn2]; exact h2) h3 hcnt'
      have hpi : PhT bigs φ ((i, v) :: ee) i v := ⟨fun _ => by simp, fun hh => absurd (hin.symm.trans hh) (by decide)⟩
      rcases h1 with ⟨hd, rfl⟩ | ⟨d, hd, rfl⟩
      · refine ⟨I.size, I.defers, fun t ht => ?_, fun j oj d' hoj hlj hd' => ?_, hclosed, by simp [I.lsize], htodo, I.nodup.erase i⟩
        · refine I.base t fun j oj hoj hlj => ?_
          by_cases hji : j = i
          · subst hji; rw [hun] at hlj; cases hlj
          · exact ht j oj hoj (by rw [hset j hji]; exact hlj)
        · by_cases hji : j = i
          · subst hji
            rw [ho'] at hoj; cases hoj
            rw [hd] at hd'; cases hd'
          · rw [hset j hji] at hlj
            exact PhT.mono hji (I.phi j oj d' hoj hlj hd')
      · obtain ⟨f1, f2⟩ := hframe d v ((i, v) :: ee) hd (fun j u hj h => h.mono hj) hpi
        exact ⟨by rw [putsL_size, I.size], by rw [putsL_defers, I.defers], f1, f2, hclosed, by simp [I.lsize], htodo, I.nodup.erase i⟩
    · have hin' : bigs.contains i = false := by simpa using hin
      refine wp_one (by simpa using ho') (obL i o ho' hin' ee a w I.size hg hbase hdep) fun a' w' h => ?_
      obtain ⟨⟨d, v, hd, rfl, hv⟩, hgr⟩ := h
      obtain ⟨f1, f2⟩ := hframe d v ee hd (fun _ _ _ h => h) ⟨fun hh => absurd (hin'.symm.trans hh) (by decide), fun _ => hv⟩
      refine ih _ todo ee _ w' ⟨by rw [putsL_size, I.size], by rw [putsL_defers, I.defers], f1, f2, hclosed, by simp [I.lsize], fun x => ?_, I.nodup⟩ (hk.stable hgr) (hG _ _ hgr hg) hcnt'
      rw [I.todos]
      by_cases hxi : x = i
      · subst hxi; simp [hseti, hun]; simpa using hin'
      · rw [hset x hxi]
theorem any_tree (bigs : List Nat) (hlex : lexB' ol = true) (hdn : dstNB ol N = true) (hdst : dstsB ol = true) (hbl : (bigs.all fun i => Nat.blt i ol.length) = true) (hnd : decide bigs.Nodup = true)
    {l : List (Nat × Value)} {w : World} (hN : a0.tmps.size = N) (hG : ∀ w1 w2, w1.grownBy w2 none → G w1 → G w2) (g0 : G w) (obL : ObRs9 P ol bigs φ G (putsL a0 l) N 0 ol) (hdf : (putsL a0 l).defers = a0.defers)
    (main : KT P ol bigs φ G (putsL a0 l) N Q bigs.length bigs [] w) : RegAny P ol Q (putsL a0 l) w := by
  have hd : w.grownBy { w with drawn := w.drawn + 1 } none := ⟨rfl, rfl, rfl, Nat.le_refl _, fun _ _ _ => rfl⟩
  have I : TInv ol bigs φ (putsL a0 l) N (Array.replicate ol.length false) bigs [] (putsL a0 l) := by
    refine ⟨slN hN, rfl, fun _ _ => rfl, fun j o d hj hl => ?_, fun j o hj hl => ?_, by simp, fun i => ⟨fun hi => ⟨hi, ?_⟩, fun hi => hi.1⟩, of_decide_eq_true hnd⟩
    · have : j < ol.length := (List.getElem?_eq_some_iff.1 hj).1
      simp [Array.getD_eq_getD_getElem?, this] at hl
    · have : j < ol.length := (List.getElem?_eq_some_iff.1 hj).1
      simp [Array.getD_eq_getD_getElem?, this] at hl
    · have := List.all_eq_true.1 hbl i hi
      have h3 : i < ol.length := by simpa [Nat.blt_eq] using this
      simp [Array.getD_eq_getD_getElem?, h3]
  exact region_tree_steps (P := P) (Q := Q) hlex hdn hdst hbl hG (fun i o hi hh => by
      have h5 := ObRs9.getx obL i o hi (by rw [Nat.zero_add]; exact hh)
      rw [Nat.zero_add] at h5; exact h5) ol.length (Array.replicate ol.length false) bigs [] (putsL a0 l) _ I (main.stable hd) (hG _ _ hd g0) (Nat.le_trans (List.countP_le_length) (by simp))
theorem kt_step {n : Nat} {todo rs : List Nat} {e : List (Nat × Value)} {w : World} (hr : readyT ol todo = rs) (h : ∀ i ∈ rs, KI P ol bigs φ G a0 N e i w fun v w' => KT P ol bigs φ G a0 N Q n (todo.erase i) ((i, v) :: e) w') : KT P ol bigs φ G a0 N Q (n + 1) todo e w := by
  subst hr; exact h
theorem one_mem {p : Nat → Prop} {x : Nat} (h : p x) : ∀ i ∈ [x], p i := fun i hi => by
  obtain rfl : i = x := by simpa using hi
  exact h
theorem more_mem {p : Nat → Prop} {x y : Nat} {r : List Nat} (h : p x) (h' : ∀ i ∈ y :: r, p i) : ∀ i ∈ x :: y :: r, p i := List.forall_mem_cons.2 ⟨h, h'⟩
theorem kt_end {o : Oper} {d : Nat} {v : Value} {a : Act} {w : World} {K : Value → World → Prop} (hd : o.dst = some d) (g : G w) (h : K v w) :
    wpList P ol.toArray (fun ex a' w' => ex = .normal ∧ ∃ v, ((o.dst = none ∧ a' = a) ∨ ∃ d, o.dst = some d ∧ a' = putsL a [(d, v)]) ∧ K v w' ∧ G w') [] (putsL a [(d, v)]) w := ⟨rfl, v, .inr ⟨d, hd, rfl⟩, h, g⟩
theorem obT_end {o : Oper} {i d : Nat} {v : Value} {a : Act} {w : World} (hd : o.dst = some d) (hv : φ i v) :
    wpList P ol.toArray (fun ex a' w' => ex = .normal ∧ (∃ d v, o.dst = some d ∧ a' = putsL a [(d, v)] ∧ φ i v) ∧ w.grownBy w' none) [] (putsL a [(d, v)]) w := ⟨rfl, ⟨d, v, hd, rfl, hv⟩, grown_refl _ _⟩
end
end Go.Gx

namespace Go.Gx
open Go.RowKit
section
variable {P : Program} {ol : List Oper} {Q : Exit → Act → World → Prop} {bigs : List Nat} {φ : Nat → Value → Prop} {G : List Nat → World → Prop} {a0 : Act} {N : Nat}
def KIk (P : Program) (ol : List Oper) (bigs : List Nat) (φ : Nat → Value → Prop) (G : List Nat → World → Prop) (a0 : Act) (N : Nat) (e : List (Nat × Value)) (todo : List Nat) (i : Nat) (w : World) (K : Value → World → Prop) : Prop :=
  ∀ w1, w.grownBy w1 none → G todo w1 → ∀ a, a.tmps.size = N → (∀ t, safeB ol i t = true → a.tmps.getD t undef = a0.tmps.getD t undef) → (∀ j oj d, depB ol i j = true → ol[j]? = some oj → oj.dst = some d → PhT bigs φ e j (a.tmps.getD d undef)) →
    ∀ o, ol[i]? = some o → wpList P ol.toArray (fun ex a' w' => ex = .normal ∧ ∃ v, ((o.dst = none ∧ a' = a) ∨ ∃ d, o.dst = some d ∧ a' = putsL a [(d, v)]) ∧ K v w' ∧ G (todo.erase i) w') [o] (putsL a []) w1
def KTk (P : Program) (ol : List Oper) (bigs : List Nat) (φ : Nat → Value → Prop) (G : List Nat → World → Prop) (a0 : Act) (N : Nat) (Q : Exit → Act → World → Prop) : Nat → List Nat → List (Nat × Value) → World → Prop
  | 0, _, e, w => ∀ w1, w.grownBy w1 none → ∀ a', a'.tmps.size = N → a'.defers = a0.defers → (∀ t, (ol.all fun o => o.dst != some t) = true → a'.tmps.getD t undef = a0.tmps.getD t undef) →
      (∀ j oj d, ol[j]? = some oj → oj.dst = some d → PhT bigs φ e j (a'.tmps.getD d undef)) → Q .normal (putsL a' []) w1
  | n + 1, todo, e, w => ∀ i ∈ readyT ol todo, KIk P ol bigs φ G a0 N e todo i w fun v w' => KTk P ol bigs φ G a0 N Q n (todo.erase i) ((i, v) :: e) w'
theorem KTk.stable : ∀ {n : Nat} {todo : List Nat} {e : List (Nat × Value)} {w w2 : World}, KTk P ol bigs φ G a0 N Q n todo e w → w.grownBy w2 none → KTk P ol bigs φ G a0 N Q n todo e w2
  | 0, _, _, _, _, h, E => fun w1 E1 => h w1 (grown_trans E E1)
  | _ + 1, _, _, _, _, h, E => fun i hi w1 E1 => h i hi w1 (grown_trans E E1)
def ObQ9 (P : Program) (ol : List Oper) (bigs : List Nat) (φ : Nat → Value → Prop) (G : List Nat → World → Prop) (a0 : Act) (N : Nat) (i : Nat) (o : Oper) : Prop :=
  ∀ (e : List (Nat × Value)) (todo : List Nat) (a : Act) (w : World), a.tmps.size = N → (∀ j, bigs.contains j = true → depB ol j i = true → j ∈ todo) → G todo w → (∀ t, safeB ol i t = true → a.tmps.getD t undef = a0.tmps.getD t undef) → (∀ j oj d, depB ol i j = true → ol[j]? = some oj → oj.dst = some d → PhT bigs φ e j (a.tmps.getD d undef)) →
    wpList P ol.toArray (fun ex a' w' => ex = .normal ∧ (∃ d v, o.dst = some d ∧ a' = putsL a [(d, v)] ∧ φ i v) ∧ w.grownBy w' none) [o] (putsL a []) w
def ObRk9 (P : Program) (ol : List Oper) (bigs : List Nat) (φ : Nat → Value → Prop) (G : List Nat → World → Prop) (a0 : Act) (N : Nat) : Nat → List Oper → Prop
  | _, [] => True
  | i, o :: r => (bigs.contains i = false → ObQ9 P ol bigs φ G a0 N i o) ∧ ObRk9 P ol bigs φ G a0 N (i + 1) r
theorem ObRk9.nil {i : Nat} : ObRk9 P ol bigs φ G a0 N i [] := trivial
theorem ObRk9.cons {i : Nat} {o : Oper} {r : List Oper} (h : ObQ9 P ol bigs φ G a0 N i o) (h' : ObRk9 P ol bigs φ G a0 N (i + 1) r) : ObRk9 P ol bigs φ G a0 N i (o :: r) := ⟨fun _ => h, h'⟩
theorem ObRk9.pass {i : Nat} {o : Oper} {r : List Oper} (hh : bigs.contains i = true) (h' : ObRk9 P ol bigs φ G a0 N (i + 1) r) : ObRk9 P ol bigs φ G a0 N i (o :: r) := ⟨fun h => absurd (hh.symm.trans h) (by decide), h'⟩
theorem ObRk9.getx : ∀ {l : List Oper} {i : Nat}, ObRk9 P ol bigs φ G a0 N i l → ∀ j o, l[j]? = some o → bigs.contains (i + j) = false → ObQ9 P ol bigs φ G a0 N (i + j) o
  | [], _, _, j, o, h, _ => by simp at h
  | o' :: r, i, h, 0, o, hj, hs => by simp at hj; subst hj; exact h.1 hs
  | o' :: r, i, h, j + 1, o, hj, hs => by
    have := ObRk9.getx h.2 j o (by simpa using hj) (by rwa [show i + 1 + j = i + (j + 1) by omega])
    rwa [show i + 1 + j = i + (j + 1) by omega] at this
theorem region_treek_steps (hlex : lexB' ol = true) (hdn : dstNB ol N = true) (hdst : dstsB ol = true) (hbl : (bigs.all fun i => Nat.blt i ol.length) = true)
    (hG : ∀ t w1 w2, w1.grownBy w2 none → G t w1 → G t w2) (obL : ∀ i o, ol[i]? = some o → bigs.contains i = false → ObQ9 P ol bigs φ G a0 N i o) :
    ∀ (fuel : Nat) (listed : Array Bool) (todo : List Nat) (e : List (Nat × Value)) (a : Act) (w : World), TInv ol bigs φ a0 N listed todo e a → KTk P ol bigs φ G a0 N Q todo.length todo e w → G todo w → (List.range ol.length).countP (fun i => !listed.getD i true) ≤ fuel → wpAny P .any ol.toArray Q fuel listed a w := by
  have done : ∀ (listed : Array Bool) (todo : List Nat) (e : List (Nat × Value)) (a : Act) (w : World), TInv ol bigs φ a0 N listed todo e a → KTk P ol bigs φ G a0 N Q todo.length todo e w → Region.ready .any ol.toArray listed = [] → Q .normal a w := by
    intro listed todo ee a w I hk hr
    have hall : ∀ i, i < ol.length → listed.getD i true = true := by
      intro i
      induction i using Nat.strongRecOn with
      | _ i ih =>
        intro hi
        by_cases hq : listed.getD i true = true
        · exact hq
        · exfalso
          have hm : i ∈ Region.ready .any ol.toArray listed := by
            rw [mem_ready]
            refine ⟨by simpa using hq, ol[i], by simp [hi], fun e he hb => ?_⟩
            have h1 := List.all_eq_true.1 hlex i (by simp [hi])
            simp only [List.getElem?_eq_getElem hi, Array.all_eq_true_iff_forall_mem, Bool.or_eq_true, Bool.not_eq_true', Nat.blt_eq] at h1
            have h2 := (h1 e he).resolve_left (by simp [hb])
            exact getD_true_lt (ih e.on h2 (by omega)) (by rw [I.lsize]; omega)
          rw [hr] at hm
          cases hm
    have ht : todo = [] := by
      rw [List.eq_nil_iff_forall_not_mem]
      intro i hi
      obtain ⟨hb, hl⟩ := (I.todos i).1 hi
      have := List.all_eq_true.1 hbl i hb
      rw [hall i (by simpa [Nat.blt_eq] using this)] at hl
      cases hl
    subst ht
    exact hk w (grown_refl _ _) a I.size I.defers (fun t ht => I.base t fun j o hj _ hd' => by
      have := List.all_eq_true.1 ht o (List.mem_of_getElem? hj)
      simp [hd'] at this) (fun j oj d hj hd' => I.phi j oj d hj (hall j (List.getElem?_eq_some_iff.1 hj).1) hd')
  intro fuel
  induction fuel with
  | zero =>
    intro listed todo ee a w I hk hg hcnt
    have hr : Region.ready .any ol.toArray listed = [] := by
      rw [List.eq_nil_iff_forall_not_mem]
      intro i hi
      obtain ⟨h1, o, ho, _⟩ := mem_ready.1 hi
      have hlt : i < ol.length := by simpa using (Array.getElem?_eq_some_iff.1 ho).1
      have hz : (List.range ol.length).countP (fun i => !listed.getD i true) = 0 := by omega
      rw [List.countP_eq_zero] at hz
      exact hz i (by simp [hlt]) (by simp [h1])
    exact ⟨hr, done listed todo ee a w I hk hr⟩
  | succ fuel ih =>
    intro listed todo ee a w I hk hg hcnt
    refine ⟨fun hr => done listed todo ee a w I hk hr, fun i hi => ?_⟩
    obtain ⟨hun, o, ho, hwait⟩ := mem_ready.1 hi
    have ho' : ol[i]? = some o := by simpa using ho
    have hlt : i < ol.length := (List.getElem?_eq_some_iff.1 ho').1
    have hls : i < listed.size := by rw [I.lsize]; exact hlt
    have hcnt' : (List.range ol.length).countP (fun j => !(listed.setIfInBounds i true).getD j true) ≤ fuel := by
      have : (List.range ol.length).countP (fun j => !(listed.setIfInBounds i true).getD j true) < (List.range ol.length).countP (fun j => !listed.getD j true) := by
        refine countP_lt _ _ (fun y hy => ?_) _ i (by simp [hlt]) (by simp [hun]) (by simp [Array.getD_eq_getD_getElem?, hls])
        by_cases hiy : i = y
        · subst hiy; simp [Array.getD_eq_getD_getElem?, hls] at hy
        · rwa [getD_set_ne true hiy] at hy
      omega
    have hbase : ∀ t, safeB ol i t = true → a.tmps.getD t undef = a0.tmps.getD t undef := by
      intro t ht
      refine I.base t fun j oj hj hlj hd => ?_
      have h1 := List.all_eq_true.1 ht oj (List.mem_of_getElem? hj)
      simp only [Bool.or_eq_true, bne_iff_ne, ne_eq, Array.any_eq_true, Bool.and_eq_true, beq_iff_eq] at h1
      rcases h1 with h1 | ⟨q, hq, h1, h2⟩
      · exact h1 hd
      · have := getD_of_false (I.closed j oj hj hlj _ (Array.getElem_mem hq) h2)
        rw [h1, hun] at this
        cases this
    have hdep : ∀ j oj d, depB ol i j = true → ol[j]? = some oj → oj.dst = some d → PhT bigs φ ee j (a.tmps.getD d undef) := by
      intro j oj d hj hoj hd
      obtain ⟨e, he, h1, h2⟩ := depB_spec ho' hj
      exact I.phi j oj d hoj (getD_of_false (by rw [← h1]; exact hwait e he h2)) hd
    have hset : ∀ j, j ≠ i → (listed.setIfInBounds i true).getD j true = listed.getD j true := fun j hj => getD_set_ne true (Ne.symm hj)
    have hseti : (listed.setIfInBounds i true).getD i true = true := by simp [Array.getD_eq_getD_getElem?, hls]
    have hclosed : ∀ j oj, ol[j]? = some oj → (listed.setIfInBounds i true).getD j true = true → ∀ e ∈ oj.after, Region.binds .any e = true → (listed.setIfInBounds i true).getD e.on false = true := by
      intro j oj hoj hlj e he hb
      refine getD_set_true ?_
      by_cases hji : j = i
      · subst hji
        rw [ho'] at hoj; cases hoj
        exact hwait e he hb
      · rw [hset j hji] at hlj
        exact I.closed j oj hoj hlj e he hb
    have hne : ∀ j oj d, ol[j]? = some oj → j ≠ i → o.dst = some d → oj.dst ≠ some d := by
      intro j oj d hoj hji hd hd'
      have hj : j < ol.length := (List.getElem?_eq_some_iff.1 hoj).1
      have h1 := List.all_eq_true.1 (List.all_eq_true.1 hdst i (by simp [hlt])) j (by simp [hj])
      simp only [ho', hoj, Bool.or_eq_true, beq_iff_eq, bne_iff_ne, ne_eq] at h1
      rcases h1 with h1 | h1 | h1
      · exact hji h1.symm
      · exact h1 (by rw [hd, hd'])
      · rw [hd] at h1; cases h1
    -- what is left of the frame, behind a value in slot d
    have hframe : ∀ d v (e' : List (Nat × Value)), o.dst = some d → (∀ j u, j ≠ i → PhT bigs φ ee j u → PhT bigs φ e' j u) → PhT bigs φ e' i v → 
        (∀ t, (∀ j oj, ol[j]? = some oj → (listed.setIfInBounds i true).getD j true = true → oj.dst ≠ some t) → (putsL a [(d, v)]).tmps.getD t undef = a0.tmps.getD t undef) ∧
        (∀ j oj d', ol[j]? = some oj → (listed.setIfInBounds i true).getD j true = true → oj.dst = some d' → PhT bigs φ e' j ((putsL a [(d, v)]).tmps.getD d' undef)) := by
      intro d v e' hd hR hv
      have hdN : d < a.tmps.size := by
        have h1 := List.all_eq_true.1 hdn o (List.mem_of_getElem? ho')
        simp only [hd, Nat.blt_eq] at h1
        rw [I.size]; exact h1
      refine ⟨fun t ht => ?_, fun j oj d' hoj hlj hd' => ?_⟩
      · have hdt : d ≠ t := fun e => ht i o ho' hseti (by rw [hd, e])
        rw [get_put_ne hdt]
        refine I.base t fun j oj hoj hlj => ?_
        by_cases hji : j = i
        · subst hji; rw [hun] at hlj; cases hlj
        · exact ht j oj hoj (by rw [hset j hji]; exact hlj)
      · by_cases hji : j = i
        · subst hji
          rw [ho'] at hoj; cases hoj
          rw [hd] at hd'; cases hd'
          rw [get_put_eq hdN]
          exact hv
        · rw [hset j hji] at hlj
          have : d ≠ d' := fun e => hne j oj d hoj hji hd (by rw [hd', e])
          rw [get_put_ne this]
          exact hR j _ hji (I.phi j oj d' hoj hlj hd')
    by_cases hin : bigs.contains i = true
    · have hmem : i ∈ bigs := by simpa using hin
      have hit : i ∈ todo := (I.todos i).2 ⟨hmem, hun⟩
      have hrt : i ∈ readyT ol todo := by
        unfold readyT
        rw [List.mem_filter]
        refine ⟨hit, List.all_eq_true.2 fun j hj => ?_⟩
        cases hd : depB ol i j with
        | false => rfl
        | true =>
          obtain ⟨x, hx, h1, h2⟩ := depB_spec ho' hd
          have h3 := getD_of_false (hwait x hx h2)
          rw [h1, ((I.todos j).1 hj).2] at h3
          cases h3
      obtain ⟨n, hn⟩ : ∃ n, todo.length = n + 1 := ⟨todo.length - 1, by have := List.length_pos_of_mem hit; omega⟩
      have hn2 : (todo.erase i).length = n := by rw [List.length_erase_of_mem hit, hn]; rfl
      rw [hn] at hk
      have h0 := hk i hrt w (grown_refl _ _) hg a I.size hbase hdep o ho'
      refine wp_one (by simpa using ho') h0 fun a' w' h => ?_
      obtain ⟨v, h1, h2, h3⟩ := h
      have htodo : ∀ x, x ∈ todo.erase i ↔ x ∈ bigs ∧ (listed.setIfInBounds i true).getD x true = false := by
        intro x
        rw [I.nodup.mem_erase_iff, I.todos]
        by_cases hxi : x = i
        · subst hxi; simp [hseti]
        · rw [hset x hxi]; simp [hxi]
      refine ih _ (todo.erase i) ((i, v) :: ee) a' w' ?_ (by rw [hn2]; exact h2) h3 hcnt'
      have hpi : PhT bigs φ ((i, v) :: ee) i v := ⟨fun _ => by simp, fun hh => absurd (hin.symm.trans hh) (by decide)⟩
      rcases h1 with ⟨hd, rfl⟩ | ⟨d, hd, rfl⟩
      · refine ⟨I.size, I.defers, fun t ht => ?_, fun j oj d' hoj hlj hd' => ?_, hclosed, by simp [I.lsize], htodo, I.nodup.erase i⟩
        · refine I.base t fun j oj hoj hlj => ?_
          by_cases hji : j = i
          · subst hji; rw [hun] at hlj; cases hlj
          · exact ht j oj hoj (by rw [hset j hji]; exact hlj)
        · by_cases hji : j = i
          · subst hji
            rw [ho'] at hoj; cases hoj
            rw [hd] at hd'; cases hd'
          · rw [hset j hji] at hlj
            exact PhT.mono hji (I.phi j oj d' hoj hlj hd')
      · obtain ⟨f1, f2⟩ := hframe d v ((i, v) :: ee) hd (fun j u hj h => h.mono hj) hpi
        exact ⟨by rw [putsL_size, I.size], by rw [putsL_defers, I.defers], f1, f2, hclosed, by simp [I.lsize], htodo, I.nodup.erase i⟩
    · have hin' : bigs.contains i = false := by simpa using hin
      have hck : ∀ j, bigs.contains j = true → depB ol j i = true → j ∈ todo := by
        intro j hj hd
        rw [I.todos]
        refine ⟨by simpa using hj, ?_⟩
        cases hl : listed.getD j true with
        | false => rfl
        | true =>
          exfalso
          cases hok : ol[j]? with
          | none => simp [depB, hok] at hd
          | some ok =>
            obtain ⟨x, hx, h4, h5⟩ := depB_spec hok hd
            have h6 := getD_of_false (I.closed j ok hok hl x hx h5)
            rw [h4, hun] at h6; cases h6
      refine wp_one (by simpa using ho') (obL i o ho' hin' ee todo a w I.size hck hg hbase hdep) fun a' w' h => ?_
      obtain ⟨⟨d, v, hd, rfl, hv⟩, hgr⟩ := h
      obtain ⟨f1, f2⟩ := hframe d v ee hd (fun _ _ _ h => h) ⟨fun hh => absurd (hin'.symm.trans hh) (by decide), fun _ => hv⟩
      refine ih _ todo ee _ w' ⟨by rw [putsL_size, I.size], by rw [putsL_defers, I.defers], f1, f2, hclosed, by simp [I.lsize], fun x => ?_, I.nodup⟩ (hk.stable hgr) (hG _ _ _ hgr hg) hcnt'
      rw [I.todos]
      by_cases hxi : x = i
      · subst hxi; simp [hseti, hun]; simpa using hin'
      · rw [hset x hxi]
theorem any_treek (bigs : List Nat) (hlex : lexB' ol = true) (hdn : dstNB ol N = true) (hdst : dstsB ol = true) (hbl : (bigs.all fun i => Nat.blt i ol.length) = true) (hnd : decide bigs.Nodup = true)
    {l : List (Nat × Value)} {w : World} (hN : a0.tmps.size = N) (hG : ∀ t w1 w2, w1.grownBy w2 none → G t w1 → G t w2) (g0 : G bigs w) (obL : ObRk9 P ol bigs φ G (putsL a0 l) N 0 ol) (hdf : (putsL a0 l).defers = a0.defers)
    (main : KTk P ol bigs φ G (putsL a0 l) N Q bigs.length bigs [] w) : RegAny P ol Q (putsL a0 l) w := by
  have hd : w.grownBy { w with drawn := w.drawn + 1 } none := ⟨rfl, rfl, rfl, Nat.le_refl _, fun _ _ _ => rfl⟩
  have I : TInv ol bigs φ (putsL a0 l) N (Array.replicate ol.length false) bigs [] (putsL a0 l) := by
    refine ⟨slN hN, rfl, fun _ _ => rfl, fun j o d hj hl => ?_, fun j o hj hl => ?_, by simp, fun i => ⟨fun hi => ⟨hi, ?_⟩, fun hi => hi.1⟩, of_decide_eq_true hnd⟩
    · have : j < ol.length := (List.getElem?_eq_some_iff.1 hj).1
      simp [Array.getD_eq_getD_getElem?, this] at hl
    · have : j < ol.length := (List.getElem?_eq_some_iff.1 hj).1
      simp [Array.getD_eq_getD_getElem?, this] at hl
    · have := List.all_eq_true.1 hbl i hi
      have h3 : i < ol.length := by simpa [Nat.blt_eq] using this
      simp [Array.getD_eq_getD_getElem?, h3]
  exact region_treek_steps (P := P) (Q := Q) hlex hdn hdst hbl hG (fun i o hi hh => by
      have h5 := ObRk9.getx obL i o hi (by rw [Nat.zero_add]; exact hh)
      rw [Nat.zero_add] at h5; exact h5) ol.length (Array.replicate ol.length false) bigs [] (putsL a0 l) _ I (main.stable hd) (hG _ _ _ hd g0) (Nat.le_trans (List.countP_le_length) (by simp))
theorem ktk_step {n : Nat} {todo rs : List Nat} {e : List (Nat × Value)} {w : World} (hr : readyT ol todo = rs) (h : ∀ i ∈ rs, KIk P ol bigs φ G a0 N e todo i w fun v w' => KTk P ol bigs φ G a0 N Q n (todo.erase i) ((i, v) :: e) w') : KTk P ol bigs φ G a0 N Q (n + 1) todo e w := by
  subst hr; exact h
theorem ktk_end {todo : List Nat} {i : Nat} {o : Oper} {d : Nat} {v : Value} {a : Act} {w : World} {K : Value → World → Prop} (hd : o.dst = some d) (g : G (todo.erase i) w) (h : K v w) :
    wpList P ol.toArray (fun ex a' w' => ex = .normal ∧ ∃ v, ((o.dst = none ∧ a' = a) ∨ ∃ d, o.dst = some d ∧ a' = putsL a [(d, v)]) ∧ K v w' ∧ G (todo.erase i) w') [] (putsL a [(d, v)]) w := ⟨rfl, v, .inr ⟨d, hd, rfl⟩, h, g⟩
theorem ktk_end0 {todo : List Nat} {i : Nat} {o : Oper} {a : Act} {w : World} {K : Value → World → Prop} (hd : o.dst = none) (g : G (todo.erase i) w) (h : K undef w) :
    wpList P ol.toArray (fun ex a' w' => ex = .normal ∧ ∃ v, ((o.dst = none ∧ a' = a) ∨ ∃ d, o.dst = some d ∧ a' = putsL a [(d, v)]) ∧ K v w' ∧ G (todo.erase i) w') [] (putsL a []) w := ⟨rfl, undef, .inl ⟨hd, rfl⟩, h, g⟩
theorem obTk_end {o : Oper} {i d : Nat} {v : Value} {a : Act} {w : World} (hd : o.dst = some d) (hv : φ i v) :
    wpList P ol.toArray (fun ex a' w' => ex = .normal ∧ (∃ d v, o.dst = some d ∧ a' = putsL a [(d, v)] ∧ φ i v) ∧ w.grownBy w' none) [] (putsL a [(d, v)]) w := ⟨rfl, ⟨d, v, hd, rfl, hv⟩, grown_refl _ _⟩
end
end Go.Gx

namespace Go.Gx
open Go.RowKit
theorem join_at {P : Program} {Q : Exit → Act → World → Prop} {N : Nat} {G : Prop} {y : Code} {K : Act → World → Prop} (_ : ∀ a w, y.wp P Q a w → K a w) (D : Act → World → Prop) (h1 : (∀ a l w, a.tmps.size = N → a.defers = [] → D (putsL a l) w → y.wp P Q (putsL a l) w) → G) (h2 : ∀ a w, a.tmps.size = N → a.defers = [] → D a w → y.wp P Q (putsL a []) w) : G := h1 fun a l w hN hd h => h2 (putsL a l) w (slN hN) (by rw [putsL_defers, hd]) h
end Go.Gx

namespace Go.Proofs.Ytcpfdfejojghbaa
open Go.Gx Go.RowKit
attribute [local irreducible] wpList wpStill Code.wp Calls
open Go.Bt
def PutI (h : Nat) : Prop := ∀ ⦃k : List UInt8⦄ ⦃yv : Value⦄ ⦃x : Int⦄ ⦃R W : Nat → Prop⦄ ⦃p : Nat⦄ ⦃t : Tr (Int) h⦄ ⦃w : World⦄, TreeR kI R w h p t W → Ok h t → szT h t ≤ 6 → Own w 0 5 1 yv k.length (k.map u8v) → (∀ j, Bl yv j → R j) →
  Ret Try.prog 48 #[ptr p 0, (Value.agg #[yv, (Value.int .i64 x)])] w (fun v' w' => Gr w w' W ∧ ∃ u m, v' = .tuple #[.bool (putT h k x t).1, u, m] ∧ OutR kI R w' w.heap.size W h p (putT h k x t).2 u m)
theorem putNI {h : Nat} {k : List UInt8} {yv : Value} {x : Int} {R W G : Nat → Prop} {p : Nat} {kv cv : Value} {K : List DK} {P : List Nat} {cs : List (Tr (Int) h)} {w : World} (IH : PutI h) (hNd : NodeR kI R w p kv cv K P G W) (hKs : KidsR kI R w h P cs G) (hO : Nd h (K.map Prod.snd) cs) (hz : ∀ c ∈ cs, okSz h c) (hn : K.length ≤ 6) (hk : Own w 0 5 1 yv k.length (k.map u8v)) (hkr : ∀ j, Bl yv j → R j) : Ret Try.prog 48 #[(ptr p 0), (Value.agg #[yv, (Value.int .i64 x)])] w (fun v' w' => Gr w w' W ∧ ∃ u m, v' = .tuple #[.bool (putT (h + 1) k x ((K.map Prod.snd, cs) : Tr (Int) (h + 1))).1, u, m] ∧ OutR kI R w' w.heap.size W (h + 1) p (putT (h + 1) k x ((K.map Prod.snd, cs) : Tr (Int) (h + 1))).2 u m) := by
 have hx : Bx w p 115 [.slice none 0 0, kv, cv] := hNd.bx
 have ok := hNd.ok
 have oc : Own w 0 69 1 cv P.length (P.flatMap cN) := hNd.oc
 have ks := hNd.ks
 have hs := hO.2.1
 have hi_p := hx.lt
 have hPc : P.length = cs.length := hKs.len
 have hcl : cs.length = K.length + 1 := hO.1.trans (by simp)
 have hPl : P.length = K.length + 1 := hPc.trans hcl
 have hwl : (way (K.map Prod.snd) k) ≤ K.length := by have := way_le (K.map Prod.snd) k; simpa using this
 obtain ⟨c, hc, hcO, hcw⟩ := hO.at (i := (way (K.map Prod.snd) k)) (by simpa using hwl)
 have hic : (way (K.map Prod.snd) k) < cs.length := by omega
 obtain ⟨f, G0, hkid, hrest, hfG, hfs, hGs⟩ := Kids.cutc hKs hc
 have hkid : TreeR kI R w h (P.getD (way (K.map Prod.snd) k) default) c f := hkid
 have hrest : KidsR kI R w h (P.eraseIdx (way (K.map Prod.snd) k)) (cs.eraseIdx (way (K.map Prod.snd) k)) G0 := hrest
 have djpf : ¬ f p := fun q => hNd.np (hfs p q)
 have djpG : ¬ G0 p := fun q => hNd.np (hGs p q)
 have djkf := hNd.nk.mono hfs
 have djkG := hNd.nk.mono hGs
 have djcf := hNd.nc.mono hfs
 have djcG := hNd.nc.mono hGs
 have hb := Gr.refl w W
 refine enter (N := 92) Try.func48 rfl rfl (by simp) fun a0 hN hd hA => ?_
 have s0 : a0.tmps.getD 0 undef = (ptr p 0) := hA 0 (by simp)
 have s1 : a0.tmps.getD 1 undef = (Value.agg #[yv, (Value.int .i64 x)]) := hA 1 (by simp)
 clear hA
 refine seq_any fun K1 hK1 => one_reg (op_box (cs := [yv, (Value.int .i64 x)]) (ev_base hN rfl s1) rfl ?_)
 intro w2 b3 lo_b3 hi_b3 hB5 E4
 have dj6 : ¬ f b3 := fun hf => by have := (hkid.lt _ hf).2; omega
 have z_w2 := E4.size
 have hx := hx.keep0 E4
 have ok := ok.keep0 E4
 have oc := oc.keep0 E4
 have ks := all9 ks fun _ h => h.keep0 E4
 have hk := hk.keep0 E4
 have hkid := hkid.kz E4
 have hrest := hrest.kz E4
 have hb := hb.step0 E4
 refine op_assign rfl (op_assign rfl (op_assign rfl ?_))
 refine reg_nil (hK1 _ _ (seq_any fun K8 hK8 => seq_any fun K9 hK9 => one_reg (op_move (ev_base hN rfl s0) (op_fn (vs := [(ptr p 0)]) ok81 ⟨(ev_hit hN rfl), trivial⟩ (Ret.flip (leafNI hx ok oc (by omega) (by omega))) ?_))))
 rintro _ _ ⟨rfl, rfl⟩
 refine reg_nil (hK9 _ _ ?_)
 refine wp_cond_false (ev_hit hN rfl) (seq_any fun K10 hK10 => one_reg (op_move (ev_base hN rfl s0) (op_field fld51_0 (ev_hit hN rfl) (op_load1 (v := yv) one27 (ev_hit hN rfl) (hB5.cell rfl) (op_fn (vs := [(ptr p 0), yv]) ok84 ⟨(ev_hit hN rfl), ⟨(ev_hit hN rfl), trivial⟩⟩ (wayI hx ok oc ks hs (by omega) (hk.rdw.mono (Nat.zero_le _) (by omega))) ?_)))))
 rintro _ w11 ⟨E12, rfl⟩
 have E12 := grown_of_below E12
 have z_w11 := E12.size
 have hx := hx.keep0 E12
 have ok := ok.keep0 E12
 have oc := oc.keep0 E12
 have ks := all9 ks fun _ h => h.keep0 E12
 have hk := hk.keep0 E12
 have hkid := hkid.kz E12
 have hrest := hrest.kz E12
 have hB5 := hB5.keep0 E12
 have hb := hb.step0 E12
 refine op_assign (ev_hit hN rfl) ?_
 refine reg_nil (hK10 _ _ (seq_any fun K13 hK13 => one_reg (op_assign rfl (reg_nil (hK13 _ _ ?_)))))
 refine seq_any fun K14 hK14 => one_reg (op_assign rfl (reg_nil (hK14 _ _ (seq_any fun K15 hK15 => reg_from mixed ?_))))
 intro w17 E16
 have z_w17 := E16.size
 have hx := hx.keep0 E16
 have ok := ok.keep0 E16
 have oc := oc.keep0 E16
 have ks := all9 ks fun _ h => h.keep0 E16
 have hk := hk.keep0 E16
 have hkid := hkid.kz E16
 have hrest := hrest.kz E16
 have hB5 := hB5.keep0 E16
 have hb := hb.step0 E16
 refine from_still (m := 8) 8 (hd := [_, _, _, _, _, _, _, _]) (by kernel_rfl) rfl rfl ?_
 refine st_step rfl (fun _ h9 => op_move (ev_base hN rfl s0) h9) ?_
 refine st_step rfl (fun _ h9 => op_nil (ev_hit hN rfl) h9) ?_
 refine st_step rfl (fun _ h9 => op_field fld115_2 (ev_hit hN rfl) h9) ?_
 refine st_step rfl (fun _ h9 => op_load1 (v := cv) one113 (ev_hit hN rfl) (hx.cell rfl) h9) ?_
 refine st_step rfl (fun _ h9 => op_move (ev_hit hN rfl) h9) ?_
 refine st_index_rd slt113 (ev_hit hN rfl) oc.rdw (ev_hit hN rfl) (by omega) (by omega) ?_
 intro b18 o19 h0b18 h1b18 hc20
 refine st_step rfl (fun _ h9 => op_load1 (v := (ptr (P.getD ((way (K.map Prod.snd) k)) default) 0)) one69 (ev_hit hN rfl) (by have := hc20 0 (ptr (P.getD ((way (K.map Prod.snd) k)) default) 0) (by decide) (el_pn (i := ((way (K.map Prod.snd) k))) (by omega) (by first | omega | (simp only [List.length_drop, List.length_take]; omega))); simpa using this) h9) ?_
 refine st_step rfl (fun _ h9 => op_loadA (cs := [yv, (Value.int .i64 x)]) agg51 rfl (ev_hit hN rfl) (fun j u hu => by rw [Nat.zero_add]; exact hB5.cell hu) h9) ?_
 refine st_nil ?_
 refine from_one (k' := 9) (by kernel_rfl) rfl rfl ?_
 rcases Bool.eq_false_or_eq_true (((putT h k x c).2.2.isSome)) with k55 | k55
 ·
  refine op_fn (vs := [(ptr (P.getD ((way (K.map Prod.snd) k)) default) 0), (Value.agg #[yv, (Value.int .i64 x)])]) ok48 ⟨(ev_hit hN rfl), ⟨(ev_hit hN rfl), trivial⟩⟩ (IH hkid hcO (by have := (hz c (List.mem_of_getElem? hc)).2; omega) hk hkr) ?_
  rintro _ w22 ⟨E23, u21, m21, rfl, ho21⟩
  have bd24 := hx.lt
  have bd25 := ok.lt
  have bd26 := oc.lt
  have bd27 := hk.lt
  have bd28 := hrest.lt
  have bd29 := hB5.lt
  obtain ⟨y21, t2_21, q21, W1_21, W2_21, hr21, rfl, hu21, hur21, hT21, hT2_21, hN1_21, hN2_21, hd21⟩ := outR_some k55 ho21
  have hkid_old := hkid
  have z_w22 := E23.size
  have hx := hx.keepG E23 djpf
  have ok := ok.keepG E23 djkf
  have oc := oc.keepG E23 djcf
  have ks : ∀ x9 ∈ K, Own w22 0 5 1 x9.1 x9.2.length (x9.2.map u8v) := fun x9 hx9 => (ks x9 hx9).keepG E23 (hkid_old.notOwn (ks x9 hx9) (by decide) (by decide) (by decide) (by decide))
  have hk := hk.keepG E23 (hkid_old.notOwn hk (by decide) (by decide) (by decide) (by decide))
  have hrest := hrest.keepG E23 hfG.symm (hkid_old.noK kI_fine)
  have hB5 := hB5.keepG E23 dj6
  have hb := hb.stepF E23 (fun k _ h => hNd.wg k (hfs k h))
  have dj30 : ¬ W1_21 p := ne_stepF hN1_21 bd24 djpf
  have dj31 : Dj (Bl kv) W1_21 := Dj.stepF hN1_21 (fun k hk => (bd25 k hk).2) djkf
  have dj32 : Dj (Bl cv) W1_21 := Dj.stepF hN1_21 (fun k hk => (bd26 k hk).2) djcf
  have dj34 : Dj G0 W1_21 := Dj.stepF hN1_21 (fun k hk => (bd28 k hk).2) hfG.symm
  have dj36 : ¬ W2_21 p := ne_stepF hN2_21 bd24 djpf
  have dj37 : Dj (Bl kv) W2_21 := Dj.stepF hN2_21 (fun k hk => (bd25 k hk).2) djkf
  have dj38 : Dj (Bl cv) W2_21 := Dj.stepF hN2_21 (fun k hk => (bd26 k hk).2) djcf
  have dj40 : Dj G0 W2_21 := Dj.stepF hN2_21 (fun k hk => (bd28 k hk).2) hfG.symm
  have hin42 := in_newF (hN1_21.mono (t := w.heap.size) (by omega)) (fun k hk => hNd.wg k (hfs k hk))
  have hin43 := in_newF (hN2_21.mono (t := w.heap.size) (by omega)) (fun k hk => hNd.wg k (hfs k hk))
  refine from_next ?_
  refine from_still (m := 16) 7 (hd := [_, _, _, _, _, _, _]) (by kernel_rfl) rfl rfl ?_
  refine st_step rfl (fun _ h9 => op_move (ev_hit hN rfl) h9) ?_
  refine st_step rfl (fun _ h9 => op_extract (ev_hit hN rfl) rfl h9) ?_
  refine st_step rfl (fun _ h9 => op_extract (ev_hit hN rfl) rfl h9) ?_
  refine st_step rfl (fun _ h9 => op_extract (ev_hit hN rfl) rfl h9) ?_
  refine st_step rfl (fun _ h9 => op_assign (ev_hit hN rfl) h9) ?_
  refine st_step rfl (fun _ h9 => op_assign (ev_hit hN rfl) h9) ?_
  refine st_step rfl (fun _ h9 => op_assign (ev_hit hN rfl) h9) ?_
  refine st_nil ?_
  refine from_end ?_ rfl
  refine hK15 _ _ (join_at hK8 (N := 92) (fun az_ w' => ∃ (vk vc : Value), (az_.tmps.getD 0 undef = (ptr p 0)) ∧ (az_.tmps.getD 4 undef = (Value.bool (putT h k x c).1)) ∧ (az_.tmps.getD 5 undef = (Value.slice none 0 0)) ∧ (az_.tmps.getD 6 undef = (Value.pointer none)) ∧ (Dj (Bl vk) G0) ∧ (Dj (Bl vk) W1_21) ∧ (Dj (Bl vk) W2_21) ∧ (∀ j, j < w.heap.size → Bl vk j → W j) ∧ (Dj (Bl vc) G0) ∧ (Dj (Bl vc) W1_21) ∧ (Dj (Bl vc) W2_21) ∧ (∀ j, j < w.heap.size → Bl vc j → W j) ∧ (Gr w w' W) ∧ (w22.heap.size ≤ w'.heap.size) ∧ (∀ x9 ∈ K, Own w' 0 5 1 x9.1 x9.2.length (x9.2.map u8v)) ∧ (Own w' 0 5 1 yv k.length (k.map u8v)) ∧ (KidsR kI R w' h (P.eraseIdx (way (K.map Prod.snd) k)) (cs.eraseIdx (way (K.map Prod.snd) k)) G0) ∧ (Bx w' b3 51 [yv, (Value.int .i64 x)]) ∧ (TreeR kI R w' h (P.getD (way (K.map Prod.snd) k) default) (putT h k x c).2.1 W1_21) ∧ (TreeR kI R w' h q21 t2_21 W2_21) ∧ (Own w' 0 5 1 u21 y21.length (y21.map u8v)) ∧ (Own w' 0 27 1 vk (K.insertIdx (way (K.map Prod.snd) k) (u21, y21)).length ((K.insertIdx (way (K.map Prod.snd) k) (u21, y21)).flatMap cK)) ∧ (Own w' 0 69 1 vc (P.insertIdx ((way (K.map Prod.snd) k) + 1) q21).length ((P.insertIdx ((way (K.map Prod.snd) k) + 1) q21).flatMap cN)) ∧ (Bx w' p 115 [(Value.slice none 0 0), vk, vc])) (fun hJ53 => ?_) ?_)
  ·
   refine seq_any fun K56 hK56 => one_reg (op_move (ev_hit hN rfl) (op_pne_some ptrt69 (ev_hit hN rfl) rfl ?_))
   refine reg_nil (hK56 _ _ (wp_cond_true (ev_hit hN rfl) (reg_split (hd := [_, _, _, _, _, _, _, _, _, _, _, _, _, _, _, _, _, _, _, _, _, _]) (tl := _) 22 mixed (by kernel_rfl) rfl rfl ?_)))
   refine any_treek (φ := phiV [(fun uz => uz = (ptr p 0)), (fun uz => uz = (ptr p 0)), (fun uz => uz = (ptr p 0)), (fun uz => uz = (ptr p 0)), (fun uz => uz = (ptr p 1)), (fun uz => uz = kv), (fun uz => uz = (Value.int .i64 (((way (K.map Prod.snd) k) : Nat) : Int))), (fun uz => uz = u21), (fun _ => True), (fun _ => True), (fun uz => uz = (ptr p 0)), (fun uz => uz = (ptr p 0)), (fun uz => uz = (ptr p 2)), (fun uz => uz = cv), (fun uz => uz = (Value.int .i64 (((way (K.map Prod.snd) k) : Nat) : Int))), (fun uz => uz = (Value.int .i64 ((((way (K.map Prod.snd) k) : Nat) : Int) + 1))), (fun uz => uz = (ptr q21 0)), (fun _ => True), (fun _ => True), (fun uz => uz = (ptr p 0)), (fun uz => uz = (ptr p 1)), (fun _ => True)]) (G := fun t9 w' => 21 ∈ t9 → (Bx w' p 115 [(Value.slice none 0 0), kv, cv])) [8, 9, 17, 18, 21] (by kernel_rfl) (by kernel_rfl) (by kernel_rfl) (by kernel_rfl) (by kernel_rfl) hN (fun _ w1 w2 E h hc9 => (h hc9).keep0 E) (fun _ => hx) (ObRk9.cons ?_ (ObRk9.cons ?_ (ObRk9.cons ?_ (ObRk9.cons ?_ (ObRk9.cons ?_ (ObRk9.cons ?_ (ObRk9.cons ?_ (ObRk9.cons ?_ (ObRk9.pass rfl (ObRk9.pass rfl (ObRk9.cons ?_ (ObRk9.cons ?_ (ObRk9.cons ?_ (ObRk9.cons ?_ (ObRk9.cons ?_ (ObRk9.cons ?_ (ObRk9.cons ?_ (ObRk9.pass rfl (ObRk9.pass rfl (ObRk9.cons ?_ (ObRk9.cons ?_ (ObRk9.pass rfl (ObRk9.nil))))))))))))))))))))))) (by simp only [putsL_defers]) ?_
   ·
    intro eA tA aA wA hNA hckA hGA hbsA hdpA
    have qA_0 := (hbsA 0 rfl).trans (sl_base hN rfl s0)
    refine op_move (ev_base hNA rfl qA_0) ?_
    exact obTk_end rfl rfl
   ·
    intro eA tA aA wA hNA hckA hGA hbsA hdpA
    have qA_0 := (hbsA 0 rfl).trans (sl_base hN rfl s0)
    refine op_move (ev_base hNA rfl qA_0) ?_
    exact obTk_end rfl rfl
   ·
    intro eA tA aA wA hNA hckA hGA hbsA hdpA
    have qA_0 := (hbsA 0 rfl).trans (sl_base hN rfl s0)
    refine op_move (ev_base hNA rfl qA_0) ?_
    exact obTk_end rfl rfl
   ·
    intro eA tA aA wA hNA hckA hGA hbsA hdpA
    have qA_63 : Sl aA 63 (ptr p 0) := (hdpA 2 _ 63 (by kernel_rfl) rfl rfl).2 rfl
    refine op_nil (ev_base hNA rfl qA_63) ?_
    exact obTk_end rfl rfl
   ·
    intro eA tA aA wA hNA hckA hGA hbsA hdpA
    have qA_64 : Sl aA 64 (ptr p 0) := (hdpA 3 _ 64 (by kernel_rfl) rfl rfl).2 rfl
    refine op_field fld115_1 (ev_base hNA rfl qA_64) ?_
    exact obTk_end rfl rfl
   ·
    intro eA tA aA wA hNA hckA hGA hbsA hdpA
    have qA_65 : Sl aA 65 (ptr p 1) := (hdpA 4 _ 65 (by kernel_rfl) rfl rfl).2 rfl
    have hGA := hGA (hckA 21 rfl (by kernel_rfl))
    refine op_load1 (v := kv) one90 (ev_base hNA rfl qA_65) (hGA.cell rfl) ?_
    exact obTk_end rfl rfl
   ·
    intro eA tA aA wA hNA hckA hGA hbsA hdpA
    have qA_9 := (hbsA 9 rfl).trans (sl_hit hN rfl)
    refine op_move (ev_base hNA rfl qA_9) ?_
    exact obTk_end rfl rfl
   ·
    intro eA tA aA wA hNA hckA hGA hbsA hdpA
    have qA_10 := (hbsA 10 rfl).trans (sl_hit hN rfl)
    refine op_move (ev_base hNA rfl qA_10) ?_
    exact obTk_end rfl rfl
   ·
    intro eA tA aA wA hNA hckA hGA hbsA hdpA
    have qA_0 := (hbsA 0 rfl).trans (sl_base hN rfl s0)
    refine op_move (ev_base hNA rfl qA_0) ?_
    exact obTk_end rfl rfl
   ·
    intro eA tA aA wA hNA hckA hGA hbsA hdpA
    have qA_71 : Sl aA 71 (ptr p 0) := (hdpA 10 _ 71 (by kernel_rfl) rfl rfl).2 rfl
    refine op_nil (ev_base hNA rfl qA_71) ?_
    exact obTk_end rfl rfl
   ·
    intro eA tA aA wA hNA hckA hGA hbsA hdpA
    have qA_72 : Sl aA 72 (ptr p 0) := (hdpA 11 _ 72 (by kernel_rfl) rfl rfl).2 rfl
    refine op_field fld115_2 (ev_base hNA rfl qA_72) ?_
    exact obTk_end rfl rfl
   ·
    intro eA tA aA wA hNA hckA hGA hbsA hdpA
    have qA_73 : Sl aA 73 (ptr p 2) := (hdpA 12 _ 73 (by kernel_rfl) rfl rfl).2 rfl
    have hGA := hGA (hckA 21 rfl (by kernel_rfl))
    refine op_load1 (v := cv) one113 (ev_base hNA rfl qA_73) (hGA.cell rfl) ?_
    exact obTk_end rfl rfl
   ·
    intro eA tA aA wA hNA hckA hGA hbsA hdpA
    have qA_9 := (hbsA 9 rfl).trans (sl_hit hN rfl)
    refine op_move (ev_base hNA rfl qA_9) ?_
    exact obTk_end rfl rfl
   ·
    intro eA tA aA wA hNA hckA hGA hbsA hdpA
    have qA_75 : Sl aA 75 (Value.int .i64 (((way (K.map Prod.snd) k) : Nat) : Int)) := (hdpA 14 _ 75 (by kernel_rfl) rfl rfl).2 rfl
    refine op_add (ev_base hNA rfl qA_75) rfl (add64 (by omega)) ?_
    exact obTk_end rfl rfl
   ·
    intro eA tA aA wA hNA hckA hGA hbsA hdpA
    have qA_11 := (hbsA 11 rfl).trans (sl_hit hN rfl)
    refine op_move (ev_base hNA rfl qA_11) ?_
    exact obTk_end rfl rfl
   ·
    intro eA tA aA wA hNA hckA hGA hbsA hdpA
    have qA_61 : Sl aA 61 (ptr p 0) := (hdpA 0 _ 61 (by kernel_rfl) rfl rfl).2 rfl
    refine op_nil (ev_base hNA rfl qA_61) ?_
    exact obTk_end rfl rfl
   ·
    intro eA tA aA wA hNA hckA hGA hbsA hdpA
    have qA_80 : Sl aA 80 (ptr p 0) := (hdpA 19 _ 80 (by kernel_rfl) rfl rfl).2 rfl
    refine op_field fld115_1 (ev_base hNA rfl qA_80) ?_
    exact obTk_end rfl rfl
   ·
    refine ktk_step (rs := [8, 17]) (by kernel_rfl) ?_
    refine more_mem ?_ ?_
    ·
     intro w58 E58 _ a58 hN58 hbs58 hdp58 o_ ho_; obtain rfl := Option.some.inj ho_
     have z_w58 := E58.size
     have hx := hx.keep0 E58
     have ok := ok.keep0 E58
     have oc := oc.keep0 E58
     have ks := all9 ks fun _ h => h.keep0 E58
     have hk := hk.keep0 E58
     have hrest := hrest.kz E58
     have hB5 := hB5.keep0 E58
     have hT21 := hT21.kz E58
     have hT2_21 := hT2_21.kz E58
     have hu21 := hu21.keep0 E58
     have hb := hb.step0 E58
     have q58_68 : Sl a58 68 u21 := (hdp58 7 _ 68 (by kernel_rfl) rfl rfl).2 rfl
     refine op_bslice (e := 27) (pv := [(0, u21)]) (cs := [u21]) ⟨rfl, (ev_base hN58 rfl q58_68), trivial⟩ (by obtain ⟨_, _, _, rfl⟩ := hu21.sl; kernel_rfl) ?_
     intro w59 b60 lo_b60 hi_b60 hB62 E61
     have ne_b60_kv : kv.ownBlock ≠ some b60 := fun hh => by have := (ok.lt _ hh).2; omega
     have z_w59 := E61.size
     have hx := hx.keep0 E61
     have ok := ok.keep0 E61
     have oc := oc.keep0 E61
     have ks := all9 ks fun _ h => h.keep0 E61
     have hk := hk.keep0 E61
     have hrest := hrest.kz E61
     have hB5 := hB5.keep0 E61
     have hT21 := hT21.kz E61
     have hT2_21 := hT2_21.kz E61
     have hu21 := hu21.keep0 E61
     have hb := hb.step0 E61
     refine ktk_end (G := fun t9 w' => 21 ∈ t9 → (Bx w' p 115 [(Value.slice none 0 0), kv, cv])) (todo := [8, 9, 17, 18, 21]) (i := 8) rfl (fun _ => hx) ?_
     refine ktk_step (rs := [9, 17]) (by kernel_rfl) ?_
     refine more_mem ?_ ?_
     ·
      intro w67 E67 _ a67 hN67 hbs67 hdp67 o_ ho_; obtain rfl := Option.some.inj ho_
      have z_w67 := E67.size
      have hx := hx.keep0 E67
      have ok := ok.keep0 E67
      have oc := oc.keep0 E67
      have ks := all9 ks fun _ h => h.keep0 E67
      have hk := hk.keep0 E67
      have hrest := hrest.kz E67
      have hB5 := hB5.keep0 E67
      have hT21 := hT21.kz E67
      have hT2_21 := hT2_21.kz E67
      have hu21 := hu21.keep0 E67
      have hB62 := hB62.keep0 E67
      have hb := hb.step0 E67
      have q67_66 : Sl a67 66 kv := (hdp67 5 _ 66 (by kernel_rfl) rfl rfl).2 rfl
      have q67_67 : Sl a67 67 (Value.int .i64 (((way (K.map Prod.snd) k) : Nat) : Int)) := (hdp67 6 _ 67 (by kernel_rfl) rfl rfl).2 rfl
      have q67_69 : Sl a67 69 (Value.slice (some ⟨b60, 0, none⟩) 1 1) := (Option.some.inj ((hdp67 8 _ 69 (by kernel_rfl) rfl rfl).1 rfl)).symm
      refine op_fn (vs := [kv, (Value.int .i64 (((way (K.map Prod.snd) k) : Nat) : Int)), (Value.slice (some ⟨b60, 0, none⟩) 1 1)]) ok67 ⟨(ev_base hN67 rfl q67_66), ⟨(ev_base hN67 rfl q67_67), ⟨(ev_base hN67 rfl q67_69), trivial⟩⟩⟩ (InsK ok hB62 (one_kd ks (fun _ h => h)) (by simp only [List.all_cons, List.all_nil, Bool.true_and, Bool.and_true, hu21.one]; try rfl) (by first | omega | (simp only [List.length_insertIdx, List.length_set, List.length_drop, List.length_take]; omega) | (simp; omega)) (by first | omega | (simp only [List.length_insertIdx, List.length_set, List.length_drop, List.length_take]; omega) | (simp; omega)) ne_b60_kv) ?_
      rintro v68 w69 ⟨E70, hO68, hm68⟩
      have dj71 : Dj G0 (Bl v68) := Dj.step hm68 (fun k hk => (hrest.lt k hk).2) djkG.symm
      have dj72 : Dj W1_21 (Bl v68) := Dj.step hm68 (fun k hk => (hT21.lt k hk).2) dj31.symm
      have dj73 : Dj W2_21 (Bl v68) := Dj.step hm68 (fun k hk => (hT2_21.lt k hk).2) dj37.symm
      have hin74 := inF_step (n := w.heap.size) hm68 (by omega) (fun k _ h => hNd.wk k h)
      have z_w69 := E70.size
      have hx := hx.keepO ok E70 (by decide)
      have oc := oc.keepT ok E70 (by decide)
      have ks := all9 ks fun _ h => h.keepT ok E70 (by decide)
      have hk := hk.keepT ok E70 (by decide)
      have hrest := hrest.keepG (Gr.of E70) djkG.symm (NoK.ofOwn ok (by decide))
      have hB5 := hB5.keepO ok E70 (by decide)
      have hT21 := hT21.keepG (Gr.of E70) dj31.symm (NoK.ofOwn ok (by decide))
      have hT2_21 := hT2_21.keepG (Gr.of E70) dj37.symm (NoK.ofOwn ok (by decide))
      have hu21 := hu21.keepT ok E70 (by decide)
      have hb := hb.stepL E70 (fun k _ h => hNd.wk k h)
      have hO68 : Own w69 0 27 1 v68 (K.insertIdx (way (K.map Prod.snd) k) (u21, y21)).length ((K.insertIdx (way (K.map Prod.snd) k) (u21, y21)).flatMap cK) := hO68.cast (by rw [List.length_insertIdx, if_pos (by first | omega | (simp only [List.length_insertIdx, List.length_set, List.length_drop, List.length_take]; omega) | (simp; omega))]) (flat_ins cK_len (u21, y21) (by first | omega | (simp only [List.length_insertIdx, List.length_set, List.length_drop, List.length_take]; omega) | (simp; omega)))
      refine ktk_end (G := fun t9 w' => 21 ∈ t9 → (Bx w' p 115 [(Value.slice none 0 0), kv, cv])) (todo := [9, 17, 18, 21]) (i := 9) rfl (fun _ => hx) ?_
      refine ktk_step (rs := [17]) (by kernel_rfl) ?_
      refine one_mem ?_
      intro w76 E76 _ a76 hN76 hbs76 hdp76 o_ ho_; obtain rfl := Option.some.inj ho_
      have z_w76 := E76.size
      have hx := hx.keep0 E76
      have oc := oc.keep0 E76
      have ks := all9 ks fun _ h => h.keep0 E76
      have hk := hk.keep0 E76
      have hrest := hrest.kz E76
      have hB5 := hB5.keep0 E76
      have hT21 := hT21.kz E76
      have hT2_21 := hT2_21.kz E76
      have hu21 := hu21.keep0 E76
      have hO68 := hO68.keep0 E76
      have hb := hb.step0 E76
      have q76_77 : Sl a76 77 (ptr q21 0) := (hdp76 16 _ 77 (by kernel_rfl) rfl rfl).2 rfl
      refine op_bslice (e := 69) (pv := [(0, (ptr q21 0))]) (cs := [(ptr q21 0)]) ⟨rfl, (ev_base hN76 rfl q76_77), trivial⟩ (by kernel_rfl) ?_
      intro w77 b78 lo_b78 hi_b78 hB80 E79
      have ne_b78_cv : cv.ownBlock ≠ some b78 := fun hh => by have := (oc.lt _ hh).2; omega
      have z_w77 := E79.size
      have hx := hx.keep0 E79
      have oc := oc.keep0 E79
      have ks := all9 ks fun _ h => h.keep0 E79
      have hk := hk.keep0 E79
      have hrest := hrest.kz E79
      have hB5 := hB5.keep0 E79
      have hT21 := hT21.kz E79
      have hT2_21 := hT2_21.kz E79
      have hu21 := hu21.keep0 E79
      have hO68 := hO68.keep0 E79
      have hb := hb.step0 E79
      refine ktk_end (G := fun t9 w' => 21 ∈ t9 → (Bx w' p 115 [(Value.slice none 0 0), kv, cv])) (todo := [17, 18, 21]) (i := 17) rfl (fun _ => hx) ?_
      refine ktk_step (rs := [18]) (by kernel_rfl) ?_
      refine one_mem ?_
      intro w85 E85 _ a85 hN85 hbs85 hdp85 o_ ho_; obtain rfl := Option.some.inj ho_
      have z_w85 := E85.size
      have hx := hx.keep0 E85
      have oc := oc.keep0 E85
      have ks := all9 ks fun _ h => h.keep0 E85
      have hk := hk.keep0 E85
      have hrest := hrest.kz E85
      have hB5 := hB5.keep0 E85
      have hT21 := hT21.kz E85
      have hT2_21 := hT2_21.kz E85
      have hu21 := hu21.keep0 E85
      have hO68 := hO68.keep0 E85
      have hB80 := hB80.keep0 E85
      have hb := hb.step0 E85
      have q85_74 : Sl a85 74 cv := (hdp85 13 _ 74 (by kernel_rfl) rfl rfl).2 rfl
      have q85_76 : Sl a85 76 (Value.int .i64 ((((way (K.map Prod.snd) k) : Nat) : Int) + 1)) := (hdp85 15 _ 76 (by kernel_rfl) rfl rfl).2 rfl
      have q85_78 : Sl a85 78 (Value.slice (some ⟨b78, 0, none⟩) 1 1) := (Option.some.inj ((hdp85 17 _ 78 (by kernel_rfl) rfl rfl).1 rfl)).symm
      refine op_fn (vs := [cv, (Value.int .i64 ((((way (K.map Prod.snd) k) : Nat) : Int) + 1)), (Value.slice (some ⟨b78, 0, none⟩) 1 1)]) ok85 ⟨(ev_base hN85 rfl q85_74), ⟨(ev_base hN85 rfl q85_76), ⟨(ev_base hN85 rfl q85_78), trivial⟩⟩⟩ (InsNI oc hB80 (one_pn _) rfl (by first | omega | (simp only [List.length_insertIdx, List.length_set, List.length_drop, List.length_take]; omega) | (simp; omega)) (by first | omega | (simp only [List.length_insertIdx, List.length_set, List.length_drop, List.length_take]; omega) | (simp; omega)) ne_b78_cv) ?_
      rintro v86 w87 ⟨E88, hO86, hm86⟩
      have dj89 : Dj G0 (Bl v86) := Dj.step hm86 (fun k hk => (hrest.lt k hk).2) djcG.symm
      have dj90 : Dj W1_21 (Bl v86) := Dj.step hm86 (fun k hk => (hT21.lt k hk).2) dj32.symm
      have dj91 : Dj W2_21 (Bl v86) := Dj.step hm86 (fun k hk => (hT2_21.lt k hk).2) dj38.symm
      have hin92 := inF_step (n := w.heap.size) hm86 (by omega) (fun k _ h => hNd.wc k h)
      have z_w87 := E88.size
      have hx := hx.keepO oc E88 (by decide)
      have ks := all9 ks fun _ h => h.keepT oc E88 (by decide)
      have hk := hk.keepT oc E88 (by decide)
      have hrest := hrest.keepG (Gr.of E88) djcG.symm (NoK.ofOwn oc (by decide))
      have hB5 := hB5.keepO oc E88 (by decide)
      have hT21 := hT21.keepG (Gr.of E88) dj32.symm (NoK.ofOwn oc (by decide))
      have hT2_21 := hT2_21.keepG (Gr.of E88) dj38.symm (NoK.ofOwn oc (by decide))
      have hu21 := hu21.keepT oc E88 (by decide)
      have hO68 := hO68.keepT oc E88 (by decide)
      have hb := hb.stepL E88 (fun k _ h => hNd.wc k h)
      have hO86 : Own w87 0 69 1 v86 (P.insertIdx (((way (K.map Prod.snd) k)) + 1) q21).length ((P.insertIdx (((way (K.map Prod.snd) k)) + 1) q21).flatMap cN) := hO86.cast (by rw [List.length_insertIdx, if_pos (by first | omega | (simp only [List.length_insertIdx, List.length_set, List.length_drop, List.length_take]; omega) | (simp; omega))]) (flat_ins cN_len q21 (by first | omega | (simp only [List.length_insertIdx, List.length_set, List.length_drop, List.length_take]; omega) | (simp; omega)))
      refine ktk_end (G := fun t9 w' => 21 ∈ t9 → (Bx w' p 115 [(Value.slice none 0 0), kv, cv])) (todo := [18, 21]) (i := 18) rfl (fun _ => hx) ?_
      refine ktk_step (rs := [21]) (by kernel_rfl) ?_
      refine one_mem ?_
      intro w94 E94 _ a94 hN94 hbs94 hdp94 o_ ho_; obtain rfl := Option.some.inj ho_
      have z_w94 := E94.size
      have hx := hx.keep0 E94
      have ks := all9 ks fun _ h => h.keep0 E94
      have hk := hk.keep0 E94
      have hrest := hrest.kz E94
      have hB5 := hB5.keep0 E94
      have hT21 := hT21.kz E94
      have hT2_21 := hT2_21.kz E94
      have hu21 := hu21.keep0 E94
      have hO68 := hO68.keep0 E94
      have hO86 := hO86.keep0 E94
      have hb := hb.step0 E94
      have q94_81 : Sl a94 81 (ptr p 1) := (hdp94 20 _ 81 (by kernel_rfl) rfl rfl).2 rfl
      have q94_70 : Sl a94 70 v68 := (Option.some.inj ((hdp94 9 _ 70 (by kernel_rfl) rfl rfl).1 rfl)).symm
      have hx_old := hx
      refine op_store (vs := [v68]) (cs' := [(Value.slice none 0 0), v68, cv]) size90 (ev_base hN94 rfl q94_81) (ev_base hN94 rfl q94_70) hO68.cl rfl (by simp only [List.all_cons, List.all_nil, Bool.true_and, Bool.and_true, hO68.one]; try rfl) hx (Nat.le_of_ble_eq_true rfl) rfl ?_
      intro w97 hx E98
      have z_w97 := E98.size
      have ks := all9 ks fun _ h => h.keepX hx_old E98 (by decide)
      have hk := hk.keepX hx_old E98 (by decide)
      have hrest := hrest.keepG (Gr.of E98) (Dj.one djpG) (NoK.ofBx hx_old (by decide))
      have hB5 := hB5.keep E98 (fun hh => hB5.ne hx_old (by decide) (Option.some.inj hh))
      have hT21 := hT21.keepG (Gr.of E98) (Dj.one dj30) (NoK.ofBx hx_old (by decide))
      have hT2_21 := hT2_21.keepG (Gr.of E98) (Dj.one dj36) (NoK.ofBx hx_old (by decide))
      have hu21 := hu21.keepX hx_old E98 (by decide)
      have hO68 := hO68.keepX hx_old E98 (by decide)
      have hO86 := hO86.keepX hx_old E98 (by decide)
      have hb := hb.stepB E98 hNd.wp
      refine ktk_end0 (G := fun t9 w' => 21 ∈ t9 → (Bx w' p 115 [(Value.slice none 0 0), kv, cv])) (todo := [21]) (i := 21) rfl (fun h => absurd h (by decide)) ?_
      intro w99 E99 a99 hN99 hd99 hbs99 hph99
      have hd99 := hd99.trans ((by simp only [putsL_defers] : _ = _).trans hd)
      have z_w99 := E99.size
      have ks := all9 ks fun _ h => h.keep0 E99
      have hk := hk.keep0 E99
      have hrest := hrest.kz E99
      have hB5 := hB5.keep0 E99
      have hT21 := hT21.kz E99
      have hT2_21 := hT2_21.kz E99
      have hu21 := hu21.keep0 E99
      have hO68 := hO68.keep0 E99
      have hO86 := hO86.keep0 E99
      have hx := hx.keep0 E99
      have hb := hb.step0 E99
      have s99_0 := (hbs99 0 rfl).trans (sl_base hN rfl s0)
      have s99_4 := (hbs99 4 rfl).trans (sl_hit hN rfl)
      have s99_5 := (hbs99 5 rfl).trans (sl_hit hN rfl)
      have s99_6 := (hbs99 6 rfl).trans (sl_hit hN rfl)
      have s99_62 : Sl a99 62 (ptr p 0) := (hph99 1 _ 62 rfl rfl).2 rfl
      have s99_79 : Sl a99 79 v86 := (Option.some.inj ((hph99 18 _ 79 rfl rfl).1 rfl)).symm
      refine split_end ?_
      refine from_seq (tl := [_, _, _]) (by decide) (by kernel_rfl) rfl ?_
      refine op_nil (ev_base hN99 rfl s99_62) (op_field fld115_2 (ev_hit hN99 rfl) ?_)
      have hx_old := hx
      refine op_store (vs := [v86]) (cs' := [(Value.slice none 0 0), v68, v86]) size113 (ev_hit hN99 rfl) (ev_base hN99 rfl s99_79) hO86.cl rfl (by simp only [List.all_cons, List.all_nil, Bool.true_and, Bool.and_true, hO86.one]; try rfl) hx (Nat.le_of_ble_eq_true rfl) rfl ?_
      intro w102 hx E103
      have z_w102 := E103.size
      have ks := all9 ks fun _ h => h.keepX hx_old E103 (by decide)
      have hk := hk.keepX hx_old E103 (by decide)
      have hrest := hrest.keepG (Gr.of E103) (Dj.one djpG) (NoK.ofBx hx_old (by decide))
      have hB5 := hB5.keep E103 (fun hh => hB5.ne hx_old (by decide) (Option.some.inj hh))
      have hT21 := hT21.keepG (Gr.of E103) (Dj.one dj30) (NoK.ofBx hx_old (by decide))
      have hT2_21 := hT2_21.keepG (Gr.of E103) (Dj.one dj36) (NoK.ofBx hx_old (by decide))
      have hu21 := hu21.keepX hx_old E103 (by decide)
      have hO68 := hO68.keepX hx_old E103 (by decide)
      have hO86 := hO86.keepX hx_old E103 (by decide)
      have hb := hb.stepB E103 hNd.wp
      refine reg_nil (hK8 _ _ ?_)
      exact hJ53 _ _ _ hN99 hd99 ⟨v68, v86, (sl_base hN99 rfl s99_0), (sl_base hN99 rfl s99_4), (sl_base hN99 rfl s99_5), (sl_base hN99 rfl s99_6), dj71.symm, dj72.symm, dj73.symm, hin74, dj89.symm, dj90.symm, dj91.symm, hin92, hb, (by omega), ks, hk, hrest, hB5, hT21, hT2_21, hu21, (hO68.cast (n' := (K.insertIdx (way (K.map Prod.snd) k) (u21, y21)).length) (cs' := (K.insertIdx (way (K.map Prod.snd) k) (u21, y21)).flatMap cK) (by first | rfl | (simp; done) | (simp only [List.length_append, List.length_cons, List.length_nil]; omega)) (by first | rfl | simp [cK, cN, cI])), (hO86.cast (n' := (P.insertIdx ((way (K.map Prod.snd) k) + 1) q21).length) (cs' := (P.insertIdx ((way (K.map Prod.snd) k) + 1) q21).flatMap cN) (by first | rfl | (simp; done) | (simp only [List.length_append, List.length_cons, List.length_nil]; omega)) (by first | rfl | simp [cK, cN, cI])), hx⟩
     refine one_mem ?_
     intro w104 E104 _ a104 hN104 hbs104 hdp104 o_ ho_; obtain rfl := Option.some.inj ho_
     have z_w104 := E104.size
     have hx := hx.keep0 E104
     have ok := ok.keep0 E104
     have oc := oc.keep0 E104
     have ks := all9 ks fun _ h => h.keep0 E104
     have hk := hk.keep0 E104
     have hrest := hrest.kz E104
     have hB5 := hB5.keep0 E104
     have hT21 := hT21.kz E104
     have hT2_21 := hT2_21.kz E104
     have hu21 := hu21.keep0 E104
     have hB62 := hB62.keep0 E104
     have hb := hb.step0 E104
     have q104_77 : Sl a104 77 (ptr q21 0) := (hdp104 16 _ 77 (by kernel_rfl) rfl rfl).2 rfl
     refine op_bslice (e := 69) (pv := [(0, (ptr q21 0))]) (cs := [(ptr q21 0)]) ⟨rfl, (ev_base hN104 rfl q104_77), trivial⟩ (by kernel_rfl) ?_
     intro w105 b106 lo_b106 hi_b106 hB108 E107
     have ne_b106_cv : cv.ownBlock ≠ some b106 := fun hh => by have := (oc.lt _ hh).2; omega
     have z_w105 := E107.size
     have hx := hx.keep0 E107
     have ok := ok.keep0 E107
     have oc := oc.keep0 E107
     have ks := all9 ks fun _ h => h.keep0 E107
     have hk := hk.keep0 E107
     have hrest := hrest.kz E107
     have hB5 := hB5.keep0 E107
     have hT21 := hT21.kz E107
     have hT2_21 := hT2_21.kz E107
     have hu21 := hu21.keep0 E107
     have hB62 := hB62.keep0 E107
     have hb := hb.step0 E107
     refine ktk_end (G := fun t9 w' => 21 ∈ t9 → (Bx w' p 115 [(Value.slice none 0 0), kv, cv])) (todo := [9, 17, 18, 21]) (i := 17) rfl (fun _ => hx) ?_
     refine ktk_step (rs := [9]) (by kernel_rfl) ?_
     refine one_mem ?_
     intro w113 E113 _ a113 hN113 hbs113 hdp113 o_ ho_; obtain rfl := Option.some.inj ho_
     have z_w113 := E113.size
     have hx := hx.keep0 E113
     have ok := ok.keep0 E113
     have oc := oc.keep0 E113
     have ks := all9 ks fun _ h => h.keep0 E113
     have hk := hk.keep0 E113
     have hrest := hrest.kz E113
     have hB5 := hB5.keep0 E113
     have hT21 := hT21.kz E113
     have hT2_21 := hT2_21.kz E113
     have hu21 := hu21.keep0 E113
     have hB62 := hB62.keep0 E113
     have hB108 := hB108.keep0 E113
     have hb := hb.step0 E113
     have q113_66 : Sl a113 66 kv := (hdp113 5 _ 66 (by kernel_rfl) rfl rfl).2 rfl
     have q113_67 : Sl a113 67 (Value.int .i64 (((way (K.map Prod.snd) k) : Nat) : Int)) := (hdp113 6 _ 67 (by kernel_rfl) rfl rfl).2 rfl
     have q113_69 : Sl a113 69 (Value.slice (some ⟨b60, 0, none⟩) 1 1) := (Option.some.inj ((hdp113 8 _ 69 (by kernel_rfl) rfl rfl).1 rfl)).symm
     refine op_fn (vs := [kv, (Value.int .i64 (((way (K.map Prod.snd) k) : Nat) : Int)), (Value.slice (some ⟨b60, 0, none⟩) 1 1)]) ok67 ⟨(ev_base hN113 rfl q113_66), ⟨(ev_base hN113 rfl q113_67), ⟨(ev_base hN113 rfl q113_69), trivial⟩⟩⟩ (InsK ok hB62 (one_kd ks (fun _ h => h)) (by simp only [List.all_cons, List.all_nil, Bool.true_and, Bool.and_true, hu21.one]; try rfl) (by first | omega | (simp only [List.length_insertIdx, List.length_set, List.length_drop, List.length_take]; omega) | (simp; omega)) (by first | omega | (simp only [List.length_insertIdx, List.length_set, List.length_drop, List.length_take]; omega) | (simp; omega)) ne_b60_kv) ?_
     rintro v114 w115 ⟨E116, hO114, hm114⟩
     have dj117 : Dj G0 (Bl v114) := Dj.step hm114 (fun k hk => (hrest.lt k hk).2) djkG.symm
     have dj118 : Dj W1_21 (Bl v114) := Dj.step hm114 (fun k hk => (hT21.lt k hk).2) dj31.symm
     have dj119 : Dj W2_21 (Bl v114) := Dj.step hm114 (fun k hk => (hT2_21.lt k hk).2) dj37.symm
     have hin120 := inF_step (n := w.heap.size) hm114 (by omega) (fun k _ h => hNd.wk k h)
     have z_w115 := E116.size
     have hx := hx.keepO ok E116 (by decide)
     have oc := oc.keepT ok E116 (by decide)
     have ks := all9 ks fun _ h => h.keepT ok E116 (by decide)
     have hk := hk.keepT ok E116 (by decide)
     have hrest := hrest.keepG (Gr.of E116) djkG.symm (NoK.ofOwn ok (by decide))
     have hB5 := hB5.keepO ok E116 (by decide)
     have hT21 := hT21.keepG (Gr.of E116) dj31.symm (NoK.ofOwn ok (by decide))
     have hT2_21 := hT2_21.keepG (Gr.of E116) dj37.symm (NoK.ofOwn ok (by decide))
     have hu21 := hu21.keepT ok E116 (by decide)
     have hB108 := hB108.keepO ok E116 (by decide)
     have hb := hb.stepL E116 (fun k _ h => hNd.wk k h)
     have hO114 : Own w115 0 27 1 v114 (K.insertIdx (way (K.map Prod.snd) k) (u21, y21)).length ((K.insertIdx (way (K.map Prod.snd) k) (u21, y21)).flatMap cK) := hO114.cast (by rw [List.length_insertIdx, if_pos (by first | omega | (simp only [List.length_insertIdx, List.length_set, List.length_drop, List.length_take]; omega) | (simp; omega))]) (flat_ins cK_len (u21, y21) (by first | omega | (simp only [List.length_insertIdx, List.length_set, List.length_drop, List.length_take]; omega) | (simp; omega)))
     refine ktk_end (G := fun t9 w' => 21 ∈ t9 → (Bx w' p 115 [(Value.slice none 0 0), kv, cv])) (todo := [9, 18, 21]) (i := 9) rfl (fun _ => hx) ?_
     refine ktk_step (rs := [18]) (by kernel_rfl) ?_
     refine one_mem ?_
     intro w122 E122 _ a122 hN122 hbs122 hdp122 o_ ho_; obtain rfl := Option.some.inj ho_
     have z_w122 := E122.size
     have hx := hx.keep0 E122
     have oc := oc.keep0 E122
     have ks := all9 ks fun _ h => h.keep0 E122
     have hk := hk.keep0 E122
     have hrest := hrest.kz E122
     have hB5 := hB5.keep0 E122
     have hT21 := hT21.kz E122
     have hT2_21 := hT2_21.kz E122
     have hu21 := hu21.keep0 E122
     have hB108 := hB108.keep0 E122
     have hO114 := hO114.keep0 E122
     have hb := hb.step0 E122
     have q122_74 : Sl a122 74 cv := (hdp122 13 _ 74 (by kernel_rfl) rfl rfl).2 rfl
     have q122_76 : Sl a122 76 (Value.int .i64 ((((way (K.map Prod.snd) k) : Nat) : Int) + 1)) := (hdp122 15 _ 76 (by kernel_rfl) rfl rfl).2 rfl
     have q122_78 : Sl a122 78 (Value.slice (some ⟨b106, 0, none⟩) 1 1) := (Option.some.inj ((hdp122 17 _ 78 (by kernel_rfl) rfl rfl).1 rfl)).symm
     refine op_fn (vs := [cv, (Value.int .i64 ((((way (K.map Prod.snd) k) : Nat) : Int) + 1)), (Value.slice (some ⟨b106, 0, none⟩) 1 1)]) ok85 ⟨(ev_base hN122 rfl q122_74), ⟨(ev_base hN122 rfl q122_76), ⟨(ev_base hN122 rfl q122_78), trivial⟩⟩⟩ (InsNI oc hB108 (one_pn _) rfl (by first | omega | (simp only [List.length_insertIdx, List.length_set, List.length_drop, List.length_take]; omega) | (simp; omega)) (by first | omega | (simp only [List.length_insertIdx, List.length_set, List.length_drop, List.length_take]; omega) | (simp; omega)) ne_b106_cv) ?_
     rintro v123 w124 ⟨E125, hO123, hm123⟩
     have dj126 : Dj G0 (Bl v123) := Dj.step hm123 (fun k hk => (hrest.lt k hk).2) djcG.symm
     have dj127 : Dj W1_21 (Bl v123) := Dj.step hm123 (fun k hk => (hT21.lt k hk).2) dj32.symm
     have dj128 : Dj W2_21 (Bl v123) := Dj.step hm123 (fun k hk => (hT2_21.lt k hk).2) dj38.symm
     have hin129 := inF_step (n := w.heap.size) hm123 (by omega) (fun k _ h => hNd.wc k h)
     have z_w124 := E125.size
     have hx := hx.keepO oc E125 (by decide)
     have ks := all9 ks fun _ h => h.keepT oc E125 (by decide)
     have hk := hk.keepT oc E125 (by decide)
     have hrest := hrest.keepG (Gr.of E125) djcG.symm (NoK.ofOwn oc (by decide))
     have hB5 := hB5.keepO oc E125 (by decide)
     have hT21 := hT21.keepG (Gr.of E125) dj32.symm (NoK.ofOwn oc (by decide))
     have hT2_21 := hT2_21.keepG (Gr.of E125) dj38.symm (NoK.ofOwn oc (by decide))
     have hu21 := hu21.keepT oc E125 (by decide)
     have hO114 := hO114.keepT oc E125 (by decide)
     have hb := hb.stepL E125 (fun k _ h => hNd.wc k h)
     have hO123 : Own w124 0 69 1 v123 (P.insertIdx (((way (K.map Prod.snd) k)) + 1) q21).length ((P.insertIdx (((way (K.map Prod.snd) k)) + 1) q21).flatMap cN) := hO123.cast (by rw [List.length_insertIdx, if_pos (by first | omega | (simp only [List.length_insertIdx, List.length_set, List.length_drop, List.length_take]; omega) | (simp; omega))]) (flat_ins cN_len q21 (by first | omega | (simp only [List.length_insertIdx, List.length_set, List.length_drop, List.length_take]; omega) | (simp; omega)))
     refine ktk_end (G := fun t9 w' => 21 ∈ t9 → (Bx w' p 115 [(Value.slice none 0 0), kv, cv])) (todo := [18, 21]) (i := 18) rfl (fun _ => hx) ?_
     refine ktk_step (rs := [21]) (by kernel_rfl) ?_
     refine one_mem ?_
     intro w131 E131 _ a131 hN131 hbs131 hdp131 o_ ho_; obtain rfl := Option.some.inj ho_
     have z_w131 := E131.size
     have hx := hx.keep0 E131
     have ks := all9 ks fun _ h => h.keep0 E131
     have hk := hk.keep0 E131
     have hrest := hrest.kz E131
     have hB5 := hB5.keep0 E131
     have hT21 := hT21.kz E131
     have hT2_21 := hT2_21.kz E131
     have hu21 := hu21.keep0 E131
     have hO114 := hO114.keep0 E131
     have hO123 := hO123.keep0 E131
     have hb := hb.step0 E131
     have q131_81 : Sl a131 81 (ptr p 1) := (hdp131 20 _ 81 (by kernel_rfl) rfl rfl).2 rfl
     have q131_70 : Sl a131 70 v114 := (Option.some.inj ((hdp131 9 _ 70 (by kernel_rfl) rfl rfl).1 rfl)).symm
     have hx_old := hx
     refine op_store (vs := [v114]) (cs' := [(Value.slice none 0 0), v114, cv]) size90 (ev_base hN131 rfl q131_81) (ev_base hN131 rfl q131_70) hO114.cl rfl (by simp only [List.all_cons, List.all_nil, Bool.true_and, Bool.and_true, hO114.one]; try rfl) hx (Nat.le_of_ble_eq_true rfl) rfl ?_
     intro w134 hx E135
     have z_w134 := E135.size
     have ks := all9 ks fun _ h => h.keepX hx_old E135 (by decide)
     have hk := hk.keepX hx_old E135 (by decide)
     have hrest := hrest.keepG (Gr.of E135) (Dj.one djpG) (NoK.ofBx hx_old (by decide))
     have hB5 := hB5.keep E135 (fun hh => hB5.ne hx_old (by decide) (Option.some.inj hh))
     have hT21 := hT21.keepG (Gr.of E135) (Dj.one dj30) (NoK.ofBx hx_old (by decide))
     have hT2_21 := hT2_21.keepG (Gr.of E135) (Dj.one dj36) (NoK.ofBx hx_old (by decide))
     have hu21 := hu21.keepX hx_old E135 (by decide)
     have hO114 := hO114.keepX hx_old E135 (by decide)
     have hO123 := hO123.keepX hx_old E135 (by decide)
     have hb := hb.stepB E135 hNd.wp
     refine ktk_end0 (G := fun t9 w' => 21 ∈ t9 → (Bx w' p 115 [(Value.slice none 0 0), kv, cv])) (todo := [21]) (i := 21) rfl (fun h => absurd h (by decide)) ?_
     intro w136 E136 a136 hN136 hd136 hbs136 hph136
     have hd136 := hd136.trans ((by simp only [putsL_defers] : _ = _).trans hd)
     have z_w136 := E136.size
     have ks := all9 ks fun _ h => h.keep0 E136
     have hk := hk.keep0 E136
     have hrest := hrest.kz E136
     have hB5 := hB5.keep0 E136
     have hT21 := hT21.kz E136
     have hT2_21 := hT2_21.kz E136
     have hu21 := hu21.keep0 E136
     have hO114 := hO114.keep0 E136
     have hO123 := hO123.keep0 E136
     have hx := hx.keep0 E136
     have hb := hb.step0 E136
     have s136_0 := (hbs136 0 rfl).trans (sl_base hN rfl s0)
     have s136_4 := (hbs136 4 rfl).trans (sl_hit hN rfl)
     have s136_5 := (hbs136 5 rfl).trans (sl_hit hN rfl)
     have s136_6 := (hbs136 6 rfl).trans (sl_hit hN rfl)
     have s136_62 : Sl a136 62 (ptr p 0) := (hph136 1 _ 62 rfl rfl).2 rfl
     have s136_79 : Sl a136 79 v123 := (Option.some.inj ((hph136 18 _ 79 rfl rfl).1 rfl)).symm
     refine split_end ?_
     refine from_seq (tl := [_, _, _]) (by decide) (by kernel_rfl) rfl ?_
     refine op_nil (ev_base hN136 rfl s136_62) (op_field fld115_2 (ev_hit hN136 rfl) ?_)
     have hx_old := hx
     refine op_store (vs := [v123]) (cs' := [(Value.slice none 0 0), v114, v123]) size113 (ev_hit hN136 rfl) (ev_base hN136 rfl s136_79) hO123.cl rfl (by simp only [List.all_cons, List.all_nil, Bool.true_and, Bool.and_true, hO123.one]; try rfl) hx (Nat.le_of_ble_eq_true rfl) rfl ?_
     intro w139 hx E140
     have z_w139 := E140.size
     have ks := all9 ks fun _ h => h.keepX hx_old E140 (by decide)
     have hk := hk.keepX hx_old E140 (by decide)
     have hrest := hrest.keepG (Gr.of E140) (Dj.one djpG) (NoK.ofBx hx_old (by decide))
     have hB5 := hB5.keep E140 (fun hh => hB5.ne hx_old (by decide) (Option.some.inj hh))
     have hT21 := hT21.keepG (Gr.of E140) (Dj.one dj30) (NoK.ofBx hx_old (by decide))
     have hT2_21 := hT2_21.keepG (Gr.of E140) (Dj.one dj36) (NoK.ofBx hx_old (by decide))
     have hu21 := hu21.keepX hx_old E140 (by decide)
     have hO114 := hO114.keepX hx_old E140 (by decide)
     have hO123 := hO123.keepX hx_old E140 (by decide)
     have hb := hb.stepB E140 hNd.wp
     refine reg_nil (hK8 _ _ ?_)
     exact hJ53 _ _ _ hN136 hd136 ⟨v114, v123, (sl_base hN136 rfl s136_0), (sl_base hN136 rfl s136_4), (sl_base hN136 rfl s136_5), (sl_base hN136 rfl s136_6), dj117.symm, dj118.symm, dj119.symm, hin120, dj126.symm, dj127.symm, dj128.symm, hin129, hb, (by omega), ks, hk, hrest, hB5, hT21, hT2_21, hu21, (hO114.cast (n' := (K.insertIdx (way (K.map Prod.snd) k) (u21, y21)).length) (cs' := (K.insertIdx (way (K.map Prod.snd) k) (u21, y21)).flatMap cK) (by first | rfl | (simp; done) | (simp only [List.length_append, List.length_cons, List.length_nil]; omega)) (by first | rfl | simp [cK, cN, cI])), (hO123.cast (n' := (P.insertIdx ((way (K.map Prod.snd) k) + 1) q21).length) (cs' := (P.insertIdx ((way (K.map Prod.snd) k) + 1) q21).flatMap cN) (by first | rfl | (simp; done) | (simp only [List.length_append, List.length_cons, List.length_nil]; omega)) (by first | rfl | simp [cK, cN, cI])), hx⟩
    refine one_mem ?_
    intro w141 E141 _ a141 hN141 hbs141 hdp141 o_ ho_; obtain rfl := Option.some.inj ho_
    have z_w141 := E141.size
    have hx := hx.keep0 E141
    have ok := ok.keep0 E141
    have oc := oc.keep0 E141
    have ks := all9 ks fun _ h => h.keep0 E141
    have hk := hk.keep0 E141
    have hrest := hrest.kz E141
    have hB5 := hB5.keep0 E141
    have hT21 := hT21.kz E141
    have hT2_21 := hT2_21.kz E141
    have hu21 := hu21.keep0 E141
    have hb := hb.step0 E141
    have q141_77 : Sl a141 77 (ptr q21 0) := (hdp141 16 _ 77 (by kernel_rfl) rfl rfl).2 rfl
    refine op_bslice (e := 69) (pv := [(0, (ptr q21 0))]) (cs := [(ptr q21 0)]) ⟨rfl, (ev_base hN141 rfl q141_77), trivial⟩ (by kernel_rfl) ?_
    intro w142 b143 lo_b143 hi_b143 hB145 E144
    have ne_b143_cv : cv.ownBlock ≠ some b143 := fun hh => by have := (oc.lt _ hh).2; omega
    have z_w142 := E144.size
    have hx := hx.keep0 E144
    have ok := ok.keep0 E144
    have oc := oc.keep0 E144
    have ks := all9 ks fun _ h => h.keep0 E144
    have hk := hk.keep0 E144
    have hrest := hrest.kz E144
    have hB5 := hB5.keep0 E144
    have hT21 := hT21.kz E144
    have hT2_21 := hT2_21.kz E144
    have hu21 := hu21.keep0 E144
    have hb := hb.step0 E144
    refine ktk_end (G := fun t9 w' => 21 ∈ t9 → (Bx w' p 115 [(Value.slice none 0 0), kv, cv])) (todo := [8, 9, 17, 18, 21]) (i := 17) rfl (fun _ => hx) ?_
    refine ktk_step (rs := [8]) (by kernel_rfl) ?_
    refine one_mem ?_
    intro w150 E150 _ a150 hN150 hbs150 hdp150 o_ ho_; obtain rfl := Option.some.inj ho_
    have z_w150 := E150.size
    have hx := hx.keep0 E150
    have ok := ok.keep0 E150
    have oc := oc.keep0 E150
    have ks := all9 ks fun _ h => h.keep0 E150
    have hk := hk.keep0 E150
    have hrest := hrest.kz E150
    have hB5 := hB5.keep0 E150
    have hT21 := hT21.kz E150
    have hT2_21 := hT2_21.kz E150
    have hu21 := hu21.keep0 E150
    have hB145 := hB145.keep0 E150
    have hb := hb.step0 E150
    have q150_68 : Sl a150 68 u21 := (hdp150 7 _ 68 (by kernel_rfl) rfl rfl).2 rfl
    refine op_bslice (e := 27) (pv := [(0, u21)]) (cs := [u21]) ⟨rfl, (ev_base hN150 rfl q150_68), trivial⟩ (by obtain ⟨_, _, _, rfl⟩ := hu21.sl; kernel_rfl) ?_
    intro w151 b152 lo_b152 hi_b152 hB154 E153
    have ne_b152_kv : kv.ownBlock ≠ some b152 := fun hh => by have := (ok.lt _ hh).2; omega
    have z_w151 := E153.size
    have hx := hx.keep0 E153
    have ok := ok.keep0 E153
    have oc := oc.keep0 E153
    have ks := all9 ks fun _ h => h.keep0 E153
    have hk := hk.keep0 E153
    have hrest := hrest.kz E153
    have hB5 := hB5.keep0 E153
    have hT21 := hT21.kz E153
    have hT2_21 := hT2_21.kz E153
    have hu21 := hu21.keep0 E153
    have hB145 := hB145.keep0 E153
    have hb := hb.step0 E153
    refine ktk_end (G := fun t9 w' => 21 ∈ t9 → (Bx w' p 115 [(Value.slice none 0 0), kv, cv])) (todo := [8, 9, 18, 21]) (i := 8) rfl (fun _ => hx) ?_
    refine ktk_step (rs := [9]) (by kernel_rfl) ?_
    refine one_mem ?_
    intro w159 E159 _ a159 hN159 hbs159 hdp159 o_ ho_; obtain rfl := Option.some.inj ho_
    have z_w159 := E159.size
    have hx := hx.keep0 E159
    have ok := ok.keep0 E159
    have oc := oc.keep0 E159
    have ks := all9 ks fun _ h => h.keep0 E159
    have hk := hk.keep0 E159
    have hrest := hrest.kz E159
    have hB5 := hB5.keep0 E159
    have hT21 := hT21.kz E159
    have hT2_21 := hT2_21.kz E159
    have hu21 := hu21.keep0 E159
    have hB145 := hB145.keep0 E159
    have hB154 := hB154.keep0 E159
    have hb := hb.step0 E159
    have q159_66 : Sl a159 66 kv := (hdp159 5 _ 66 (by kernel_rfl) rfl rfl).2 rfl
    have q159_67 : Sl a159 67 (Value.int .i64 (((way (K.map Prod.snd) k) : Nat) : Int)) := (hdp159 6 _ 67 (by kernel_rfl) rfl rfl).2 rfl
    have q159_69 : Sl a159 69 (Value.slice (some ⟨b152, 0, none⟩) 1 1) := (Option.some.inj ((hdp159 8 _ 69 (by kernel_rfl) rfl rfl).1 rfl)).symm
    refine op_fn (vs := [kv, (Value.int .i64 (((way (K.map Prod.snd) k) : Nat) : Int)), (Value.slice (some ⟨b152, 0, none⟩) 1 1)]) ok67 ⟨(ev_base hN159 rfl q159_66), ⟨(ev_base hN159 rfl q159_67), ⟨(ev_base hN159 rfl q159_69), trivial⟩⟩⟩ (InsK ok hB154 (one_kd ks (fun _ h => h)) (by simp only [List.all_cons, List.all_nil, Bool.true_and, Bool.and_true, hu21.one]; try rfl) (by first | omega | (simp only [List.length_insertIdx, List.length_set, List.length_drop, List.length_take]; omega) | (simp; omega)) (by first | omega | (simp only [List.length_insertIdx, List.length_set, List.length_drop, List.length_take]; omega) | (simp; omega)) ne_b152_kv) ?_
    rintro v160 w161 ⟨E162, hO160, hm160⟩
    have dj163 : Dj G0 (Bl v160) := Dj.step hm160 (fun k hk => (hrest.lt k hk).2) djkG.symm
    have dj164 : Dj W1_21 (Bl v160) := Dj.step hm160 (fun k hk => (hT21.lt k hk).2) dj31.symm
    have dj165 : Dj W2_21 (Bl v160) := Dj.step hm160 (fun k hk => (hT2_21.lt k hk).2) dj37.symm
    have hin166 := inF_step (n := w.heap.size) hm160 (by omega) (fun k _ h => hNd.wk k h)
    have z_w161 := E162.size
    have hx := hx.keepO ok E162 (by decide)
    have oc := oc.keepT ok E162 (by decide)
    have ks := all9 ks fun _ h => h.keepT ok E162 (by decide)
    have hk := hk.keepT ok E162 (by decide)
    have hrest := hrest.keepG (Gr.of E162) djkG.symm (NoK.ofOwn ok (by decide))
    have hB5 := hB5.keepO ok E162 (by decide)
    have hT21 := hT21.keepG (Gr.of E162) dj31.symm (NoK.ofOwn ok (by decide))
    have hT2_21 := hT2_21.keepG (Gr.of E162) dj37.symm (NoK.ofOwn ok (by decide))
    have hu21 := hu21.keepT ok E162 (by decide)
    have hB145 := hB145.keepO ok E162 (by decide)
    have hb := hb.stepL E162 (fun k _ h => hNd.wk k h)
    have hO160 : Own w161 0 27 1 v160 (K.insertIdx (way (K.map Prod.snd) k) (u21, y21)).length ((K.insertIdx (way (K.map Prod.snd) k) (u21, y21)).flatMap cK) := hO160.cast (by rw [List.length_insertIdx, if_pos (by first | omega | (simp only [List.length_insertIdx, List.length_set, List.length_drop, List.length_take]; omega) | (simp; omega))]) (flat_ins cK_len (u21, y21) (by first | omega | (simp only [List.length_insertIdx, List.length_set, List.length_drop, List.length_take]; omega) | (simp; omega)))
    refine ktk_end (G := fun t9 w' => 21 ∈ t9 → (Bx w' p 115 [(Value.slice none 0 0), kv, cv])) (todo := [9, 18, 21]) (i := 9) rfl (fun _ => hx) ?_
    refine ktk_step (rs := [18]) (by kernel_rfl) ?_
    refine one_mem ?_
    intro w168 E168 _ a168 hN168 hbs168 hdp168 o_ ho_; obtain rfl := Option.some.inj ho_
    have z_w168 := E168.size
    have hx := hx.keep0 E168
    have oc := oc.keep0 E168
    have ks := all9 ks fun _ h => h.keep0 E168
    have hk := hk.keep0 E168
    have hrest := hrest.kz E168
    have hB5 := hB5.keep0 E168
    have hT21 := hT21.kz E168
    have hT2_21 := hT2_21.kz E168
    have hu21 := hu21.keep0 E168
    have hB145 := hB145.keep0 E168
    have hO160 := hO160.keep0 E168
    have hb := hb.step0 E168
    have q168_74 : Sl a168 74 cv := (hdp168 13 _ 74 (by kernel_rfl) rfl rfl).2 rfl
    have q168_76 : Sl a168 76 (Value.int .i64 ((((way (K.map Prod.snd) k) : Nat) : Int) + 1)) := (hdp168 15 _ 76 (by kernel_rfl) rfl rfl).2 rfl
    have q168_78 : Sl a168 78 (Value.slice (some ⟨b143, 0, none⟩) 1 1) := (Option.some.inj ((hdp168 17 _ 78 (by kernel_rfl) rfl rfl).1 rfl)).symm
    refine op_fn (vs := [cv, (Value.int .i64 ((((way (K.map Prod.snd) k) : Nat) : Int) + 1)), (Value.slice (some ⟨b143, 0, none⟩) 1 1)]) ok85 ⟨(ev_base hN168 rfl q168_74), ⟨(ev_base hN168 rfl q168_76), ⟨(ev_base hN168 rfl q168_78), trivial⟩⟩⟩ (InsNI oc hB145 (one_pn _) rfl (by first | omega | (simp only [List.length_insertIdx, List.length_set, List.length_drop, List.length_take]; omega) | (simp; omega)) (by first | omega | (simp only [List.length_insertIdx, List.length_set, List.length_drop, List.length_take]; omega) | (simp; omega)) ne_b143_cv) ?_
    rintro v169 w170 ⟨E171, hO169, hm169⟩
    have dj172 : Dj G0 (Bl v169) := Dj.step hm169 (fun k hk => (hrest.lt k hk).2) djcG.symm
    have dj173 : Dj W1_21 (Bl v169) := Dj.step hm169 (fun k hk => (hT21.lt k hk).2) dj32.symm
    have dj174 : Dj W2_21 (Bl v169) := Dj.step hm169 (fun k hk => (hT2_21.lt k hk).2) dj38.symm
    have hin175 := inF_step (n := w.heap.size) hm169 (by omega) (fun k _ h => hNd.wc k h)
    have z_w170 := E171.size
    have hx := hx.keepO oc E171 (by decide)
    have ks := all9 ks fun _ h => h.keepT oc E171 (by decide)
    have hk := hk.keepT oc E171 (by decide)
    have hrest := hrest.keepG (Gr.of E171) djcG.symm (NoK.ofOwn oc (by decide))
    have hB5 := hB5.keepO oc E171 (by decide)
    have hT21 := hT21.keepG (Gr.of E171) dj32.symm (NoK.ofOwn oc (by decide))
    have hT2_21 := hT2_21.keepG (Gr.of E171) dj38.symm (NoK.ofOwn oc (by decide))
    have hu21 := hu21.keepT oc E171 (by decide)
    have hO160 := hO160.keepT oc E171 (by decide)
    have hb := hb.stepL E171 (fun k _ h => hNd.wc k h)
    have hO169 : Own w170 0 69 1 v169 (P.insertIdx (((way (K.map Prod.snd) k)) + 1) q21).length ((P.insertIdx (((way (K.map Prod.snd) k)) + 1) q21).flatMap cN) := hO169.cast (by rw [List.length_insertIdx, if_pos (by first | omega | (simp only [List.length_insertIdx, List.length_set, List.length_drop, List.length_take]; omega) | (simp; omega))]) (flat_ins cN_len q21 (by first | omega | (simp only [List.length_insertIdx, List.length_set, List.length_drop, List.length_take]; omega) | (simp; omega)))
    refine ktk_end (G := fun t9 w' => 21 ∈ t9 → (Bx w' p 115 [(Value.slice none 0 0), kv, cv])) (todo := [18, 21]) (i := 18) rfl (fun _ => hx) ?_
    refine ktk_step (rs := [21]) (by kernel_rfl) ?_
    refine one_mem ?_
    intro w177 E177 _ a177 hN177 hbs177 hdp177 o_ ho_; obtain rfl := Option.some.inj ho_
    have z_w177 := E177.size
    have hx := hx.keep0 E177
    have ks := all9 ks fun _ h => h.keep0 E177
    have hk := hk.keep0 E177
    have hrest := hrest.kz E177
    have hB5 := hB5.keep0 E177
    have hT21 := hT21.kz E177
    have hT2_21 := hT2_21.kz E177
    have hu21 := hu21.keep0 E177
    have hO160 := hO160.keep0 E177
    have hO169 := hO169.keep0 E177
    have hb := hb.step0 E177
    have q177_81 : Sl a177 81 (ptr p 1) := (hdp177 20 _ 81 (by kernel_rfl) rfl rfl).2 rfl
    have q177_70 : Sl a177 70 v160 := (Option.some.inj ((hdp177 9 _ 70 (by kernel_rfl) rfl rfl).1 rfl)).symm
    have hx_old := hx
    refine op_store (vs := [v160]) (cs' := [(Value.slice none 0 0), v160, cv]) size90 (ev_base hN177 rfl q177_81) (ev_base hN177 rfl q177_70) hO160.cl rfl (by simp only [List.all_cons, List.all_nil, Bool.true_and, Bool.and_true, hO160.one]; try rfl) hx (Nat.le_of_ble_eq_true rfl) rfl ?_
    intro w180 hx E181
    have z_w180 := E181.size
    have ks := all9 ks fun _ h => h.keepX hx_old E181 (by decide)
    have hk := hk.keepX hx_old E181 (by decide)
    have hrest := hrest.keepG (Gr.of E181) (Dj.one djpG) (NoK.ofBx hx_old (by decide))
    have hB5 := hB5.keep E181 (fun hh => hB5.ne hx_old (by decide) (Option.some.inj hh))
    have hT21 := hT21.keepG (Gr.of E181) (Dj.one dj30) (NoK.ofBx hx_old (by decide))
    have hT2_21 := hT2_21.keepG (Gr.of E181) (Dj.one dj36) (NoK.ofBx hx_old (by decide))
    have hu21 := hu21.keepX hx_old E181 (by decide)
    have hO160 := hO160.keepX hx_old E181 (by decide)
    have hO169 := hO169.keepX hx_old E181 (by decide)
    have hb := hb.stepB E181 hNd.wp
    refine ktk_end0 (G := fun t9 w' => 21 ∈ t9 → (Bx w' p 115 [(Value.slice none 0 0), kv, cv])) (todo := [21]) (i := 21) rfl (fun h => absurd h (by decide)) ?_
    intro w182 E182 a182 hN182 hd182 hbs182 hph182
    have hd182 := hd182.trans ((by simp only [putsL_defers] : _ = _).trans hd)
    have z_w182 := E182.size
    have ks := all9 ks fun _ h => h.keep0 E182
    have hk := hk.keep0 E182
    have hrest := hrest.kz E182
    have hB5 := hB5.keep0 E182
    have hT21 := hT21.kz E182
    have hT2_21 := hT2_21.kz E182
    have hu21 := hu21.keep0 E182
    have hO160 := hO160.keep0 E182
    have hO169 := hO169.keep0 E182
    have hx := hx.keep0 E182
    have hb := hb.step0 E182
    have s182_0 := (hbs182 0 rfl).trans (sl_base hN rfl s0)
    have s182_4 := (hbs182 4 rfl).trans (sl_hit hN rfl)
    have s182_5 := (hbs182 5 rfl).trans (sl_hit hN rfl)
    have s182_6 := (hbs182 6 rfl).trans (sl_hit hN rfl)
    have s182_62 : Sl a182 62 (ptr p 0) := (hph182 1 _ 62 rfl rfl).2 rfl
    have s182_79 : Sl a182 79 v169 := (Option.some.inj ((hph182 18 _ 79 rfl rfl).1 rfl)).symm
    refine split_end ?_
    refine from_seq (tl := [_, _, _]) (by decide) (by kernel_rfl) rfl ?_
    refine op_nil (ev_base hN182 rfl s182_62) (op_field fld115_2 (ev_hit hN182 rfl) ?_)
    have hx_old := hx
    refine op_store (vs := [v169]) (cs' := [(Value.slice none 0 0), v160, v169]) size113 (ev_hit hN182 rfl) (ev_base hN182 rfl s182_79) hO169.cl rfl (by simp only [List.all_cons, List.all_nil, Bool.true_and, Bool.and_true, hO169.one]; try rfl) hx (Nat.le_of_ble_eq_true rfl) rfl ?_
    intro w185 hx E186
    have z_w185 := E186.size
    have ks := all9 ks fun _ h => h.keepX hx_old E186 (by decide)
    have hk := hk.keepX hx_old E186 (by decide)
    have hrest := hrest.keepG (Gr.of E186) (Dj.one djpG) (NoK.ofBx hx_old (by decide))
    have hB5 := hB5.keep E186 (fun hh => hB5.ne hx_old (by decide) (Option.some.inj hh))
    have hT21 := hT21.keepG (Gr.of E186) (Dj.one dj30) (NoK.ofBx hx_old (by decide))
    have hT2_21 := hT2_21.keepG (Gr.of E186) (Dj.one dj36) (NoK.ofBx hx_old (by decide))
    have hu21 := hu21.keepX hx_old E186 (by decide)
    have hO160 := hO160.keepX hx_old E186 (by decide)
    have hO169 := hO169.keepX hx_old E186 (by decide)
    have hb := hb.stepB E186 hNd.wp
    refine reg_nil (hK8 _ _ ?_)
    exact hJ53 _ _ _ hN182 hd182 ⟨v160, v169, (sl_base hN182 rfl s182_0), (sl_base hN182 rfl s182_4), (sl_base hN182 rfl s182_5), (sl_base hN182 rfl s182_6), dj163.symm, dj164.symm, dj165.symm, hin166, dj172.symm, dj173.symm, dj174.symm, hin175, hb, (by omega), ks, hk, hrest, hB5, hT21, hT2_21, hu21, (hO160.cast (n' := (K.insertIdx (way (K.map Prod.snd) k) (u21, y21)).length) (cs' := (K.insertIdx (way (K.map Prod.snd) k) (u21, y21)).flatMap cK) (by first | rfl | (simp; done) | (simp only [List.length_append, List.length_cons, List.length_nil]; omega)) (by first | rfl | simp [cK, cN, cI])), (hO169.cast (n' := (P.insertIdx ((way (K.map Prod.snd) k) + 1) q21).length) (cs' := (P.insertIdx ((way (K.map Prod.snd) k) + 1) q21).flatMap cN) (by first | rfl | (simp; done) | (simp only [List.length_append, List.length_cons, List.length_nil]; omega)) (by first | rfl | simp [cK, cN, cI])), hx⟩
  ·
   rintro a53 w53 hN53 hd53 ⟨vk, vc, s53_0, s53_4, s53_5, s53_6, dj44, dj45, dj46, hin47, dj48, dj49, dj50, hin51, hb, zl_w53, ks, hk, hrest, hB5, hT21, hT2_21, hu21, hO54, hO55, hbj52⟩
   have z_w53 := hb.size
   refine seq_any fun K187 hK187 => one_reg ?_
   have hl1 : (K.insertIdx (way (K.map Prod.snd) k) (u21, y21)).length = K.length + 1 := by rw [List.length_insertIdx, if_pos hwl]
   have hl2 : (P.insertIdx ((way (K.map Prod.snd) k) + 1) q21).length = P.length + 1 := by rw [List.length_insertIdx, if_pos (by omega)]
   have ks188 : ∀ x9 ∈ (K.insertIdx (way (K.map Prod.snd) k) (u21, y21)), Own w53 0 5 1 x9.1 x9.2.length (x9.2.map u8v) := kks_ins ks hu21 hwl
   refine op_move (ev_base hN53 rfl s53_0) ?_
   rcases Bool.eq_false_or_eq_true (decide ((K.insertIdx (way (K.map Prod.snd) k) (u21, y21)).length ≤ 6)) with k86 | k86
   ·
    refine op_fn (vs := [(ptr p 0)]) ok86 ⟨(ev_hit hN53 rfl), trivial⟩ (Ret.flip (halvesNsI hbj52 hO54 hO55 (by first | omega | (simp only [List.length_insertIdx, List.length_set, List.length_drop, List.length_take]; omega) | (simp; omega)) (of_decide_eq_true k86))) ?_
    rintro _ _ ⟨rfl, rfl⟩
    refine op_move (ev_hit hN53 rfl) (op_extract (ev_hit hN53 rfl) rfl ?_)
    refine op_extract (ev_hit hN53 rfl) rfl ?_
    refine op_assign (ev_hit hN53 rfl) ?_
    refine op_assign (ev_hit hN53 rfl) (reg_nil (hK187 _ _ (seq_any fun K189 hK189 => one_reg (op_move (ev_base hN53 rfl s53_4) (op_move (ev_hit hN53 rfl) ?_)))))
    refine op_move (ev_hit hN53 rfl) (op_assign (ev_hit hN53 rfl) (op_assign (ev_hit hN53 rfl) (op_assign (ev_hit hN53 rfl) (reg_nil (hK189 _ _ (wp_ret ?_))))))
    refine retN (rs := [.tmp 4, .tmp 5, .tmp 6]) (vs := [(Value.bool (putT h k x c).1), (Value.slice none 0 0), (Value.pointer none)]) rfl hd53 ⟨(ev_hit hN53 rfl), ⟨(ev_hit hN53 rfl), ⟨(ev_hit hN53 rfl), trivial⟩⟩⟩ rfl ⟨_, rfl, ?_⟩
    exact ⟨hb, _, _, by rw [(put_some (u := u21) hc hr21 hwl)]; rfl, out_node_small (K := (K.insertIdx (way (K.map Prod.snd) k) (u21, y21))) (ts := ((cs.set (way (K.map Prod.snd) k) (putT h k x c).2.1).insertIdx ((way (K.map Prod.snd) k) + 1) t2_21)) ((congrArg Prod.snd (put_some (u := u21) hc hr21 hwl)).trans (halves_nsmall (by simpa using of_decide_eq_true k86))) hbj52 hO54 hO55 ks188 (kks_ins hNd.kr hur21 hwl) (Kids.ins (i := (way (K.map Prod.snd) k) + 1) (Kids.back1 (i := (way (K.map Prod.snd) k)) (A := TreeR kI R w53 h) hrest hPc hic hT21 dj34.symm) (by rw [List.length_set]; omega) hT2_21 (fun k h1 h2 => h2.elim (hd21.symm k h1) (dj40.symm k h1))) (fun h9 => h9.elim (fun h8 => dj36 h8) (fun h8 => h8.elim (fun h8 => dj30 h8) (fun h8 => djpG h8))) (fun j hj h9 => h9.elim (fun h8 => dj46 j hj h8) (fun h8 => h8.elim (fun h8 => dj45 j hj h8) (fun h8 => dj44 j hj h8))) (fun j hj h9 => h9.elim (fun h8 => dj50 j hj h8) (fun h8 => h8.elim (fun h8 => dj49 j hj h8) (fun h8 => dj48 j hj h8))) (nodeW_in (fun _ => hNd.wp) hin47 hin51 (fun j hj h9 => h9.elim (fun h8 => hin43 j hj h8) (fun h8 => h8.elim (fun h8 => hin42 j hj h8) (fun h8 => (fun j _ q => hNd.wg j (hGs j q)) j hj h8))))⟩
   ·
    refine op_fn (vs := [(ptr p 0)]) ok86 ⟨(ev_hit hN53 rfl), trivial⟩ (halvesNbI hbj52 hO54 hO55 ks188 (by first | omega | (simp only [List.length_insertIdx, List.length_set, List.length_drop, List.length_take]; omega) | (simp; omega)) (by have := of_decide_eq_false k86; omega) (by first | omega | (simp only [List.length_insertIdx, List.length_set, List.length_drop, List.length_take]; omega) | (simp; omega))) ?_
    rintro _ w191 ⟨E192, q190, qk190, qc190, rfl, hx190, oa190, ob190, lo190, hB190, oc190, od190⟩
    have ht193 := hbj52.lt
    have ht194 := hO54.lt
    have ht195 := hO55.lt
    have ht196 := hrest.lt
    have ht197 := hT21.lt
    have ht198 := hT2_21.lt
    have E192 := E192.grown (row := some p) (fun k _ h => by rw [h])
    have hbj52_old := hbj52
    have z_w191 := E192.size
    have hrest := hrest.keepG (Gr.of E192) (Dj.one djpG) (NoK.ofBx hbj52_old (by decide))
    have hT21 := hT21.keepG (Gr.of E192) (Dj.one dj30) (NoK.ofBx hbj52_old (by decide))
    have hT2_21 := hT2_21.keepG (Gr.of E192) (Dj.one dj36) (NoK.ofBx hbj52_old (by decide))
    have ks188 := all9 ks188 fun _ h => h.keepX hbj52_old E192 (by decide)
    have hb := hb.stepB E192 hNd.wp
    refine op_move (ev_hit hN53 rfl) (op_extract (ev_hit hN53 rfl) rfl ?_)
    refine op_extract (ev_hit hN53 rfl) rfl ?_
    refine op_assign (ev_hit hN53 rfl) ?_
    refine op_assign (ev_hit hN53 rfl) (reg_nil (hK187 _ _ (seq_any fun K199 hK199 => one_reg (op_move (ev_base hN53 rfl s53_4) (op_move (ev_hit hN53 rfl) ?_)))))
    refine op_move (ev_hit hN53 rfl) (op_assign (ev_hit hN53 rfl) (op_assign (ev_hit hN53 rfl) (op_assign (ev_hit hN53 rfl) (reg_nil (hK199 _ _ (wp_ret ?_))))))
    refine retN (rs := [.tmp 4, .tmp 5, .tmp 6]) (vs := [(Value.bool (putT h k x c).1), ((K.insertIdx (way (K.map Prod.snd) k) (u21, y21)).getD ((K.insertIdx (way (K.map Prod.snd) k) (u21, y21)).length / 2) default).1, (ptr q190 0)]) rfl hd53 ⟨(ev_hit hN53 rfl), ⟨(ev_hit hN53 rfl), ⟨(ev_hit hN53 rfl), trivial⟩⟩⟩ rfl ⟨_, rfl, ?_⟩
    exact ⟨hb, _, _, by rw [(put_some (u := u21) hc hr21 hwl)]; rfl, out_node_big (K := (K.insertIdx (way (K.map Prod.snd) k) (u21, y21))) (ts := ((cs.set (way (K.map Prod.snd) k) (putT h k x c).2.1).insertIdx ((way (K.map Prod.snd) k) + 1) t2_21)) ((congrArg Prod.snd (put_some (u := u21) hc hr21 hwl)).trans (halves_nbig (by have := of_decide_eq_false k86; omega))) (by have := of_decide_eq_false k86; omega) hx190 oa190 ob190 hB190 oc190 od190 lo190 (by omega) ks188 (kks_ins hNd.kr hur21 hwl) (Kids.ins (i := (way (K.map Prod.snd) k) + 1) (Kids.back1 (i := (way (K.map Prod.snd) k)) (A := TreeR kI R w191 h) hrest hPc hic hT21 dj34.symm) (by rw [List.length_set]; omega) hT2_21 (fun k h1 h2 => h2.elim (hd21.symm k h1) (dj40.symm k h1))) (fun h9 => h9.elim (fun h8 => dj36 h8) (fun h8 => h8.elim (fun h8 => dj30 h8) (fun h8 => djpG h8))) (fun j hj h9 => h9.elim (fun h8 => dj46 j ((hiV_ob _ _).symm.trans hj) h8) (fun h8 => h8.elim (fun h8 => dj45 j ((hiV_ob _ _).symm.trans hj) h8) (fun h8 => dj44 j ((hiV_ob _ _).symm.trans hj) h8))) (fun j hj h9 => h9.elim (fun h8 => dj50 j ((hiV_ob _ _).symm.trans hj) h8) (fun h8 => h8.elim (fun h8 => dj49 j ((hiV_ob _ _).symm.trans hj) h8) (fun h8 => dj48 j ((hiV_ob _ _).symm.trans hj) h8))) (nodeW_in (fun _ => hNd.wp) (inF_step (n := w.heap.size) (.inl (hiV_ob _ _)) (Nat.le_refl _) hin47) (inF_step (n := w.heap.size) (.inl (hiV_ob _ _)) (Nat.le_refl _) hin51) (fun j hj h9 => h9.elim (fun h8 => hin43 j hj h8) (fun h8 => h8.elim (fun h8 => hin42 j hj h8) (fun h8 => (fun j _ q => hNd.wg j (hGs j q)) j hj h8)))) (nodeW_lt ht193 (fun j h9 => (ht194 j ((hiV_ob _ _).symm.trans h9)).2) (fun j h9 => (ht195 j ((hiV_ob _ _).symm.trans h9)).2) (fun j h9 => h9.elim (fun h8 => (ht198 j h8).2) (fun h8 => h8.elim (fun h8 => (ht197 j h8).2) (fun h8 => (ht196 j h8).2))))⟩
 ·
  refine op_fn (vs := [(ptr (P.getD ((way (K.map Prod.snd) k)) default) 0), (Value.agg #[yv, (Value.int .i64 x)])]) ok48 ⟨(ev_hit hN rfl), ⟨(ev_hit hN rfl), trivial⟩⟩ (IH hkid hcO (by have := (hz c (List.mem_of_getElem? hc)).2; omega) hk hkr) ?_
  rintro _ w201 ⟨E202, u200, m200, rfl, ho200⟩
  have bd203 := hx.lt
  have bd204 := ok.lt
  have bd205 := oc.lt
  have bd206 := hk.lt
  have bd207 := hrest.lt
  have bd208 := hB5.lt
  obtain ⟨hr200, rfl, rfl, W1_200, hT200, hN1_200⟩ := outR_none k55 ho200
  have hkid_old := hkid
  have z_w201 := E202.size
  have hx := hx.keepG E202 djpf
  have ok := ok.keepG E202 djkf
  have oc := oc.keepG E202 djcf
  have ks : ∀ x9 ∈ K, Own w201 0 5 1 x9.1 x9.2.length (x9.2.map u8v) := fun x9 hx9 => (ks x9 hx9).keepG E202 (hkid_old.notOwn (ks x9 hx9) (by decide) (by decide) (by decide) (by decide))
  have hk := hk.keepG E202 (hkid_old.notOwn hk (by decide) (by decide) (by decide) (by decide))
  have hrest := hrest.keepG E202 hfG.symm (hkid_old.noK kI_fine)
  have hb := hb.stepF E202 (fun k _ h => hNd.wg k (hfs k h))
  have dj209 : ¬ W1_200 p := ne_stepF hN1_200 bd203 djpf
  have dj210 : Dj (Bl kv) W1_200 := Dj.stepF hN1_200 (fun k hk => (bd204 k hk).2) djkf
  have dj211 : Dj (Bl cv) W1_200 := Dj.stepF hN1_200 (fun k hk => (bd205 k hk).2) djcf
  have dj213 : Dj G0 W1_200 := Dj.stepF hN1_200 (fun k hk => (bd207 k hk).2) hfG.symm
  have hin215 := in_newF (hN1_200.mono (t := w.heap.size) (by omega)) (fun k hk => hNd.wg k (hfs k hk))
  refine from_next ?_
  refine from_still (m := 16) 7 (hd := [_, _, _, _, _, _, _]) (by kernel_rfl) rfl rfl ?_
  refine st_step rfl (fun _ h9 => op_move (ev_hit hN rfl) h9) ?_
  refine st_step rfl (fun _ h9 => op_extract (ev_hit hN rfl) rfl h9) ?_
  refine st_step rfl (fun _ h9 => op_extract (ev_hit hN rfl) rfl h9) ?_
  refine st_step rfl (fun _ h9 => op_extract (ev_hit hN rfl) rfl h9) ?_
  refine st_step rfl (fun _ h9 => op_assign (ev_hit hN rfl) h9) ?_
  refine st_step rfl (fun _ h9 => op_assign (ev_hit hN rfl) h9) ?_
  refine st_step rfl (fun _ h9 => op_assign (ev_hit hN rfl) h9) ?_
  refine st_nil ?_
  refine from_end ?_ rfl
  refine hK15 _ _ (seq_any fun K216 hK216 => one_reg (op_move (ev_hit hN rfl) (op_pne_none ptrt69 (ev_hit hN rfl) rfl ?_)))
  refine reg_nil (hK216 _ _ (wp_cond_false (ev_hit hN rfl) (wp_skip (hK8 _ _ (seq_any fun K217 hK217 => one_reg ?_)))))
  skip
  refine op_move (ev_base hN rfl s0) ?_
  rcases Bool.eq_false_or_eq_true (decide (K.length ≤ 6)) with k86 | k86
  ·
   refine op_fn (vs := [(ptr p 0)]) ok86 ⟨(ev_hit hN rfl), trivial⟩ (Ret.flip (halvesNsI hx ok oc (by first | omega | (simp only [List.length_insertIdx, List.length_set, List.length_drop, List.length_take]; omega) | (simp; omega)) (of_decide_eq_true k86))) ?_
   rintro _ _ ⟨rfl, rfl⟩
   refine op_move (ev_hit hN rfl) (op_extract (ev_hit hN rfl) rfl ?_)
   refine op_extract (ev_hit hN rfl) rfl ?_
   refine op_assign (ev_hit hN rfl) ?_
   refine op_assign (ev_hit hN rfl) (reg_nil (hK217 _ _ (seq_any fun K218 hK218 => one_reg (op_move (ev_hit hN rfl) (op_move (ev_hit hN rfl) ?_)))))
   refine op_move (ev_hit hN rfl) (op_assign (ev_hit hN rfl) (op_assign (ev_hit hN rfl) (op_assign (ev_hit hN rfl) (reg_nil (hK218 _ _ (wp_ret ?_))))))
   refine retN (rs := [.tmp 4, .tmp 5, .tmp 6]) (vs := [(Value.bool (putT h k x c).1), (Value.slice none 0 0), (Value.pointer none)]) rfl hd ⟨(ev_hit hN rfl), ⟨(ev_hit hN rfl), ⟨(ev_hit hN rfl), trivial⟩⟩⟩ rfl ⟨_, rfl, ?_⟩
   exact ⟨hb, _, _, by rw [(put_none hc hr200)]; rfl, out_node_small (K := K) (ts := (cs.set (way (K.map Prod.snd) k) (putT h k x c).2.1)) ((congrArg Prod.snd (put_none hc hr200)).trans (halves_nsmall (by simpa using of_decide_eq_true k86))) hx ok oc ks hNd.kr (Kids.back1 (i := (way (K.map Prod.snd) k)) (A := TreeR kI R w201 h) hrest hPc hic hT200 dj213.symm) (fun h9 => h9.elim (fun h8 => dj209 h8) (fun h8 => djpG h8)) (fun j hj h9 => h9.elim (fun h8 => dj210 j hj h8) (fun h8 => djkG j hj h8)) (fun j hj h9 => h9.elim (fun h8 => dj211 j hj h8) (fun h8 => djcG j hj h8)) (nodeW_in (fun _ => hNd.wp) (fun k _ h => hNd.wk k h) (fun k _ h => hNd.wc k h) (fun j hj h9 => h9.elim (fun h8 => hin215 j hj h8) (fun h8 => (fun j _ q => hNd.wg j (hGs j q)) j hj h8)))⟩
  ·
   refine op_fn (vs := [(ptr p 0)]) ok86 ⟨(ev_hit hN rfl), trivial⟩ (halvesNbI hx ok oc ks (by first | omega | (simp only [List.length_insertIdx, List.length_set, List.length_drop, List.length_take]; omega) | (simp; omega)) (by have := of_decide_eq_false k86; omega) (by first | omega | (simp only [List.length_insertIdx, List.length_set, List.length_drop, List.length_take]; omega) | (simp; omega))) ?_
   rintro _ w220 ⟨E221, q219, qk219, qc219, rfl, hx219, oa219, ob219, lo219, hB219, oc219, od219⟩
   have ht222 := hx.lt
   have ht223 := ok.lt
   have ht224 := oc.lt
   have ht225 := hrest.lt
   have ht226 := hT200.lt
   have E221 := E221.grown (row := some p) (fun k _ h => by rw [h])
   have hx_old := hx
   have z_w220 := E221.size
   have ks := all9 ks fun _ h => h.keepX hx_old E221 (by decide)
   have hrest := hrest.keepG (Gr.of E221) (Dj.one djpG) (NoK.ofBx hx_old (by decide))
   have hT200 := hT200.keepG (Gr.of E221) (Dj.one dj209) (NoK.ofBx hx_old (by decide))
   have hb := hb.stepB E221 hNd.wp
   refine op_move (ev_hit hN rfl) (op_extract (ev_hit hN rfl) rfl ?_)
   refine op_extract (ev_hit hN rfl) rfl ?_
   refine op_assign (ev_hit hN rfl) ?_
   refine op_assign (ev_hit hN rfl) (reg_nil (hK217 _ _ (seq_any fun K227 hK227 => one_reg (op_move (ev_hit hN rfl) (op_move (ev_hit hN rfl) ?_)))))
   refine op_move (ev_hit hN rfl) (op_assign (ev_hit hN rfl) (op_assign (ev_hit hN rfl) (op_assign (ev_hit hN rfl) (reg_nil (hK227 _ _ (wp_ret ?_))))))
   refine retN (rs := [.tmp 4, .tmp 5, .tmp 6]) (vs := [(Value.bool (putT h k x c).1), (K.getD (K.length / 2) default).1, (ptr q219 0)]) rfl hd ⟨(ev_hit hN rfl), ⟨(ev_hit hN rfl), ⟨(ev_hit hN rfl), trivial⟩⟩⟩ rfl ⟨_, rfl, ?_⟩
   exact ⟨hb, _, _, by rw [(put_none hc hr200)]; rfl, out_node_big (K := K) (ts := (cs.set (way (K.map Prod.snd) k) (putT h k x c).2.1)) ((congrArg Prod.snd (put_none hc hr200)).trans (halves_nbig (by have := of_decide_eq_false k86; omega))) (by have := of_decide_eq_false k86; omega) hx219 oa219 ob219 hB219 oc219 od219 lo219 (by omega) ks hNd.kr (Kids.back1 (i := (way (K.map Prod.snd) k)) (A := TreeR kI R w220 h) hrest hPc hic hT200 dj213.symm) (fun h9 => h9.elim (fun h8 => dj209 h8) (fun h8 => djpG h8)) (fun j hj h9 => h9.elim (fun h8 => dj210 j ((hiV_ob _ _).symm.trans hj) h8) (fun h8 => djkG j ((hiV_ob _ _).symm.trans hj) h8)) (fun j hj h9 => h9.elim (fun h8 => dj211 j ((hiV_ob _ _).symm.trans hj) h8) (fun h8 => djcG j ((hiV_ob _ _).symm.trans hj) h8)) (nodeW_in (fun _ => hNd.wp) (inF_step (n := w.heap.size) (.inl (hiV_ob _ _)) (Nat.le_refl _) (fun k _ h => hNd.wk k h)) (inF_step (n := w.heap.size) (.inl (hiV_ob _ _)) (Nat.le_refl _) (fun k _ h => hNd.wc k h)) (fun j hj h9 => h9.elim (fun h8 => hin215 j hj h8) (fun h8 => (fun j _ q => hNd.wg j (hGs j q)) j hj h8))) (nodeW_lt ht222 (fun j h9 => (ht223 j ((hiV_ob _ _).symm.trans h9)).2) (fun j h9 => (ht224 j ((hiV_ob _ _).symm.trans h9)).2) (fun j h9 => h9.elim (fun h8 => (ht226 j h8).2) (fun h8 => (ht225 j h8).2)))⟩
theorem putAllI : ∀ h, PutI h
  | 0 => by
    intro k yv x R W p t w T hO h6 hk hkr
    obtain ⟨pv, D, hL, e⟩ := T
    have e' : (D.map Prod.snd : List (Ky × (Int))) = t := e
    subst e'
    exact putLI hL (show Sorted ((D.map Prod.snd).map Prod.fst) from hO) (by have h9 : (D.map Prod.snd).length ≤ 6 := h6; simpa using h9) hk hkr
  | h + 1 => by
    intro k yv x R W p t w T hO h6 hk hkr
    obtain ⟨kv, cv, K, P, G, hN, hKs, e⟩ := T
    obtain ⟨kl, cs⟩ := t
    have e' : K.map Prod.snd = kl := e
    subst e'
    obtain ⟨h1, h2⟩ := ok_node.1 hO
    exact putNI (putAllI h) hN hKs h1 h2 (by have h9 : (K.map Prod.snd).length ≤ 6 := h6; simpa using h9) hk hkr
end Go.Proofs.Ytcpfdfejojghbaa

namespace Go.Bt
abbrev TO (V : Type) := Option ((h : Nat) × Tr V h)
section
variable {V : Type} {h : Nat} {k : Ky} {x : V} {o : TO V} {t : Tr V h}
def grown (h : Nat) (t : Tr V h) : Option (Ky × Tr V h) → TO V
  | none => some ⟨h, t⟩
  | some (u, m) => some ⟨h + 1, (([u], [t, m]) : List Ky × List (Tr V h))⟩
def putO (k : Ky) (x : V) : TO V → Bool × TO V
  | none => (false, some ⟨0, ([(k, x)] : List (Ky × V))⟩)
  | some ⟨h, t⟩ => ((putT h k x t).1, grown h (putT h k x t).2.1 (putT h k x t).2.2)
def shrunk : (h : Nat) → Tr V h → TO V
  | 0, ps => let l : List (Ky × V) := ps; if l.length = 0 then none else some ⟨0, (l : List (Ky × V))⟩
  | h + 1, t => if t.2.length = 1 then some ⟨h, t.2.getD 0 default⟩ else some ⟨h + 1, t⟩
def dropO (k : Ky) : TO V → Bool × TO V
  | none => (false, none)
  | some ⟨h, t⟩ => ((dropT h k t).1, shrunk h (dropT h k t).2)
def toLO : TO V → List (Ky × V)
  | none => []
  | some ⟨h, t⟩ => toL h t
def OkO : TO V → Prop
  | none => True
  | some ⟨h, t⟩ => Ok h t ∧ 1 ≤ szT h t ∧ szT h t ≤ 6
theorem toL_sorted : ∀ {h : Nat} {t : Tr V h}, Ok h t → Sorted ((toL h t).map Prod.fst)
  | 0, t, H => H
  | h + 1, (ks, cs), H => by
    obtain ⟨N, hs⟩ := ok_node.1 H
    show Sorted ((cs.flatMap (toL h)).map Prod.fst)
    rw [List.map_flatMap, Sorted, List.pairwise_flatMap]
    refine ⟨fun c hc => ?_, ?_⟩
    · obtain ⟨i, hi, rfl⟩ := List.getElem_of_mem hc
      exact toL_sorted (N.2.2 i _ (List.getElem?_eq_getElem hi)).1
    · rw [List.pairwise_iff_getElem]
      intro i j hi hj hij a ha b hb
      obtain ⟨p, hp, rfl⟩ := List.mem_map.1 ha
      obtain ⟨q, hq, rfl⟩ := List.mem_map.1 hb
      have h1 := (N.2.2 i _ (List.getElem?_eq_getElem hi)).2 _ (dom_of_toL hp)
      have h2 := (N.2.2 j _ (List.getElem?_eq_getElem hj)).2 _ (dom_of_toL hq)
      exact lt_of_way (ks := ks) (by omega)
theorem toLO_sorted (H : OkO o) : Sorted ((toLO o).map Prod.fst) := by
  match o, H with
  | none, _ => exact List.Pairwise.nil
  | some ⟨h, t⟩, H => exact toL_sorted H.1
theorem putO_ok (H : OkO o) : OkO (putO k x o).2 ∧ ((putO k x o).1 = true ↔ ∃ p ∈ toLO o, p.1 = k) ∧ ∀ p, p ∈ toLO (putO k x o).2 ↔ PutM (fun p => p ∈ toLO o) k x p := by
  match o, H with
  | none, _ =>
    refine ⟨⟨show Sorted [k] from List.pairwise_singleton _ _, Nat.le_refl _, show 1 ≤ 6 from by decide⟩, ⟨fun h => (by cases h), fun ⟨p, hp, _⟩ => (by cases hp)⟩, fun p => ?_⟩
    show p ∈ [(k, x)] ↔ p = (k, x) ∨ (p.1 ≠ k ∧ p ∈ [])
    simp
  | some ⟨h, t⟩, ⟨H, h1, h6⟩ =>
    obtain ⟨a, b⟩ := put_ok (k := k) (v := x) (D := fun _ => True) H h6 (fun _ _ => trivial) trivial
    refine ⟨?_, a, ?_⟩
    · show OkO (grown h (putT h k x t).2.1 (putT h k x t).2.2)
      revert b
      generalize (putT h k x t).2.1 = t1
      cases (putT h k x t).2.2 with
      | none => exact fun b => ⟨b.1, by have := b.2.1; omega, b.2.2.1⟩
      | some q =>
        obtain ⟨u, m⟩ := q
        intro b
        obtain ⟨b1, b2, b3, b4, b5, b6, b7, b8⟩ := b
        refine ⟨ok_node.2 ⟨⟨rfl, List.pairwise_singleton _ _, fun i c hc => ?_⟩, fun c hc => ?_⟩, Nat.le_refl _, show 1 ≤ 6 from by decide⟩
        · match i, hc with
          | 0, hc =>
            have e : t1 = c := by simpa using hc
            subst e
            exact ⟨b1, fun y hy => way_none fun z hz => by rw [List.mem_singleton.1 hz]; exact (b5 y hy).2⟩
          | 1, hc =>
            have e : m = c := by simpa using hc
            subst e
            exact ⟨b2, fun y hy => by rw [way_all fun z hz => by rw [List.mem_singleton.1 hz]; exact (b6 y hy).2]; rfl⟩
          | i + 2, hc => simp at hc
        · rcases List.mem_cons.1 hc with rfl | hc
          · exact b3
          · rw [List.mem_singleton.1 hc]; exact b4
    · show ∀ p, p ∈ toLO (grown h (putT h k x t).2.1 (putT h k x t).2.2) ↔ _
      revert b
      generalize (putT h k x t).2.1 = t1
      cases (putT h k x t).2.2 with
      | none => exact fun b => b.2.2.2.2
      | some q =>
        obtain ⟨u, m⟩ := q
        intro b p
        refine Iff.trans ?_ (b.2.2.2.2.2.2.2 p)
        show p ∈ [t1, m].flatMap (toL h) ↔ _
        simp
theorem shrunk_ok : ∀ {h : Nat} {t1 : Tr V h}, Ok h t1 → szT h t1 ≤ 6 → OkO (shrunk h t1) ∧ toLO (shrunk h t1) = toL h t1
  | 0, t1, H, h6 => by
    obtain ⟨l, hl⟩ : ∃ l : List (Ky × V), l = t1 := ⟨t1, rfl⟩
    subst hl
    have h6' : l.length ≤ 6 := h6
    by_cases hl : l.length = 0
    · have e : shrunk 0 (l : Tr V 0) = none := if_pos hl
      rw [e]
      exact ⟨trivial, (List.eq_nil_of_length_eq_zero hl).symm⟩
    · have e : shrunk 0 (l : Tr V 0) = some ⟨0, l⟩ := if_neg hl
      rw [e]
      exact ⟨⟨H, show 1 ≤ l.length by omega, h6⟩, rfl⟩
  | h + 1, (ks, cs), H, h6 => by
    obtain ⟨N, hs⟩ := ok_node.1 H
    have hk : cs.length = ks.length + 1 := N.1
    by_cases hl : cs.length = 1
    · have e : shrunk (h + 1) ((ks, cs) : Tr V (h + 1)) = some ⟨h, cs.getD 0 default⟩ := if_pos hl
      rw [e]
      obtain ⟨c0, rfl⟩ : ∃ c0, cs = [c0] := List.length_eq_one_iff.1 hl
      have := hs c0 (List.mem_singleton.2 rfl)
      refine ⟨⟨(N.2.2 0 c0 rfl).1, show 1 ≤ szT h c0 by have := this.1; omega, this.2⟩, ?_⟩
      show toL h c0 = [c0].flatMap (toL h)
      simp
    · have e : shrunk (h + 1) ((ks, cs) : Tr V (h + 1)) = some ⟨h + 1, (ks, cs)⟩ := if_neg hl
      rw [e]
      exact ⟨⟨H, show 1 ≤ ks.length by omega, h6⟩, rfl⟩
theorem dropO_ok (H : OkO o) : OkO (dropO k o).2 ∧ ((dropO k o).1 = true ↔ ∃ p ∈ toLO o, p.1 = k) ∧ ∀ p, p ∈ toLO (dropO k o).2 ↔ p.1 ≠ k ∧ p ∈ toLO o := by
  match o, H with
  | none, _ => exact ⟨trivial, ⟨fun h => (by cases h), fun ⟨p, hp, _⟩ => (by cases hp)⟩, fun p => ⟨fun h => (by cases h), fun h => (by cases h.2)⟩⟩
  | some ⟨h, t⟩, ⟨H, h1, h6⟩ =>
    obtain ⟨a, b, c, d, e, f⟩ := drop_ok (k := k) H (.inr h1)
    obtain ⟨s1, s2⟩ := shrunk_ok b (Nat.le_trans c h6)
    refine ⟨s1, a, fun p => ?_⟩
    show p ∈ toLO (shrunk h (dropT h k t).2) ↔ _
    rw [s2]
    exact f p
theorem sorted_ext : ∀ {a b : List (Ky × V)}, Sorted (a.map Prod.fst) → Sorted (b.map Prod.fst) → (∀ p, p ∈ a ↔ p ∈ b) → a = b
  | [], [], _, _, _ => rfl
  | [], q :: b, _, _, h => by have := (h q).2 (List.mem_cons_self ..); cases this
  | p :: a, [], _, _, h => by have := (h p).1 (List.mem_cons_self ..); cases this
  | p :: a, q :: b, ha, hb, h => by
    have ha' := List.pairwise_cons.1 (show Sorted (p.1 :: a.map Prod.fst) from ha)
    have hb' := List.pairwise_cons.1 (show Sorted (q.1 :: b.map Prod.fst) from hb)
    have e : p = q := by
      have h1 := (h p).1 (List.mem_cons_self ..)
      have h2 := (h q).2 (List.mem_cons_self ..)
      rcases List.mem_cons.1 h1 with e | h1
      · exact e
      · rcases List.mem_cons.1 h2 with e | h2
        · exact e.symm
        · have q1 := hb'.1 _ (List.mem_map.2 ⟨p, h1, rfl⟩)
          have q2 := ha'.1 _ (List.mem_map.2 ⟨q, h2, rfl⟩)
          grind
    subst e
    have hp : ∀ r ∈ a, r ≠ p := fun r hr e => by
      have := ha'.1 _ (List.mem_map.2 ⟨r, hr, rfl⟩)
      rw [e] at this; grind
    have hq : ∀ r ∈ b, r ≠ p := fun r hr e => by
      have := hb'.1 _ (List.mem_map.2 ⟨r, hr, rfl⟩)
      rw [e] at this; grind
    rw [sorted_ext ha'.2 hb'.2 fun r => ⟨fun hr => by
      rcases List.mem_cons.1 ((h r).1 (List.mem_cons_of_mem _ hr)) with e | h3
      · exact absurd e (hp r hr)
      · exact h3, fun hr => by
      rcases List.mem_cons.1 ((h r).2 (List.mem_cons_of_mem _ hr)) with e | h3
      · exact absurd e (hq r hr)
      · exact h3⟩]
/-! levels -/
def lvl : (h : Nat) → List (Tr V h) → List (List Nat)
  | 0, now => [now.map (szT 0)]
  | h + 1, now => now.map (szT (h + 1)) :: lvl h (now.flatMap fun t => t.2)
def levels : TO V → List (List Nat)
  | none => []
  | some ⟨h, t⟩ => lvl h [t]
theorem lvl_len : ∀ {h : Nat} {now : List (Tr V h)}, (lvl h now).length = h + 1
  | 0, now => rfl
  | h + 1, now => by show (lvl h _).length + 1 = _; rw [lvl_len]
theorem lvl_last : ∀ {h : Nat} {now : List (Tr V h)}, ((lvl h now).getLast?.map List.sum).getD 0 = (now.flatMap (toL h)).length
  | 0, now => by
    show (now.map (szT 0)).sum = _
    rw [List.length_flatMap]; rfl
  | h + 1, now => by
    have ih := lvl_last (h := h) (now := now.flatMap fun t => t.2)
    have e : (lvl (h + 1) now).getLast? = (lvl h (now.flatMap fun t => t.2)).getLast? := by
      show (_ :: lvl h _).getLast? = _
      have : (lvl h (now.flatMap fun t => t.2)) ≠ [] := fun e => by have := lvl_len (h := h) (now := now.flatMap fun t => t.2); rw [e] at this; simp at this
      exact List.getLast?_cons_of_ne_nil this
    rw [e, ih, List.flatMap_assoc]; rfl
end
end Go.Bt

namespace Go.Gx
open Go.Bt Go.RowKit
section
variable {V : Type} {κ : Kd V} {w w' : World} {F G H W R R' : Nat → Prop} {base b t h p q n tT : Nat} {v root : Value} {k : Ky} {x : V} {o : TO V} {tr : Tr V h}
theorem TreeR.monoR : ∀ {h : Nat} {p : Nat} {tr : Tr V h} {W : Nat → Prop}, TreeR κ R w h p tr W → (∀ k, R k → R' k) → TreeR κ R' w h p tr W
  | 0, _, _, _, ⟨pv, D, L, e⟩, hs => ⟨pv, D, { L with kr := fun x hx k hk => hs k (L.kr x hx k hk) }, e⟩
  | _ + 1, _, _, _, ⟨kv, cv, K, P, G, N, Ks, e⟩, hs => ⟨kv, cv, K, P, G, { N with kr := fun x hx k hk => hs k (N.kr x hx k hk) }, Ks.imp fun _ _ _ q _ => TreeR.monoR q hs, e⟩
theorem TreeR.ltR : ∀ {h : Nat} {p : Nat} {tr : Tr V h} {W : Nat → Prop}, TreeR κ R w h p tr W → TreeR κ (fun j => R j ∧ j < w.heap.size) w h p tr W
  | 0, _, _, _, ⟨pv, D, L, e⟩ => ⟨pv, D, { L with kr := fun x hx k hk => ⟨L.kr x hx k hk, ((L.ks x hx).lt k hk).2⟩ }, e⟩
  | _ + 1, _, _, _, ⟨kv, cv, K, P, G, N, Ks, e⟩ => ⟨kv, cv, K, P, G, { N with kr := fun x hx k hk => ⟨N.kr x hx k hk, ((N.ks x hx).lt k hk).2⟩ }, Ks.imp fun _ _ _ q _ => TreeR.ltR q, e⟩
def TreeO (κ : Kd V) (R : Nat → Prop) (w : World) (o : TO V) (q : Nat) (W : Nat → Prop) : Prop := match o with | none => False | some ⟨h, t⟩ => TreeR κ R w h q t W
theorem TreeO.lt (T : TreeO κ R w o q W) : ∀ k, W k → 0 ≤ k ∧ k < w.heap.size := by
  match o, T with
  | some ⟨h, t⟩, T => exact (show TreeR κ R w h q t W from T).lt
theorem TreeO.keepG (T : TreeO κ R w o q W) (E : Gr w w' H) (hd : Dj W H) (hn : NoK w H) : TreeO κ R w' o q W := by
  match o, T with
  | some ⟨h, t⟩, T => exact TreeR.keepG (show TreeR κ R w h q t W from T) E hd hn
theorem TreeO.kz (T : TreeO κ R w o q W) (E : w.grownBy w' none) : TreeO κ R w' o q W := T.keepG (Gr.of0 E NoB) (fun _ _ h => h) (NoK.no _)
theorem TreeO.monoR (T : TreeO κ R w o q W) (hs : ∀ k, R k → R' k) : TreeO κ R' w o q W := by
  match o, T with
  | some ⟨h, t⟩, T => exact TreeR.monoR (show TreeR κ R w h q t W from T) hs
def TopR (κ : Kd V) (tT base : Nat) (w : World) (p : Nat) (o : TO V) (F : Nat → Prop) : Prop :=
  F p ∧ (∀ k, F k → base ≤ k ∧ k < w.heap.size) ∧ OkO o ∧ ∃ root, Bx w p tT [root] ∧ (o = none ∧ root = .pointer none ∨ ∃ q R W, root = ptr q 0 ∧ TreeO κ R w o q W ∧ (∀ k, W k → F k) ∧ ∀ k, R k → F k)
theorem TopR.lt (T : TopR κ tT base w p o F) : ∀ k, F k → base ≤ k ∧ k < w.heap.size := T.2.1
theorem TopR.keepG (T : TopR κ tT base w p o F) (E : Gr w w' H) (hd : Dj F H) : TopR κ tT base w' p o F := by
  obtain ⟨h1, h2, h3, root, hB, hr⟩ := T
  refine ⟨h1, fun k hk => ⟨(h2 k hk).1, Nat.lt_of_lt_of_le (h2 k hk).2 E.size⟩, h3, root, hB.keepG E (hd p h1), ?_⟩
  rcases hr with hr | ⟨q, R, W, e, hT, hW, hR⟩
  · exact .inl hr
  · refine .inr ⟨q, R, W, e, ?_, hW, hR⟩
    match o, hT with
    | some ⟨h, t⟩, hT => exact TreeR.keepR hT E (fun k hk => hd k (hW k hk)) (fun k hk => hd k (hR k hk))
theorem TopR.kz (T : TopR κ tT base w p o F) (E : w.grownBy w' none) : TopR κ tT base w' p o F := T.keepG (Gr.of0 E NoB) (fun _ _ h => h)
theorem TopR.after {o2 : TO V} (T : TopR κ tT base w p o F) (hb : base ≤ w.heap.size) (E : w.heap.size ≤ w'.heap.size) (hO : OkO o2) (hB : Bx w' p tT [ptr q 0]) (hT : TreeO κ (fun j => F j ∨ w.heap.size ≤ j) w' o2 q W) (hW : ∀ j, W j → F j ∨ w.heap.size ≤ j) : ∃ F', TopR κ tT base w' p o2 F' ∧ NewF w.heap.size F F' := by
  refine ⟨fun j => F j ∨ (w.heap.size ≤ j ∧ j < w'.heap.size), ⟨.inl T.1, fun j hj => ?_, hO, _, hB, .inr ?_⟩, fun j hj => hj.imp id And.left⟩
  · rcases hj with hj | hj
    · have := T.2.1 j hj; omega
    · omega
  · match o2, hT with
    | some ⟨h, t⟩, hT =>
      have hT : TreeR κ (fun j => F j ∨ w.heap.size ≤ j) w' h q t W := hT
      refine ⟨q, _, W, rfl, hT.ltR, fun j hj => ?_, fun j hj => ?_⟩
      · exact (hW j hj).imp id fun h => ⟨h, hT.ty.lt j hj⟩
      · exact hj.1.imp id fun h => ⟨h, hj.2⟩
end
end Go.Gx

namespace Go.Proofs.Ytcpfdfejojghbaa
open Go.Gx Go.RowKit
attribute [local irreducible] wpList wpStill Code.wp Calls
open Go.Bt
theorem newI {w : World} : Ret Try.prog 22 #[] w (fun v' w' => Below w.heap.size w w' ∧ ∃ p, v' = ptr p 0 ∧ TopR kI 71 w.heap.size w' p none (fun j => j = p)) := by
 have hb := Below.refl w.heap.size w
 refine enter (N := 3) Try.func22 rfl rfl (by simp) fun a0 hN hd hA => ?_
 clear hA
 refine seq_any fun K2 hK2 => ?_
 refine one_reg (op_assign rfl (reg_nil (hK2 _ _ (seq_any fun K3 hK3 => one_reg (op_build (pv := []) (v := (Value.agg #[(Value.pointer none)])) trivial (by kernel_rfl) ?_)))))
 refine op_box (cs := [(Value.pointer none)]) (ev_hit hN rfl) rfl ?_
 intro w4 b5 lo_b5 hi_b5 hB7 E6
 have z_w4 := E6.size
 have hb := below_step0 hb E6 hb.size
 refine op_assign (ev_hit hN rfl) (reg_nil (hK3 _ _ (wp_ret ?_)))
 refine ret1 rfl hd (ev_hit hN rfl) ⟨_, rfl, ?_⟩
 exact ⟨hb, b5, rfl, rfl, fun j hj => ⟨by rw [hj]; omega, by rw [hj]; exact hB7.lt⟩, trivial, _, hB7, .inl ⟨rfl, rfl⟩⟩

theorem putT0I {k : List UInt8} {xv : Value} {x : Int} {F : Nat → Prop} {p : Nat} {R : Nat → Prop} {w : World} (hx : Bx w p 71 [.pointer none]) (hFp : F p) {L B : Nat} (hk : RdC w L B 1 xv k.length (k.map u8v)) (hB : B ≤ w.heap.size) (hap : ∀ j, F j → j < L ∨ B ≤ j) (hkn : k.length ≤ 1000000000) : Ret Try.prog 23 #[(ptr p 0), xv, (Value.int .i64 x)] w (fun v' w' => Gr w w' F ∧ v' = .bool (putT 0 k x (([] : List (Ky × (Int))) : Tr (Int) 0)).1 ∧ ∃ q2 W2, Bx w' p 71 [ptr q2 0] ∧ TreeO kI (fun j => R j ∨ w.heap.size ≤ j) w' (grown 0 (putT 0 k x (([] : List (Ky × (Int))) : Tr (Int) 0)).2.1 (putT 0 k x (([] : List (Ky × (Int))) : Tr (Int) 0)).2.2) q2 W2 ∧ ∀ j, W2 j → F j ∨ w.heap.size ≤ j) := by
 have hi_p := hx.lt
 have hb := Gr.refl w F
 refine enter (N := 51) Try.func23 rfl rfl (by simp) fun a0 hN hd hA => ?_
 have s0 : a0.tmps.getD 0 undef = (ptr p 0) := hA 0 (by simp)
 have s1 : a0.tmps.getD 1 undef = xv := hA 1 (by simp)
 have s2 : a0.tmps.getD 2 undef = (Value.int .i64 x) := hA 2 (by simp)
 clear hA
 refine seq_any fun K3 hK3 => one_reg (op_assign rfl ?_)
 refine reg_nil (hK3 _ _ (seq_any fun K4 hK4 => seq_any fun K5 hK5 => one_reg (op_move (ev_base hN rfl s0) (op_peq_some ptrt45 (ev_hit hN rfl) rfl ?_))))
 refine reg_nil (hK5 _ _ (wp_cond_false (ev_hit hN rfl) (wp_skip (hK4 _ _ (seq_any fun K6 hK6 => ?_)))))
 refine seq_any fun K7 hK7 => one_reg (op_move (ev_base hN rfl s0) (op_nil (ev_hit hN rfl) (op_field fld71_0 (ev_hit hN rfl) (op_load1 (v := (Value.pointer none)) one69 (ev_hit hN rfl) (hx.cell rfl) (op_peq_none ptrt69 (ev_hit hN rfl) rfl ?_)))))
 refine reg_nil (hK7 _ _ (wp_cond_true (ev_hit hN rfl) (one_reg (op_move (ev_base hN rfl s0) (op_build (pv := []) (v := (Value.agg #[(Value.slice none 0 0), (Value.slice none 0 0), (Value.slice none 0 0)])) trivial (by kernel_rfl) ?_)))))
 refine op_box (cs := [(Value.slice none 0 0), (Value.slice none 0 0), (Value.slice none 0 0)]) (ev_hit hN rfl) rfl ?_
 intro w10 b11 lo_b11 hi_b11 hB13 E12
 have z_w10 := E12.size
 have hx := hx.keep0 E12
 have hk := hk.keep0 E12
 have hb := hb.step0 E12
 refine op_nil (ev_hit hN rfl) (op_field fld71_0 (ev_hit hN rfl) ?_)
 have hx_old := hx
 refine op_store (vs := [(ptr b11 0)]) (cs' := [(ptr b11 0)]) size69 (ev_hit hN rfl) (ev_hit hN rfl) rfl rfl rfl hx (Nat.le_of_ble_eq_true rfl) rfl ?_
 intro w14 hx E15
 have z_w14 := E15.size
 have hk := hk.keep E15 (fun k hk => by have e9 := Option.some.inj hk; subst e9; exact hap _ hFp)
 have hB13 := hB13.keep E15 (fun hh => hB13.ne hx_old (by decide) (Option.some.inj hh))
 have hb := hb.stepB E15 hFp
 refine reg_nil (hK6 _ _ (seq_any fun K16 hK16 => ?_))
 have hT17 : TreeR kI (fun j => R j ∨ w.heap.size ≤ j) w14 0 b11 (([] : List (Ky × (Int))) : Tr (Int) 0) (leafW b11 nilV) := mkLeaf (D := []) hB13 (Own.nil _ 0 _ _) (fun _ h => (by cases h)) (fun _ h => (by cases h)) rfl
 have hlo : ∀ j, leafW b11 nilV j → w.heap.size ≤ j := leafW_fresh (e := 0) (sz := 0) (b := 0) (cs := []) (by omega) (Own.nil w14 _ 0 0)
 refine reg_split (hd := [_, _, _, _, _, _, _, _, _]) (tl := _) 9 mixed (by kernel_rfl) rfl rfl ?_
 refine any_env (φ := phiV [(fun uz => uz = (ptr p 0)), (fun uz => uz = (ptr p 0)), (fun uz => uz = (ptr p 0)), (fun uz => uz = (ptr b11 0)), (fun uz => uz = xv), (fun _ => True), (fun uz => uz = (Value.int .i64 x)), (fun _ => True), (fun _ => True)]) (G := fun w' => Bx w' p 71 [(ptr b11 0)]) [5, 7, 8] (by kernel_rfl) (by kernel_rfl) (by kernel_rfl) (by kernel_rfl) hN (fun w1 w2 E h => h.keep0 E) hx (ObEs.cons ?_ (ObEs.cons ?_ (ObEs.cons ?_ (ObEs.cons ?_ (ObEs.cons ?_ (ObEs.pass rfl (ObEs.cons ?_ (ObEs.pass rfl (ObEs.pass rfl (ObEs.nil)))))))))) (by simp only [putsL_defers]) ?_
 ·
  intro eA aA wA hNA hGA hbsA hdpA
  have qA_0 := (hbsA 0 rfl).trans (sl_base hN rfl s0)
  refine op_move (ev_base hNA rfl qA_0) ?_
  exact obE_end rfl rfl rfl
 ·
  intro eA aA wA hNA hGA hbsA hdpA
  have qA_23 : Sl aA 23 (ptr p 0) := (hdpA 0 _ 23 (by kernel_rfl) rfl rfl).2 rfl
  refine op_nil (ev_base hNA rfl qA_23) ?_
  exact obE_end rfl rfl rfl
 ·
  intro eA aA wA hNA hGA hbsA hdpA
  have qA_24 : Sl aA 24 (ptr p 0) := (hdpA 1 _ 24 (by kernel_rfl) rfl rfl).2 rfl
  refine op_field fld71_0 (ev_base hNA rfl qA_24) ?_
  exact obE_end rfl rfl rfl
 ·
  intro eA aA wA hNA hGA hbsA hdpA
  have qA_25 : Sl aA 25 (ptr p 0) := (hdpA 2 _ 25 (by kernel_rfl) rfl rfl).2 rfl
  refine op_load1 (v := (ptr b11 0)) one69 (ev_base hNA rfl qA_25) (hGA.cell rfl) ?_
  exact obE_end rfl rfl rfl
 ·
  intro eA aA wA hNA hGA hbsA hdpA
  have qA_1 := (hbsA 1 rfl).trans (sl_base hN rfl s1)
  refine op_move (ev_base hNA rfl qA_1) ?_
  exact obE_end rfl rfl rfl
 ·
  intro eA aA wA hNA hGA hbsA hdpA
  have qA_2 := (hbsA 2 rfl).trans (sl_base hN rfl s2)
  refine op_move (ev_base hNA rfl qA_2) ?_
  exact obE_end rfl rfl rfl
 ·
  intro w18 E18 _ a18 hN18 hbs18 hdp18 o_ ho_; obtain rfl := Option.some.inj ho_
  have z_w18 := E18.size
  have hk := hk.keep0 E18
  have hx := hx.keep0 E18
  have hT17 := hT17.kz E18
  have hb := hb.step0 E18
  have q18_27 : Sl a18 27 xv := (hdp18 4 _ 27 (by kernel_rfl) rfl rfl).2 rfl
  refine op_fn (vs := [xv]) ok41 ⟨(ev_base hN18 rfl q18_27), trivial⟩ (clB (hk.mono (Nat.zero_le _) (by omega)) (by omega)) ?_
  rintro v19 w20 ⟨E21, hO19⟩
  have dj22 : Dj (leafW b11 nilV) (Bl v19) := Dj.fresh (fun k hk => (hT17.lt k hk).2) (fun k hk => (hO19.lt k hk).1)
  have E21 := grown_of_below E21
  have z_w20 := E21.size
  have hk := hk.keep0 E21
  have hx := hx.keep0 E21
  have hT17 := hT17.kz E21
  have hb := hb.step0 E21
  have hO19 := hO19.mono (base' := w.heap.size) (by omega)
  skip
  refine ke_end rfl (by decide) rfl hx ?_
  intro w32 E32 _ a32 hN32 hbs32 hdp32 o_ ho_; obtain rfl := Option.some.inj ho_
  have z_w32 := E32.size
  have hk := hk.keep0 E32
  have hx := hx.keep0 E32
  have hT17 := hT17.kz E32
  have hO19 := hO19.keep0 E32
  have hb := hb.step0 E32
  have q32_28 : Sl a32 28 v19 := (Option.some.inj ((hdp32 5 _ 28 (by kernel_rfl) rfl rfl).1 0 rfl)).symm
  have q32_29 : Sl a32 29 (Value.int .i64 x) := (hdp32 6 _ 29 (by kernel_rfl) rfl rfl).2 rfl
  refine op_build (pv := [(0, v19), (1, (Value.int .i64 x))]) (v := (Value.agg #[v19, (Value.int .i64 x)])) ⟨rfl, (ev_base hN32 rfl q32_28), ⟨rfl, (ev_base hN32 rfl q32_29), trivial⟩⟩ (by obtain ⟨_, _, _, rfl⟩ := hO19.sl; kernel_rfl) ?_
  refine ke_end rfl (by decide) rfl hx ?_
  intro w33 E33 _ a33 hN33 hbs33 hdp33 o_ ho_; obtain rfl := Option.some.inj ho_
  have z_w33 := E33.size
  have hk := hk.keep0 E33
  have hx := hx.keep0 E33
  have hT17 := hT17.kz E33
  have hO19 := hO19.keep0 E33
  have hb := hb.step0 E33
  have q33_26 : Sl a33 26 (ptr b11 0) := (hdp33 3 _ 26 (by kernel_rfl) rfl rfl).2 rfl
  have q33_30 : Sl a33 30 (Value.agg #[v19, (Value.int .i64 x)]) := (Option.some.inj ((hdp33 7 _ 30 (by kernel_rfl) rfl rfl).1 1 rfl)).symm
  rcases Bool.eq_false_or_eq_true (((putT 0 k x (([] : List (Ky × (Int))) : Tr (Int) 0)).2.2.isSome)) with k31 | k31
  ·
   cases (show false = true from k31)
  ·
   refine op_fn (vs := [(ptr b11 0), (Value.agg #[v19, (Value.int .i64 x)])]) ok48 ⟨(ev_base hN33 rfl q33_26), ⟨(ev_base hN33 rfl q33_30), trivial⟩⟩ (putAllI 0 hT17 (show Sorted ([] : List Ky) from List.Pairwise.nil) (Nat.zero_le 6) (hO19.mono (Nat.zero_le _)) (fun j hj => .inr (hO19.lt j hj).1)) ?_
   rintro _ w35 ⟨E36, u34, m34, rfl, ho34⟩
   have bd37 := hx.lt
   have bd38 := hO19.lt
   have dj39 := (hT17.notBx hx (by decide) (by decide) (by decide) (by decide))
   have dj40 := dj22.symm
   obtain ⟨hr34, rfl, rfl, W1_34, hT34, hN1_34⟩ := outR_none k31 ho34
   have z_w35 := E36.size
   have hx := hx.keepG E36 dj39
   have hb := hb.stepF E36 (fun k hk h => absurd (hlo k h) (by omega))
   have hin42 : ∀ j, W1_34 j → F j ∨ w.heap.size ≤ j := fun j hj => (hN1_34 j hj).elim (fun h => .inr (hlo j h)) (fun h => .inr (by omega))
   refine ke_end rfl (by decide) rfl hx ?_
   intro w43 E43 a43 hN43 hd43 hbs43 hph43
   have hd43 := hd43.trans ((by simp only [putsL_defers] : _ = _).trans hd)
   have z_w43 := E43.size
   have hx := hx.keep0 E43
   have hT34 := hT34.kz E43
   have hb := hb.step0 E43
   have s43_31 : Sl a43 31 (Value.tuple #[(Value.bool (putT 0 k x (([] : List (Ky × (Int))) : Tr (Int) 0)).1), (Value.slice none 0 0), (Value.pointer none)]) := (Option.some.inj ((hph43 8 _ 31 rfl rfl).1 2 rfl)).symm
   refine split_end ?_
   refine from_still (m := 16) 7 (hd := [_, _, _, _, _, _, _]) (by kernel_rfl) rfl rfl ?_
   refine st_step rfl (fun _ h9 => op_move (ev_base hN43 rfl s43_31) h9) ?_
   refine st_step rfl (fun _ h9 => op_extract (ev_hit hN43 rfl) rfl h9) ?_
   refine st_step rfl (fun _ h9 => op_extract (ev_hit hN43 rfl) rfl h9) ?_
   refine st_step rfl (fun _ h9 => op_extract (ev_hit hN43 rfl) rfl h9) ?_
   refine st_step rfl (fun _ h9 => op_assign (ev_hit hN43 rfl) h9) ?_
   refine st_step rfl (fun _ h9 => op_assign (ev_hit hN43 rfl) h9) ?_
   refine st_step rfl (fun _ h9 => op_assign (ev_hit hN43 rfl) h9) ?_
   refine st_nil ?_
   refine from_end ?_ rfl
   refine hK16 _ _ (seq_any fun K44 hK44 => seq_any fun K46 hK46 => one_reg (op_move (ev_hit hN43 rfl) (op_pne_none ptrt69 (ev_hit hN43 rfl) rfl ?_)))
   refine reg_nil (hK46 _ _ (wp_cond_false (ev_hit hN43 rfl) (wp_skip (hK44 _ _ ?_))))
   refine seq_any fun K47 hK47 => one_reg (op_move (ev_hit hN43 rfl) (op_assign (ev_hit hN43 rfl) (reg_nil (hK47 _ _ (wp_ret ?_)))))
   refine ret1 rfl hd43 (ev_hit hN43 rfl) ⟨_, rfl, ?_⟩
   exact ⟨hb, rfl, b11, W1_34, hx, (by rw [hr34]; exact hT34), hin42⟩

theorem putT1I {k : List UInt8} {xv : Value} {x : Int} {F : Nat → Prop} {p : Nat} {h q : Nat} {t : Tr (Int) h} {W : Nat → Prop} {R : Nat → Prop} {w : World} (hx : Bx w p 71 [ptr q 0]) (hFp : F p) (hT : TreeR kI R w h q t W) (hFW : ∀ j, W j → F j) (hO : Ok h t) (h6 : szT h t ≤ 6) {L B : Nat} (hk : RdC w L B 1 xv k.length (k.map u8v)) (hB : B ≤ w.heap.size) (hap : ∀ j, F j → j < L ∨ B ≤ j) (hkn : k.length ≤ 1000000000) : Ret Try.prog 23 #[(ptr p 0), xv, (Value.int .i64 x)] w (fun v' w' => Gr w w' F ∧ v' = .bool (putT h k x t).1 ∧ ∃ q2 W2, Bx w' p 71 [ptr q2 0] ∧ TreeO kI (fun j => R j ∨ w.heap.size ≤ j) w' (grown h (putT h k x t).2.1 (putT h k x t).2.2) q2 W2 ∧ ∀ j, W2 j → F j ∨ w.heap.size ≤ j) := by
 have hi_p := hx.lt
 have hT1 : TreeR kI (fun j => R j ∨ w.heap.size ≤ j) w h q t W := hT.monoR (fun j h => .inl h)
 have hb := Gr.refl w F
 refine enter (N := 51) Try.func23 rfl rfl (by simp) fun a0 hN hd hA => ?_
 have s0 : a0.tmps.getD 0 undef = (ptr p 0) := hA 0 (by simp)
 have s1 : a0.tmps.getD 1 undef = xv := hA 1 (by simp)
 have s2 : a0.tmps.getD 2 undef = (Value.int .i64 x) := hA 2 (by simp)
 clear hA
 refine seq_any fun K3 hK3 => one_reg (op_assign rfl ?_)
 refine reg_nil (hK3 _ _ (seq_any fun K4 hK4 => seq_any fun K5 hK5 => one_reg (op_move (ev_base hN rfl s0) (op_peq_some ptrt45 (ev_hit hN rfl) rfl ?_))))
 refine reg_nil (hK5 _ _ (wp_cond_false (ev_hit hN rfl) (wp_skip (hK4 _ _ (seq_any fun K7 hK7 => ?_)))))
 refine seq_any fun K10 hK10 => one_reg (op_move (ev_base hN rfl s0) (op_nil (ev_hit hN rfl) (op_field fld71_0 (ev_hit hN rfl) (op_load1 (v := (ptr q 0)) one69 (ev_hit hN rfl) (hx.cell rfl) (op_peq_some ptrt69 (ev_hit hN rfl) rfl ?_)))))
 refine reg_nil (hK10 _ _ (wp_cond_false (ev_hit hN rfl) (wp_skip (hK7 _ _ (seq_any fun K11 hK11 => reg_split (hd := [_, _, _, _, _, _, _, _, _]) (tl := _) 9 mixed (by kernel_rfl) rfl rfl ?_)))))
 refine any_env (φ := phiV [(fun uz => uz = (ptr p 0)), (fun uz => uz = (ptr p 0)), (fun uz => uz = (ptr p 0)), (fun uz => uz = (ptr q 0)), (fun uz => uz = xv), (fun _ => True), (fun uz => uz = (Value.int .i64 x)), (fun _ => True), (fun _ => True)]) (G := fun w' => Bx w' p 71 [(ptr q 0)]) [5, 7, 8] (by kernel_rfl) (by kernel_rfl) (by kernel_rfl) (by kernel_rfl) hN (fun w1 w2 E h => h.keep0 E) hx (ObEs.cons ?_ (ObEs.cons ?_ (ObEs.cons ?_ (ObEs.cons ?_ (ObEs.cons ?_ (ObEs.pass rfl (ObEs.cons ?_ (ObEs.pass rfl (ObEs.pass rfl (ObEs.nil)))))))))) (by simp only [putsL_defers]) ?_
 ·
  intro eA aA wA hNA hGA hbsA hdpA
  have qA_0 := (hbsA 0 rfl).trans (sl_base hN rfl s0)
  refine op_move (ev_base hNA rfl qA_0) ?_
  exact obE_end rfl rfl rfl
 ·
  intro eA aA wA hNA hGA hbsA hdpA
  have qA_23 : Sl aA 23 (ptr p 0) := (hdpA 0 _ 23 (by kernel_rfl) rfl rfl).2 rfl
  refine op_nil (ev_base hNA rfl qA_23) ?_
  exact obE_end rfl rfl rfl
 ·
  intro eA aA wA hNA hGA hbsA hdpA
  have qA_24 : Sl aA 24 (ptr p 0) := (hdpA 1 _ 24 (by kernel_rfl) rfl rfl).2 rfl
  refine op_field fld71_0 (ev_base hNA rfl qA_24) ?_
  exact obE_end rfl rfl rfl
 ·
  intro eA aA wA hNA hGA hbsA hdpA
  have qA_25 : Sl aA 25 (ptr p 0) := (hdpA 2 _ 25 (by kernel_rfl) rfl rfl).2 rfl
  refine op_load1 (v := (ptr q 0)) one69 (ev_base hNA rfl qA_25) (hGA.cell rfl) ?_
  exact obE_end rfl rfl rfl
 ·
  intro eA aA wA hNA hGA hbsA hdpA
  have qA_1 := (hbsA 1 rfl).trans (sl_base hN rfl s1)
  refine op_move (ev_base hNA rfl qA_1) ?_
  exact obE_end rfl rfl rfl
 ·
  intro eA aA wA hNA hGA hbsA hdpA
  have qA_2 := (hbsA 2 rfl).trans (sl_base hN rfl s2)
  refine op_move (ev_base hNA rfl qA_2) ?_
  exact obE_end rfl rfl rfl
 ·
  intro w12 E12 _ a12 hN12 hbs12 hdp12 o_ ho_; obtain rfl := Option.some.inj ho_
  have z_w12 := E12.size
  have hx := hx.keep0 E12
  have hk := hk.keep0 E12
  have hT1 := hT1.kz E12
  have hb := hb.step0 E12
  have q12_27 : Sl a12 27 xv := (hdp12 4 _ 27 (by kernel_rfl) rfl rfl).2 rfl
  refine op_fn (vs := [xv]) ok41 ⟨(ev_base hN12 rfl q12_27), trivial⟩ (clB (hk.mono (Nat.zero_le _) (by omega)) (by omega)) ?_
  rintro v13 w14 ⟨E15, hO13⟩
  have dj16 : Dj W (Bl v13) := Dj.fresh (fun k hk => (hT1.lt k hk).2) (fun k hk => (hO13.lt k hk).1)
  have E15 := grown_of_below E15
  have z_w14 := E15.size
  have hx := hx.keep0 E15
  have hT1 := hT1.kz E15
  have hb := hb.step0 E15
  have hO13 := hO13.mono (base' := w.heap.size) (by omega)
  skip
  refine ke_end rfl (by decide) rfl hx ?_
  intro w17 E17 _ a17 hN17 hbs17 hdp17 o_ ho_; obtain rfl := Option.some.inj ho_
  have z_w17 := E17.size
  have hx := hx.keep0 E17
  have hT1 := hT1.kz E17
  have hO13 := hO13.keep0 E17
  have hb := hb.step0 E17
  have q17_28 : Sl a17 28 v13 := (Option.some.inj ((hdp17 5 _ 28 (by kernel_rfl) rfl rfl).1 0 rfl)).symm
  have q17_29 : Sl a17 29 (Value.int .i64 x) := (hdp17 6 _ 29 (by kernel_rfl) rfl rfl).2 rfl
  refine op_build (pv := [(0, v13), (1, (Value.int .i64 x))]) (v := (Value.agg #[v13, (Value.int .i64 x)])) ⟨rfl, (ev_base hN17 rfl q17_28), ⟨rfl, (ev_base hN17 rfl q17_29), trivial⟩⟩ (by obtain ⟨_, _, _, rfl⟩ := hO13.sl; kernel_rfl) ?_
  refine ke_end rfl (by decide) rfl hx ?_
  intro w18 E18 _ a18 hN18 hbs18 hdp18 o_ ho_; obtain rfl := Option.some.inj ho_
  have z_w18 := E18.size
  have hx := hx.keep0 E18
  have hT1 := hT1.kz E18
  have hO13 := hO13.keep0 E18
  have hb := hb.step0 E18
  have q18_26 : Sl a18 26 (ptr q 0) := (hdp18 3 _ 26 (by kernel_rfl) rfl rfl).2 rfl
  have q18_30 : Sl a18 30 (Value.agg #[v13, (Value.int .i64 x)]) := (Option.some.inj ((hdp18 7 _ 30 (by kernel_rfl) rfl rfl).1 1 rfl)).symm
  rcases Bool.eq_false_or_eq_true (((putT h k x t).2.2.isSome)) with k31 | k31
  ·
   refine op_fn (vs := [(ptr q 0), (Value.agg #[v13, (Value.int .i64 x)])]) ok48 ⟨(ev_base hN18 rfl q18_26), ⟨(ev_base hN18 rfl q18_30), trivial⟩⟩ (putAllI h hT1 hO h6 (hO13.mono (Nat.zero_le _)) (fun j hj => .inr (hO13.lt j hj).1)) ?_
   rintro _ w20 ⟨E21, u19, m19, rfl, ho19⟩
   have bd22 := hx.lt
   have bd32 := hO13.lt
   have dj33 := (hT1.notBx hx (by decide) (by decide) (by decide) (by decide))
   have dj34 := dj16.symm
   obtain ⟨y19, t2_19, q19, W1_19, W2_19, hr19, rfl, hu19, hur19, hT19, hT2_19, hN1_19, hN2_19, hd19⟩ := outR_some k31 ho19
   have z_w20 := E21.size
   have hx := hx.keepG E21 dj33
   have hb := hb.stepF E21 (fun k _ h => hFW k h)
   have dj35 : ¬ W1_19 p := ne_stepF hN1_19 bd22 dj33
   have hin36 : ∀ j, W1_19 j → F j ∨ w.heap.size ≤ j := fun j hj => (hN1_19 j hj).elim (fun h => .inl (hFW j h)) (fun h => .inr (by omega))
   have dj37 : ¬ W2_19 p := ne_stepF hN2_19 bd22 dj33
   have hin38 : ∀ j, W2_19 j → F j ∨ w.heap.size ≤ j := fun j hj => (hN2_19 j hj).elim (fun h => .inl (hFW j h)) (fun h => .inr (by omega))
   refine ke_end rfl (by decide) rfl hx ?_
   intro w39 E39 a39 hN39 hd39 hbs39 hph39
   have hd39 := hd39.trans ((by simp only [putsL_defers] : _ = _).trans hd)
   have z_w39 := E39.size
   have hx := hx.keep0 E39
   have hT19 := hT19.kz E39
   have hT2_19 := hT2_19.kz E39
   have hu19 := hu19.keep0 E39
   have hb := hb.step0 E39
   have s39_0 := (hbs39 0 rfl).trans (sl_base hN rfl s0)
   have s39_31 : Sl a39 31 (Value.tuple #[(Value.bool (putT h k x t).1), u19, (ptr q19 0)]) := (Option.some.inj ((hph39 8 _ 31 rfl rfl).1 2 rfl)).symm
   refine split_end ?_
   refine from_still (m := 16) 7 (hd := [_, _, _, _, _, _, _]) (by kernel_rfl) rfl rfl ?_
   refine st_step rfl (fun _ h9 => op_move (ev_base hN39 rfl s39_31) h9) ?_
   refine st_step rfl (fun _ h9 => op_extract (ev_hit hN39 rfl) rfl h9) ?_
   refine st_step rfl (fun _ h9 => op_extract (ev_hit hN39 rfl) rfl h9) ?_
   refine st_step rfl (fun _ h9 => op_extract (ev_hit hN39 rfl) rfl h9) ?_
   refine st_step rfl (fun _ h9 => op_assign (ev_hit hN39 rfl) h9) ?_
   refine st_step rfl (fun _ h9 => op_assign (ev_hit hN39 rfl) h9) ?_
   refine st_step rfl (fun _ h9 => op_assign (ev_hit hN39 rfl) h9) ?_
   refine st_nil ?_
   refine from_end ?_ rfl
   refine hK11 _ _ (seq_any fun K40 hK40 => seq_any fun K42 hK42 => one_reg (op_move (ev_hit hN39 rfl) (op_pne_some ptrt69 (ev_hit hN39 rfl) rfl ?_)))
   refine reg_nil (hK42 _ _ (wp_cond_true (ev_hit hN39 rfl) (one_reg (op_move (ev_base hN39 rfl s39_0) (op_move (ev_hit hN39 rfl) (op_bslice (e := 27) (pv := [(0, u19)]) (cs := [u19]) ⟨rfl, (ev_hit hN39 rfl), trivial⟩ (by obtain ⟨_, _, _, rfl⟩ := hu19.sl; kernel_rfl) ?_))))))
   intro w43 b44 lo_b44 hi_b44 hB47 E46
   have dj49 : ¬ W1_19 b44 := fun hf => by have := (hT19.lt _ hf).2; omega
   have dj50 : ¬ W2_19 b44 := fun hf => by have := (hT2_19.lt _ hf).2; omega
   have z_w43 := E46.size
   have hx := hx.keep0 E46
   have hT19 := hT19.kz E46
   have hT2_19 := hT2_19.kz E46
   have hu19 := hu19.keep0 E46
   have hb := hb.step0 E46
   refine op_move (ev_base hN39 rfl s39_0) (op_nil (ev_hit hN39 rfl) (op_field fld71_0 (ev_hit hN39 rfl) (op_load1 (v := (ptr q 0)) one69 (ev_hit hN39 rfl) (hx.cell rfl) (op_move (ev_hit hN39 rfl) (op_bslice (e := 69) (pv := [(0, (ptr q 0)), (1, (ptr q19 0))]) (cs := [(ptr q 0), (ptr q19 0)]) ⟨rfl, (ev_hit hN39 rfl), ⟨rfl, (ev_hit hN39 rfl), trivial⟩⟩ (by kernel_rfl) ?_)))))
   intro w51 b52 lo_b52 hi_b52 hB54 E53
   have dj55 : ¬ W1_19 b52 := fun hf => by have := (hT19.lt _ hf).2; omega
   have dj56 : ¬ W2_19 b52 := fun hf => by have := (hT2_19.lt _ hf).2; omega
   have z_w51 := E53.size
   have hx := hx.keep0 E53
   have hT19 := hT19.kz E53
   have hT2_19 := hT2_19.kz E53
   have hu19 := hu19.keep0 E53
   have hB47 := hB47.keep0 E53
   have hb := hb.step0 E53
   refine op_build (pv := [(1, (Value.slice (some ⟨b44, 0, none⟩) 1 1)), (2, (Value.slice (some ⟨b52, 0, none⟩) 2 2))]) (v := (Value.agg #[(Value.slice none 0 0), (Value.slice (some ⟨b44, 0, none⟩) 1 1), (Value.slice (some ⟨b52, 0, none⟩) 2 2)])) ⟨rfl, (ev_hit hN39 rfl), ⟨rfl, (ev_hit hN39 rfl), trivial⟩⟩ (by kernel_rfl) ?_
   refine op_box (cs := [(Value.slice none 0 0), (Value.slice (some ⟨b44, 0, none⟩) 1 1), (Value.slice (some ⟨b52, 0, none⟩) 2 2)]) (ev_hit hN39 rfl) rfl ?_
   intro w57 b58 lo_b58 hi_b58 hB60 E59
   have dj61 : ¬ W1_19 b58 := fun hf => by have := (hT19.lt _ hf).2; omega
   have dj62 : ¬ W2_19 b58 := fun hf => by have := (hT2_19.lt _ hf).2; omega
   have z_w57 := E59.size
   have hx := hx.keep0 E59
   have hT19 := hT19.kz E59
   have hT2_19 := hT2_19.kz E59
   have hu19 := hu19.keep0 E59
   have hB47 := hB47.keep0 E59
   have hB54 := hB54.keep0 E59
   have hb := hb.step0 E59
   refine op_nil (ev_hit hN39 rfl) (op_field fld71_0 (ev_hit hN39 rfl) ?_)
   have hx_old := hx
   refine op_store (vs := [(ptr b58 0)]) (cs' := [(ptr b58 0)]) size69 (ev_hit hN39 rfl) (ev_hit hN39 rfl) rfl rfl rfl hx (Nat.le_of_ble_eq_true rfl) rfl ?_
   intro w63 hx E64
   have z_w63 := E64.size
   have hT19 := hT19.keepG (Gr.of E64) (Dj.one dj35) (NoK.ofBx hx_old (by decide))
   have hT2_19 := hT2_19.keepG (Gr.of E64) (Dj.one dj37) (NoK.ofBx hx_old (by decide))
   have hu19 := hu19.keepX hx_old E64 (by decide)
   have hB47 := hB47.keep E64 (fun hh => hB47.ne hx_old (by decide) (Option.some.inj hh))
   have hB54 := hB54.keep E64 (fun hh => hB54.ne hx_old (by decide) (Option.some.inj hh))
   have hB60 := hB60.keep E64 (fun hh => hB60.ne hx_old (by decide) (Option.some.inj hh))
   have hb := hb.stepB E64 hFp
   refine reg_nil (hK40 _ _ ?_)
   refine seq_any fun K65 hK65 => one_reg (op_move (ev_hit hN39 rfl) (op_assign (ev_hit hN39 rfl) (reg_nil (hK65 _ _ (wp_ret ?_)))))
   refine ret1 rfl hd39 (ev_hit hN39 rfl) ⟨_, rfl, ?_⟩
   exact ⟨hb, rfl, b58, _, hx, (by rw [hr19]; exact (mkNode (κ := kI) (K := [(u19, y19)]) (P := [q, q19]) (ts := [(putT h k x t).2.1, t2_19]) hB60 (Own.ofBx (base := 0) (sz := 1) (n := 1) hB47 rfl (by decide) (Nat.zero_le _)) (Own.ofBx (base := 0) (sz := 1) (n := 2) hB54 rfl (by decide) (Nat.zero_le _)) (fun x hx => by rw [List.mem_singleton.1 hx]; exact hu19) (fun x hx => by rw [List.mem_singleton.1 hx]; exact hur19) (Kids.ins (i := 0) (Kids.ins (i := 0) (Kids.nil (TreeR kI (fun j => R j ∨ w.heap.size ≤ j) w63 h)) (Nat.zero_le _) hT2_19 (fun _ _ h => h)) (Nat.zero_le _) hT19 (fun k h1 h2 => h2.elim (hd19 k h1) (fun h => h))) (fun h9 => h9.elim dj61 (fun h8 => h8.elim dj62 (fun h => h))) (fun j hj h9 => h9.elim ((Dj.one dj49).symm j hj) (fun h8 => h8.elim ((Dj.one dj50).symm j hj) (fun h => h))) (fun j hj h9 => h9.elim ((Dj.one dj55).symm j hj) (fun h8 => h8.elim ((Dj.one dj56).symm j hj) (fun h => h))))), fun j hj => by
       rcases hj with rfl | hj | hj | hj | hj | hj
       · exact .inr (by omega)
       · exact .inr (by have e9 : b44 = j := Option.some.inj hj; omega)
       · exact .inr (by have e9 : b52 = j := Option.some.inj hj; omega)
       · exact hin36 j hj
       · exact hin38 j hj
       · exact hj.elim⟩
  ·
   refine op_fn (vs := [(ptr q 0), (Value.agg #[v13, (Value.int .i64 x)])]) ok48 ⟨(ev_base hN18 rfl q18_26), ⟨(ev_base hN18 rfl q18_30), trivial⟩⟩ (putAllI h hT1 hO h6 (hO13.mono (Nat.zero_le _)) (fun j hj => .inr (hO13.lt j hj).1)) ?_
   rintro _ w67 ⟨E68, u66, m66, rfl, ho66⟩
   have bd70 := hx.lt
   have bd72 := hO13.lt
   have dj73 := (hT1.notBx hx (by decide) (by decide) (by decide) (by decide))
   have dj74 := dj16.symm
   obtain ⟨hr66, rfl, rfl, W1_66, hT66, hN1_66⟩ := outR_none k31 ho66
   have z_w67 := E68.size
   have hx := hx.keepG E68 dj73
   have hb := hb.stepF E68 (fun k _ h => hFW k h)
   have hin75 : ∀ j, W1_66 j → F j ∨ w.heap.size ≤ j := fun j hj => (hN1_66 j hj).elim (fun h => .inl (hFW j h)) (fun h => .inr (by omega))
   refine ke_end rfl (by decide) rfl hx ?_
   intro w76 E76 a76 hN76 hd76 hbs76 hph76
   have hd76 := hd76.trans ((by simp only [putsL_defers] : _ = _).trans hd)
   have z_w76 := E76.size
   have hx := hx.keep0 E76
   have hT66 := hT66.kz E76
   have hb := hb.step0 E76
   have s76_31 : Sl a76 31 (Value.tuple #[(Value.bool (putT h k x t).1), (Value.slice none 0 0), (Value.pointer none)]) := (Option.some.inj ((hph76 8 _ 31 rfl rfl).1 2 rfl)).symm
   refine split_end ?_
   refine from_still (m := 16) 7 (hd := [_, _, _, _, _, _, _]) (by kernel_rfl) rfl rfl ?_
   refine st_step rfl (fun _ h9 => op_move (ev_base hN76 rfl s76_31) h9) ?_
   refine st_step rfl (fun _ h9 => op_extract (ev_hit hN76 rfl) rfl h9) ?_
   refine st_step rfl (fun _ h9 => op_extract (ev_hit hN76 rfl) rfl h9) ?_
   refine st_step rfl (fun _ h9 => op_extract (ev_hit hN76 rfl) rfl h9) ?_
   refine st_step rfl (fun _ h9 => op_assign (ev_hit hN76 rfl) h9) ?_
   refine st_step rfl (fun _ h9 => op_assign (ev_hit hN76 rfl) h9) ?_
   refine st_step rfl (fun _ h9 => op_assign (ev_hit hN76 rfl) h9) ?_
   refine st_nil ?_
   refine from_end ?_ rfl
   refine hK11 _ _ (seq_any fun K77 hK77 => seq_any fun K78 hK78 => one_reg (op_move (ev_hit hN76 rfl) (op_pne_none ptrt69 (ev_hit hN76 rfl) rfl ?_)))
   refine reg_nil (hK78 _ _ (wp_cond_false (ev_hit hN76 rfl) (wp_skip (hK77 _ _ ?_))))
   refine seq_any fun K79 hK79 => one_reg (op_move (ev_hit hN76 rfl) (op_assign (ev_hit hN76 rfl) (reg_nil (hK79 _ _ (wp_ret ?_)))))
   refine ret1 rfl hd76 (ev_hit hN76 rfl) ⟨_, rfl, ?_⟩
   exact ⟨hb, rfl, q, W1_66, hx, (by rw [hr66]; exact hT66), hin75⟩
theorem putTopI {o : TO (Int)} {k : List UInt8} {xv : Value} {x : Int} {F : Nat → Prop} {p base L B : Nat} {w : World} (hT : TopR kI 71 base w p o F) (hb : base ≤ w.heap.size) (hk : RdC w L B 1 xv k.length (k.map u8v)) (hB : B ≤ w.heap.size) (hap : ∀ j, F j → j < L ∨ B ≤ j) (hkn : k.length ≤ 1000000000) :
    Ret Try.prog 23 #[ptr p 0, xv, (Value.int .i64 x)] w (fun v' w' => Gr w w' F ∧ v' = .bool (putO k x o).1 ∧ ∃ F', TopR kI 71 base w' p (putO k x o).2 F' ∧ NewF w.heap.size F F') := by
  obtain ⟨hF, hlt, hO, root, hB', hr⟩ := id hT
  rcases hr with ⟨rfl, rfl⟩ | ⟨q, R, W, rfl, hTO, hFW, hFR⟩
  · refine Ret.mono (putT0I (R := NoB) (x := x) hB' hF hk hB hap hkn) fun v' w' h => ?_
    obtain ⟨E, hv, q2, W2, hB2, hTO2, hW2⟩ := h
    exact ⟨E, hv, hT.after hb E.size (putO_ok (k := k) (x := x) hO).1 hB2 (TreeO.monoR hTO2 fun j h => h.imp (fun q => q.elim) id) hW2⟩
  · match o, hT, hO, hTO with
    | some ⟨h, t⟩, hT, hO, hTO =>
      refine Ret.mono (putT1I (x := x) hB' hF hTO hFW hO.1 hO.2.2 hk hB hap hkn) fun v' w' h => ?_
      obtain ⟨E, hv, q2, W2, hB2, hTO2, hW2⟩ := h
      exact ⟨E, hv, hT.after hb E.size (putO_ok (k := k) (x := x) hO).1 hB2 (TreeO.monoR hTO2 fun j h => h.imp (hFR j) id) hW2⟩
end Go.Proofs.Ytcpfdfejojghbaa
