/- Plain facts on letters that wait: lists by heads and tails. -/
import Derived.Test.YtmhdbphpmgjpcaaProg
import Derived.KernelRfl
import Derived.Maps.RangeRun
import Derived.WalkSpells
import Derived.Sort.AssemblyPlain
import Derived.Test.YtmhdbphpmgjpcaaB1
namespace Go.Gx
theorem getD_front {α : Type} {H B : List α} {d : α} (h : 0 < H.length) : H.getD 0 d = (H ++ B).getD 0 d := by
  cases H with
  | nil => simp at h
  | cons x H => rfl
/-- How a list stands to the one that was there: its block is that one's, or a new one. -/
def FrO (v u : Go.Value) (n : Nat) : Prop := u.ownBlock = v.ownBlock ∨ ∀ k, u.ownBlock = some k → n ≤ k
theorem FrO.refl (v : Go.Value) (n : Nat) : FrO v v n := .inl rfl
theorem FrO.nil (v : Go.Value) (n : Nat) : FrO v (.slice none 0 0) n := .inr fun _ hk => (by cases hk)
theorem FrO.new (v u : Go.Value) {n : Nat} (h : ∀ k, u.ownBlock = some k → n ≤ k) : FrO v u n := .inr h
theorem FrO.trans {v u x : Go.Value} {n m : Nat} (h : FrO v u n) (h2 : FrO u x m) (hm : n ≤ m) : FrO v x n := by
  rcases h2 with h2 | h2
  · rcases h with h | h
    · exact .inl (h2.trans h)
    · exact .inr fun k hk => h k (h2 ▸ hk)
  · exact .inr fun k hk => Nat.le_trans hm (h2 k hk)
/-- Letters that wait: a post at block p with its channel and its list. -/
def PostR {α : Type} (f : α → Value) (t e : Nat) (w : World) (base p cap : Nat) (L : List α) (F : Nat → Prop) : Prop :=
  ∃ (c : Nat) (hv : Value) (H B : List α), H ++ B = L ∧ H.length ≤ 1 ∧ H.length + B.length ≤ cap ∧ cap ≤ 1000 ∧ base ≤ p ∧ base ≤ c ∧ Bx w p t [.chan (some c), hv] ∧ Own w base e 1 hv H.length (H.map f) ∧ ChC w c cap (B.map f) ∧ (∀ k, F k ↔ k = p ∨ k = c ∨ hv.ownBlock = some k)
section
variable {α : Type} {f : α → Value} {t e base p cap : Nat} {w w' : World} {L : List α} {F G : Nat → Prop}
theorem PostR.lt (h : PostR f t e w base p cap L F) : ∀ k, F k → base ≤ k ∧ k < w.heap.size := by
  obtain ⟨c, hv, H, B, _, _, _, _, hp, hc, hx, O, C, hF⟩ := h
  intro k hk
  rcases (hF k).1 hk with rfl | rfl | hk
  · exact ⟨hp, hx.lt⟩
  · exact ⟨hc, C.lt⟩
  · exact O.lt k hk
theorem PostR.keepG (h : PostR f t e w base p cap L F) (E : Gr w w' G) (hd : Dj F G) : PostR f t e w' base p cap L F := by
  obtain ⟨c, hv, H, B, h1, h2, h3, h4, hp, hc, hx, O, C, hF⟩ := h
  exact ⟨c, hv, H, B, h1, h2, h3, h4, hp, hc, hx.keepG E (hd p ((hF p).2 (.inl rfl))), O.keepG E (fun k hk => hd k ((hF k).2 (.inr (.inr hk)))), C.keepG E (hd c ((hF c).2 (.inr (.inl rfl)))), hF⟩
theorem PostR.mono {base' : Nat} (h : PostR f t e w base p cap L F) (hb : base' ≤ base) : PostR f t e w base' p cap L F := by
  obtain ⟨c, hv, H, B, h1, h2, h3, h4, hp, hc, hx, O, C, hF⟩ := h
  exact ⟨c, hv, H, B, h1, h2, h3, h4, Nat.le_trans hb hp, Nat.le_trans hb hc, hx, O.mono hb, C, hF⟩
/-- what is there behind a turn of the post's own blocks -/
theorem PostR.turn {c : Nat} {hv hv' : Value} {H' B' : List α} {w : World} {L' : List α} (hF : ∀ k, F k ↔ k = p ∨ k = c ∨ hv.ownBlock = some k) (E : Gr2 w w' (some c) (some p)) (hx : Bx w' p t [.chan (some c), hv']) (O : Own w' base e 1 hv' H'.length (H'.map f)) (C : ChC w' c cap (B'.map f)) (hL : H' ++ B' = L') (hl : H'.length ≤ 1) (hcap : L'.length ≤ cap) (hcm : cap ≤ 1000) (hp : base ≤ p) (hc : base ≤ c) (hm : FrO hv hv' w.heap.size) :
    Gr w w' F ∧ ∃ F', PostR f t e w' base p cap L' F' ∧ NewF w.heap.size F F' := by
  refine ⟨(Gr.of2 E).mono fun k _ hk => ?_, fun k => k = p ∨ k = c ∨ hv'.ownBlock = some k, ⟨c, hv', H', B', hL, hl, by rw [← hL] at hcap; simpa using hcap, hcm, hp, hc, hx, O, C, fun k => Iff.rfl⟩, fun k hk => ?_⟩
  · rcases hk with hk | hk
    · injection hk with hk; exact (hF k).2 (.inr (.inl hk.symm))
    · injection hk with hk; exact (hF k).2 (.inl hk.symm)
  · rcases hk with hk | hk | hk
    · exact .inl ((hF k).2 (.inl hk))
    · exact .inl ((hF k).2 (.inr (.inl hk)))
    · rcases hm with hm | hm
      · exact .inl ((hF k).2 (.inr (.inr (hm ▸ hk))))
      · exact .inr (hm k hk)
/-- what is put, if there is room -/
def postL {α : Type} (cap : Nat) (L : List α) (x : α) : List α := if L.length < cap then L ++ [x] else L
end
end Go.Gx

/- Closed facts on the types and functions of the translation, laid by a program. -/
namespace Go.Proofs.Ytmhdbphpmgjpcaa
open Go.Gx

theorem us3 : (Try.prog.underlying 3).isSome = true := by kernel_rfl
theorem one3 : oneT Try.prog 3 = true := by kernel_rfl
theorem size3 : (Try.prog.info? 3).map (·.size) = some 1 := by kernel_rfl
theorem zero3 : zeroT Try.prog 3 = some (Value.int .i64 0) := by kernel_rfl
theorem one4 : oneT Try.prog 4 = true := by kernel_rfl
theorem size4 : (Try.prog.info? 4).map (·.size) = some 1 := by kernel_rfl
theorem zero4 : zeroT Try.prog 4 = some (Value.bool false) := by kernel_rfl
theorem us5 : (Try.prog.underlying 5).isSome = true := by kernel_rfl
theorem one9 : oneT Try.prog 9 = true := by kernel_rfl
theorem zero9 : zeroT Try.prog 9 = some (Value.string (bs [])) := by kernel_rfl
theorem slt22 : SlT Try.prog 22 5 (Value.int .u8 0) 1 1 := ⟨Try.underlying22, by kernel_rfl, rfl, by decide⟩
theorem one24 : oneT Try.prog 24 = true := by kernel_rfl
theorem ptrt24 : Try.prog.underlying 24 = some (.pointer (Try.prog.pointee 24)) := by kernel_rfl
theorem one26 : oneT Try.prog 26 = true := by kernel_rfl
theorem slt26 : SlT Try.prog 26 9 (Value.string (bs [])) 1 16 := ⟨Try.underlying26, by kernel_rfl, rfl, by decide⟩
theorem size26 : (Try.prog.info? 26).map (·.size) = some 1 := by kernel_rfl
theorem slt45 : SlT Try.prog 45 46 (Value.int .u16 0) 1 2 := ⟨Try.underlying45, by kernel_rfl, rfl, by decide⟩
theorem us46 : (Try.prog.underlying 46).isSome = true := by kernel_rfl
theorem one46 : oneT Try.prog 46 = true := by kernel_rfl
theorem size46 : (Try.prog.info? 46).map (·.size) = some 1 := by kernel_rfl
theorem slt49 : SlT Try.prog 49 54 (Value.slice none 0 0) 1 24 := ⟨Try.underlying49, by kernel_rfl, rfl, by decide⟩
theorem ptrt50 : Try.prog.underlying 50 = some (.pointer (Try.prog.pointee 50)) := by kernel_rfl
theorem one54 : oneT Try.prog 54 = true := by kernel_rfl
theorem slt54 : SlT Try.prog 54 46 (Value.int .u16 0) 1 2 := ⟨Try.underlying54, by kernel_rfl, rfl, by decide⟩
theorem size54 : (Try.prog.info? 54).map (·.size) = some 1 := by kernel_rfl
theorem agg56 : aggT Try.prog 56 = some 2 := by kernel_rfl
theorem fld56_0 : fieldT Try.prog 56 0 = some 0 := by kernel_rfl
theorem fld56_1 : fieldT Try.prog 56 1 = some 1 := by kernel_rfl
theorem size56 : (Try.prog.info? 56).map (·.size) = some 2 := by kernel_rfl
theorem zero56 : zeroT Try.prog 56 = some (Value.agg #[(Value.slice none 0 0), (Value.slice none 0 0)]) := by kernel_rfl
theorem one57 : oneT Try.prog 57 = true := by kernel_rfl
theorem slt57 : SlT Try.prog 57 56 (Value.agg #[(Value.slice none 0 0), (Value.slice none 0 0)]) 2 48 := ⟨Try.underlying57, by kernel_rfl, rfl, by decide⟩
theorem fld59_0 : fieldT Try.prog 59 0 = some 0 := by kernel_rfl
theorem fld59_1 : fieldT Try.prog 59 1 = some 1 := by kernel_rfl
theorem us61 : (Try.prog.underlying 61).isSome = true := by kernel_rfl
theorem zero61 : zeroT Try.prog 61 = some (Value.int .u64 0) := by kernel_rfl
theorem one124 : oneT Try.prog 124 = true := by kernel_rfl
theorem fld126_0 : fieldT Try.prog 126 0 = some 0 := by kernel_rfl
theorem fld126_1 : fieldT Try.prog 126 1 = some 1 := by kernel_rfl
theorem one131 : oneT Try.prog 131 = true := by kernel_rfl
theorem one132 : oneT Try.prog 132 = true := by kernel_rfl
theorem slt132 : SlT Try.prog 132 137 (Value.agg #[(Value.slice none 0 0), (Value.slice none 0 0), (Value.pointer none)]) 3 56 := ⟨Try.underlying132, by kernel_rfl, rfl, by decide⟩
theorem size132 : (Try.prog.info? 132).map (·.size) = some 1 := by kernel_rfl
theorem fld134_0 : fieldT Try.prog 134 0 = some 0 := by kernel_rfl
theorem fld134_1 : fieldT Try.prog 134 1 = some 1 := by kernel_rfl
theorem fld137_0 : fieldT Try.prog 137 0 = some 0 := by kernel_rfl
theorem fld137_2 : fieldT Try.prog 137 2 = some 2 := by kernel_rfl
theorem us184 : (Try.prog.underlying 184).isSome = true := by kernel_rfl
theorem one244 : oneT Try.prog 244 = true := by kernel_rfl
theorem size244 : (Try.prog.info? 244).map (·.size) = some 1 := by kernel_rfl
theorem zero244 : zeroT Try.prog 244 = some (Value.int .u64 0) := by kernel_rfl
theorem ok17 : callOk Try.prog 17 = true := by kernel_rfl
theorem ok18 : callOk Try.prog 18 = true := by kernel_rfl
theorem ok19 : callOk Try.prog 19 = true := by kernel_rfl
theorem ok23 : callOk Try.prog 23 = true := by kernel_rfl
theorem ok31 : callOk Try.prog 31 = true := by kernel_rfl
theorem ok32 : callOk Try.prog 32 = true := by kernel_rfl
theorem ok33 : callOk Try.prog 33 = true := by kernel_rfl
theorem ok34 : callOk Try.prog 34 = true := by kernel_rfl
theorem ok35 : callOk Try.prog 35 = true := by kernel_rfl
theorem ok37 : callOk Try.prog 37 = true := by kernel_rfl
theorem ok40 : callOk Try.prog 40 = true := by kernel_rfl
theorem ok41 : callOk Try.prog 41 = true := by kernel_rfl
theorem ok44 : callOk Try.prog 44 = true := by kernel_rfl
theorem ok49 : callOk Try.prog 49 = true := by kernel_rfl
theorem ok76 : callOk Try.prog 76 = true := by kernel_rfl
theorem ok77 : callOk Try.prog 77 = true := by kernel_rfl
theorem ok78 : callOk Try.prog 78 = true := by kernel_rfl
theorem ok79 : callOk Try.prog 79 = true := by kernel_rfl
theorem ok81 : callOk Try.prog 81 = true := by kernel_rfl
theorem ok82 : callOk Try.prog 82 = true := by kernel_rfl
theorem ok86 : callOk Try.prog 86 = true := by kernel_rfl
theorem ok87 : callOk Try.prog 87 = true := by kernel_rfl
theorem ok90 : callOk Try.prog 90 = true := by kernel_rfl
theorem ok91 : callOk Try.prog 91 = true := by kernel_rfl
theorem ok115 : callOk Try.prog 115 = true := by kernel_rfl
theorem ok116 : callOk Try.prog 116 = true := by kernel_rfl
theorem ok117 : callOk Try.prog 117 = true := by kernel_rfl
theorem ok132 : callOk Try.prog 132 = true := by kernel_rfl
theorem ok133 : callOk Try.prog 133 = true := by kernel_rfl
theorem ok134 : callOk Try.prog 134 = true := by kernel_rfl
theorem ok135 : callOk Try.prog 135 = true := by kernel_rfl
theorem ok147 : callOk Try.prog 147 = true := by kernel_rfl
theorem ok148 : callOk Try.prog 148 = true := by kernel_rfl
theorem ok151 : callOk Try.prog 151 = true := by kernel_rfl
theorem ok153 : callOk Try.prog 153 = true := by kernel_rfl
theorem ok154 : callOk Try.prog 154 = true := by kernel_rfl
theorem ok155 : callOk Try.prog 155 = true := by kernel_rfl
theorem ok156 : callOk Try.prog 156 = true := by kernel_rfl
theorem ok157 : callOk Try.prog 157 = true := by kernel_rfl
theorem ok158 : callOk Try.prog 158 = true := by kernel_rfl
theorem ok159 : callOk Try.prog 159 = true := by kernel_rfl
theorem ok160 : callOk Try.prog 160 = true := by kernel_rfl
theorem ok161 : callOk Try.prog 161 = true := by kernel_rfl
theorem ok163 : callOk Try.prog 163 = true := by kernel_rfl
theorem ok173 : callOk Try.prog 173 = true := by kernel_rfl
theorem ok174 : callOk Try.prog 174 = true := by kernel_rfl
theorem ok175 : callOk Try.prog 175 = true := by kernel_rfl
theorem ok176 : callOk Try.prog 176 = true := by kernel_rfl
theorem ok177 : callOk Try.prog 177 = true := by kernel_rfl
theorem ok181 : callOk Try.prog 181 = true := by kernel_rfl
theorem mixed : Try.prog.follows .mixedOrders = true := by kernel_rfl
end Go.Proofs.Ytmhdbphpmgjpcaa

/- Walks, written by a program: what each function of the translation hands back. -/
namespace Go.Proofs.Ytmhdbphpmgjpcaa
open Go.Gx Go.RowKit
attribute [local irreducible] wpList wpStill Code.wp Calls

theorem New_s (n : Int) (w : World) (hn : -9223372036854775808 ≤ n ∧ n ≤ 9223372036854775807) : Ret Try.prog 17 #[(Value.int .i64 n)] w (fun v' w' => Below w.heap.size w w' ∧ ∃ p c, v' = ptr p 0 ∧ w.heap.size ≤ p ∧ w.heap.size ≤ c ∧ Bx w' p 126 [.chan (some c), .slice none 0 0] ∧ ChC w' c (min (max n 0) 1000).toNat []) := by
 have hb := Below.refl w.heap.size w
 refine enter (N := 9) Try.func17 rfl rfl (by simp) fun a0 hN hd hA => ?_
 have s0 : a0.tmps.getD 0 undef = (Value.int .i64 n) := hA 0 (by simp)
 clear hA
 refine seq_any fun K1 hK1 => ?_
 refine one_reg ?_
 refine op_assign rfl ?_
 refine reg_nil ?_
 refine hK1 _ _ ?_
 refine seq_any fun K2 hK2 => ?_
 refine one_reg ?_
 refine op_move (ev_base hN rfl s0) ?_
 refine op_max (r := (max n 0)) (ev_hit hN rfl) rfl (by omega) ?_
 refine op_min (r := (((min (max n 0) 1000).toNat : Nat) : Int)) (ev_hit hN rfl) rfl (by omega) ?_
 refine op_mkchan (n := (min (max n 0) 1000).toNat) Try.underlying124 (by_ := 16) (by kernel_rfl) (ev_hit hN rfl) (by omega) (by decide) ?_
 intro w3 c5 lo_c5 hi_c5 hC6 E4
 have z_w3 := E4.size
 have hb := below_step0 hb E4 hb.size
 refine op_build (pv := [(0, (Value.chan (some c5)))]) (v := (Value.agg #[(Value.chan (some c5)), (Value.slice none 0 0)])) ⟨rfl, (ev_hit hN rfl), trivial⟩ (by kernel_rfl) ?_
 refine op_box (cs := [(Value.chan (some c5)), (Value.slice none 0 0)]) (ev_hit hN rfl) rfl ?_
 intro w7 b8 lo_b8 hi_b8 hB10 E9
 have z_w7 := E9.size
 have hC6 := hC6.keep0 E9
 have hb := below_step0 hb E9 hb.size
 refine op_assign (ev_hit hN rfl) ?_
 refine reg_nil ?_
 refine hK2 _ _ ?_
 refine wp_ret ?_
 refine ret1 rfl hd (ev_hit hN rfl) ⟨_, rfl, ?_⟩
 -- path
 exact ⟨hb, b8, c5, rfl, by omega, by omega, hB10, hC6⟩

theorem Len_s (H B : List (List UInt8)) (hv : Value) (base p c cap : Nat) (w : World) (hbase : base ≤ w.heap.size) (hH : H.length ≤ 1) (hcap : H.length + B.length ≤ cap) (hcm : cap ≤ 1000) (hx : Bx w p 126 [.chan (some c), hv]) (O : Own w base 9 1 hv H.length (H.map sv)) (hC : ChC w c cap (B.map sv)) : Ret Try.prog 23 #[(ptr p 0)] w (fun v' w' => Below w.heap.size w w' ∧ v' = .int .i64 ((H.length + B.length : Nat) : Int)) := by
 have hb := Below.refl w.heap.size w
 refine enter (N := 16) Try.func23 rfl rfl (by simp) fun a0 hN hd hA => ?_
 have s0 : a0.tmps.getD 0 undef = (ptr p 0) := hA 0 (by simp)
 clear hA
 refine seq_any fun K11 hK11 => ?_
 refine one_reg ?_
 refine op_assign rfl ?_
 refine reg_nil ?_
 refine hK11 _ _ ?_
 refine seq_any fun K12 hK12 => ?_
 refine seq_any fun K13 hK13 => ?_
 refine one_reg ?_
 refine op_move (ev_base hN rfl s0) ?_
 refine op_peq_some ptrt24 (ev_hit hN rfl) rfl ?_
 refine reg_nil ?_
 refine hK13 _ _ ?_
 refine wp_cond_false (ev_hit hN rfl) ?_
 refine wp_skip ?_
 refine hK12 _ _ ?_
 refine seq_any fun K14 hK14 => ?_
 refine reg_still mixed (by kernel_rfl) ?_
 intro w16 E15
 have z_w16 := E15.size
 have hx := hx.keep0 E15
 have O := O.keep0 E15
 have hC := hC.keep0 E15
 have hb := below_step0 hb E15 hb.size
 refine st_step rfl (fun _ h9 => op_move (ev_base hN rfl s0) h9) ?_
 refine st_step rfl (fun _ h9 => op_nil (ev_hit hN rfl) h9) ?_
 refine st_step rfl (fun _ h9 => op_field fld126_1 (ev_hit hN rfl) h9) ?_
 refine st_step rfl (fun _ h9 => op_load1 (v := hv) one26 (ev_hit hN rfl) (hx.cell rfl) h9) ?_
 refine st_step rfl (fun _ h9 => op_len_rd Try.underlying26 (ev_hit hN rfl) O.rdw h9) ?_
 refine st_step rfl (fun _ h9 => op_move (ev_base hN rfl s0) h9) ?_
 refine st_step rfl (fun _ h9 => op_nil (ev_hit hN rfl) h9) ?_
 refine st_step rfl (fun _ h9 => op_field fld126_0 (ev_hit hN rfl) h9) ?_
 refine st_step rfl (fun _ h9 => op_load1 (v := (Value.chan (some c))) one124 (ev_hit hN rfl) (hx.cell rfl) h9) ?_
 refine st_step rfl (fun _ h9 => op_len_chanL Try.underlying124 (ev_hit hN rfl) hC h9) ?_
 refine st_step rfl (fun _ h9 => op_add (ev_hit hN rfl) (ev_hit hN rfl) (add64 (by omega)) h9) ?_
 refine st_step rfl (fun _ h9 => op_assign (ev_hit hN rfl) h9) ?_
 refine st_nil ?_
 refine hK14 _ _ ?_
 refine wp_ret ?_
 refine ret1 rfl hd (ev_hit hN rfl) ⟨_, rfl, ?_⟩
 -- path
 exact ⟨hb, congrArg (Value.int .i64) (by omega)⟩

theorem Put_s (x : List UInt8) (H B : List (List UInt8)) (hv : Value) (base p c cap : Nat) (w : World) (hbase : base ≤ w.heap.size) (hH : H.length ≤ 1) (hcap : H.length + B.length ≤ cap) (hcm : cap ≤ 1000) (hx : Bx w p 126 [.chan (some c), hv]) (O : Own w base 9 1 hv H.length (H.map sv)) (hC : ChC w c cap (B.map sv)) : Ret Try.prog 18 #[(ptr p 0), (Value.string (bs x))] w (fun v' w' => w.grownBy w' (some c) ∧ v' = .bool (decide (H.length + B.length < cap)) ∧ ChC w' c cap ((if H.length + B.length < cap then B ++ [x] else B).map sv)) := by
 have hb := grown_refl w (some c)
 refine enter (N := 25) Try.func18 rfl rfl (by simp) fun a0 hN hd hA => ?_
 have s0 : a0.tmps.getD 0 undef = (ptr p 0) := hA 0 (by simp)
 have s1 : a0.tmps.getD 1 undef = (Value.string (bs x)) := hA 1 (by simp)
 clear hA
 refine seq_any fun K17 hK17 => ?_
 refine one_reg ?_
 refine op_assign rfl ?_
 refine reg_nil ?_
 refine hK17 _ _ ?_
 refine seq_any fun K18 hK18 => ?_
 refine seq_any fun K19 hK19 => ?_
 refine reg_split (hd := [_, _, _, _, _, _, _, _, _]) (tl := _) 9 mixed (by kernel_rfl) rfl rfl ?_
 refine any_quiet (Φ := phiL [(fun uz _ => uz = (ptr p 0)), (fun uz _ => uz = (Value.bool false)), (fun uz _ => uz = (Value.bool false)), (fun uz _ => uz = (ptr p 0)), (fun uz _ => uz = (Value.int .i64 (((H.length + B.length) : Nat) : Int))), (fun uz _ => uz = (ptr p 0)), (fun uz _ => uz = (ptr p 0)), (fun uz _ => uz = (ptr p 0)), (fun uz _ => uz = (Value.chan (some c)))]) (by kernel_rfl) (by kernel_rfl) (by kernel_rfl) hN (StL.get (StL.eq (StL.eq (StL.eq (StL.eq (StL.eq (StL.eq (StL.eq (StL.eq (StL.eq (StL.nil _))))))))))) (ObL.get (s := 9) (ObL.cons ?_ (ObL.cons ?_ (ObL.cons ?_ (ObL.cons ?_ (ObL.cons ?_ (ObL.cons ?_ (ObL.cons ?_ (ObL.cons ?_ (ObL.cons ?_ (ObL.nil)))))))))) rfl) ?_
 ·
  intro aA wA hNA hRA hbsA hdpA
  have qA_0 := (hbsA 0 rfl).trans (sl_base hN rfl s0)
  refine op_move (ev_base hNA rfl qA_0) ?_
  exact obN_end rfl rfl (grown_refl _ _)
 ·
  intro aA wA hNA hRA hbsA hdpA
  have qA_5 : Sl aA 5 (ptr p 0) := hdpA 0 _ 5 (by kernel_rfl) rfl rfl
  refine op_peq_some ptrt24 (ev_base hNA rfl qA_5) rfl ?_
  exact obN_end rfl rfl (grown_refl _ _)
 ·
  intro aA wA hNA hRA hbsA hdpA
  have qA_6 : Sl aA 6 (Value.bool false) := hdpA 1 _ 6 (by kernel_rfl) rfl rfl
  refine op_move (ev_base hNA rfl qA_6) ?_
  exact obN_end rfl rfl (grown_refl _ _)
 ·
  intro aA wA hNA hRA hbsA hdpA
  have qA_0 := (hbsA 0 rfl).trans (sl_base hN rfl s0)
  have qA_7 : Sl aA 7 (Value.bool false) := hdpA 2 _ 7 (by kernel_rfl) rfl rfl
  refine g_true (j := 2) (dj := 7) (b := false) rfl rfl rfl (ev_base hNA rfl qA_7) ?_
  refine op_move (ev_base hNA rfl qA_0) ?_
  exact obN_end rfl rfl (grown_refl _ _)
 ·
  intro aA wA hNA hRA hbsA hdpA
  have hRA : w.grownBy wA none := hRA
  have z_wA := hRA.size
  have hx := hx.keep0 hRA
  have O := O.keep0 hRA
  have hC := hC.keep0 hRA
  have hb := grow_step0 hb hRA
  have qA_8 : Sl aA 8 (ptr p 0) := hdpA 3 _ 8 (by kernel_rfl) rfl rfl
  have qA_7 : Sl aA 7 (Value.bool false) := hdpA 2 _ 7 (by kernel_rfl) rfl rfl
  clear hbsA hdpA
  refine g_true (j := 2) (dj := 7) (b := false) rfl rfl rfl (ev_base hNA rfl qA_7) ?_
  refine op_fn (vs := [(ptr p 0)]) ok23 ⟨(ev_base hNA rfl qA_8), trivial⟩ (Len_s H B hv _ _ _ _ _ (by omega) (by first | assumption | (simp; done) | (simp; omega) | omega) (by first | assumption | (simp; done) | (simp; omega) | omega) (by first | assumption | (simp; done) | (simp; omega) | omega) hx O hC) ?_
  rintro _ w20 ⟨E21, rfl⟩
  have E21 := grown_of_below E21
  have z_w20 := E21.size
  have hx := hx.keep0 E21
  have O := O.keep0 E21
  have hC := hC.keep0 E21
  have hb := grow_step0 hb E21
  exact obN_end rfl rfl (E21)
 ·
  intro aA wA hNA hRA hbsA hdpA
  have qA_0 := (hbsA 0 rfl).trans (sl_base hN rfl s0)
  have qA_7 : Sl aA 7 (Value.bool false) := hdpA 2 _ 7 (by kernel_rfl) rfl rfl
  refine g_true (j := 2) (dj := 7) (b := false) rfl rfl rfl (ev_base hNA rfl qA_7) ?_
  refine op_move (ev_base hNA rfl qA_0) ?_
  exact obN_end rfl rfl (grown_refl _ _)
 ·
  intro aA wA hNA hRA hbsA hdpA
  have qA_10 : Sl aA 10 (ptr p 0) := hdpA 5 _ 10 (by kernel_rfl) rfl rfl
  have qA_7 : Sl aA 7 (Value.bool false) := hdpA 2 _ 7 (by kernel_rfl) rfl rfl
  refine g_true (j := 2) (dj := 7) (b := false) rfl rfl rfl (ev_base hNA rfl qA_7) ?_
  refine op_nil (ev_base hNA rfl qA_10) ?_
  exact obN_end rfl rfl (grown_refl _ _)
 ·
  intro aA wA hNA hRA hbsA hdpA
  have qA_11 : Sl aA 11 (ptr p 0) := hdpA 6 _ 11 (by kernel_rfl) rfl rfl
  have qA_7 : Sl aA 7 (Value.bool false) := hdpA 2 _ 7 (by kernel_rfl) rfl rfl
  refine g_true (j := 2) (dj := 7) (b := false) rfl rfl rfl (ev_base hNA rfl qA_7) ?_
  refine op_field fld126_0 (ev_base hNA rfl qA_11) ?_
  exact obN_end rfl rfl (grown_refl _ _)
 ·
  intro aA wA hNA hRA hbsA hdpA
  have hRA : w.grownBy wA none := hRA
  have z_wA := hRA.size
  have hx := hx.keep0 hRA
  have O := O.keep0 hRA
  have hC := hC.keep0 hRA
  have hb := grow_step0 hb hRA
  have qA_12 : Sl aA 12 (ptr p 0) := hdpA 7 _ 12 (by kernel_rfl) rfl rfl
  have qA_7 : Sl aA 7 (Value.bool false) := hdpA 2 _ 7 (by kernel_rfl) rfl rfl
  clear hbsA hdpA
  refine g_true (j := 2) (dj := 7) (b := false) rfl rfl rfl (ev_base hNA rfl qA_7) ?_
  refine op_load1 (v := (Value.chan (some c))) one124 (ev_base hNA rfl qA_12) (hx.cell rfl) ?_
  exact obN_end rfl rfl (grown_refl _ _)
 ·
  intro a22 w22 hN22 hd22 hbs22 hph22 E22
  have hd22 := hd22.trans hd
  have s22_0 := (hbs22 0 rfl).trans (sl_base hN rfl s0)
  have s22_1 := (hbs22 1 rfl).trans (sl_base hN rfl s1)
  have s22_4 := (hbs22 4 rfl).trans (sl_hit hN rfl)
  have s22_7 : Sl a22 7 (Value.bool false) := hph22 2 _ 7 rfl rfl
  have s22_9 : Sl a22 9 (Value.int .i64 (((H.length + B.length) : Nat) : Int)) := hph22 4 _ 9 rfl rfl
  have s22_13 : Sl a22 13 (Value.chan (some c)) := hph22 8 _ 13 rfl rfl
  clear hbs22 hph22
  have E22 : w.grownBy w22 none := E22
  have z_w22 := E22.size
  have hx := hx.keep0 E22
  have O := O.keep0 E22
  have hC := hC.keep0 E22
  have hb := grow_step0 hb E22
  refine split_end ?_
  refine from_seq (tl := [_, _, _]) (by decide) (by kernel_rfl) rfl ?_
  refine g_true (j := 2) (dj := 7) (b := false) rfl rfl rfl (ev_base hN22 rfl s22_7) ?_
  refine op_cap_chan Try.underlying124 (ev_base hN22 rfl s22_13) hC ?_
  refine g_true (j := 2) (dj := 7) (b := false) rfl rfl rfl (ev_base hN22 rfl s22_7) ?_
  refine op_geq (ev_base hN22 rfl s22_9) (ev_hit hN22 rfl) (fun c15 => ?_) (fun c15 => ?_)
  · -- 15T
   refine op_pick_f (ev_base hN22 rfl s22_7) (ev_hit hN22 rfl) ?_
   refine reg_nil ?_
   refine hK19 _ _ ?_
   refine wp_cond_true (ev_hit hN22 rfl) ?_
   refine seq_any fun K23 hK23 => ?_
   refine one_reg ?_
   refine op_assign rfl ?_
   refine reg_nil ?_
   refine hK23 _ _ ?_
   refine wp_ret (then_ret ( ?_))
   refine ret1 rfl hd22 (ev_hit hN22 rfl) ⟨_, rfl, ?_⟩
   -- path 15T
   exact ⟨hb, congrArg Value.bool (by first | exact (decide_eq_true (by omega)).symm | exact (decide_eq_false (by omega)).symm), by (first | rw [if_pos (by omega)] | rw [if_neg (by omega)]); exact hC⟩
  · -- 15F
   refine op_pick_f (ev_base hN22 rfl s22_7) (ev_hit hN22 rfl) ?_
   refine reg_nil ?_
   refine hK19 _ _ ?_
   refine wp_cond_false (ev_hit hN22 rfl) ?_
   refine wp_skip ?_
   refine hK18 _ _ ?_
   refine seq_any fun K24 hK24 => ?_
   refine seq_any fun K25 hK25 => ?_
   refine one_reg ?_
   refine op_move (ev_base hN22 rfl s22_0) ?_
   refine op_nil (ev_hit hN22 rfl) ?_
   refine op_field fld126_0 (ev_hit hN22 rfl) ?_
   refine op_load1 (v := (Value.chan (some c))) one124 (ev_hit hN22 rfl) (hx.cell rfl) ?_
   refine reg_nil ?_
   refine hK25 _ _ ?_
   refine one_reg ?_
   refine op_move (ev_base hN22 rfl s22_1) ?_
   refine reg_nil ?_
   refine hK24 _ _ ?_
   refine seq_any fun K26 hK26 => ?_
   have hC_old := hC
   refine reg_send zero9 (ev_hit hN22 rfl) (ev_hit hN22 rfl) hC (fun w27 hr30 hC29 E28 => ?_) (fun hr30 => ?_)
   · -- 22T
    have hr30 : B.length < cap := by simpa using hr30
    have hC29 : ChC w27 c cap ((B ++ [x]).map sv) := by simpa [sv] using hC29
    have z_w27 := E28.size
    have hx := hx.keepC hC_old E28
    have O := O.keepC hC_old E28
    have hb := grown_trans hb E28
    refine op_extract (ev_hit hN22 rfl) rfl ?_
    refine op_bin (v := .bool true) (ev_hit hN22 rfl) rfl (by rw [binOp_eql]; rfl) ?_
    refine reg_nil ?_
    refine hK26 _ _ ?_
    refine wp_block ?_
    refine wp_cond_true (ev_hit hN22 rfl) ?_
    refine seq_any fun K31 hK31 => ?_
    refine one_reg ?_
    refine op_assign rfl ?_
    refine reg_nil ?_
    refine hK31 _ _ ?_
    refine wp_ret (blk_ret ( ?_))
    refine ret1 rfl hd22 (ev_hit hN22 rfl) ⟨_, rfl, ?_⟩
    -- path 15F 22T
    exact ⟨hb, congrArg Value.bool (by first | exact (decide_eq_true (by omega)).symm | exact (decide_eq_false (by omega)).symm), by (first | rw [if_pos (by omega)] | rw [if_neg (by omega)]); exact hC29⟩
   · -- 22F
    have hr30 : cap ≤ B.length := by simpa using hr30
    exfalso; omega

theorem Head_s (H B : List (List UInt8)) (hv : Value) (base p c cap : Nat) (w : World) (hbase : base ≤ w.heap.size) (hH : H.length ≤ 1) (hcap : H.length + B.length ≤ cap) (hcm : cap ≤ 1000) (hx : Bx w p 126 [.chan (some c), hv]) (O : Own w base 9 1 hv H.length (H.map sv)) (hC : ChC w c cap (B.map sv)) : Ret Try.prog 19 #[(ptr p 0)] w (fun v' w' => Gr2 w w' (some c) (some p) ∧ v' = .tuple #[(Value.string (bs ((H ++ B).getD 0 []))), .bool (decide (0 < (H ++ B).length))] ∧ ∃ (hv' : Value) (H' B' : List (List UInt8)), Bx w' p 126 [.chan (some c), hv'] ∧ Own w' base 9 1 hv' H'.length (H'.map sv) ∧ ChC w' c cap (B'.map sv) ∧ H' ++ B' = (H ++ B) ∧ H'.length ≤ 1 ∧ FrO hv hv' w.heap.size ∧ (0 < (H ++ B).length → 0 < H'.length)) := by
 have hi_p := hx.lt
 have hi_c := hC.lt
 have hb := Gr2.refl w (some c) (some p)
 refine enter (N := 35) Try.func19 rfl rfl (by simp) fun a0 hN hd hA => ?_
 have s0 : a0.tmps.getD 0 undef = (ptr p 0) := hA 0 (by simp)
 clear hA
 refine seq_any fun K32 hK32 => ?_
 refine one_reg ?_
 refine op_assign rfl ?_
 refine op_assign rfl ?_
 refine reg_nil ?_
 refine hK32 _ _ ?_
 refine seq_any fun K33 hK33 => ?_
 refine one_reg ?_
 refine op_assign rfl ?_
 refine reg_nil ?_
 refine hK33 _ _ ?_
 refine seq_any fun K34 hK34 => ?_
 refine seq_any fun K35 hK35 => ?_
 refine one_reg ?_
 refine op_move (ev_base hN rfl s0) ?_
 refine op_peq_some ptrt24 (ev_hit hN rfl) rfl ?_
 refine reg_nil ?_
 refine hK35 _ _ ?_
 refine wp_cond_false (ev_hit hN rfl) ?_
 refine wp_skip ?_
 refine hK34 _ _ ?_
 refine seq_any fun K36 hK36 => ?_
 refine seq_any fun K37 hK37 => ?_
 refine one_reg ?_
 refine op_move (ev_base hN rfl s0) ?_
 refine op_nil (ev_hit hN rfl) ?_
 refine op_field fld126_1 (ev_hit hN rfl) ?_
 refine op_load1 (v := hv) one26 (ev_hit hN rfl) (hx.cell rfl) ?_
 refine op_len_rd Try.underlying26 (ev_hit hN rfl) O.rdw ?_
 refine op_eql (ev_hit hN rfl) rfl (fun c14 => ?_) (fun c14 => ?_)
 · -- 14T
  refine reg_nil ?_
  refine hK37 _ _ ?_
  refine wp_cond_true (ev_hit hN rfl) ?_
  refine seq_any fun K38 hK38 => ?_
  refine one_reg ?_
  refine op_move (ev_base hN rfl s0) ?_
  refine op_nil (ev_hit hN rfl) ?_
  refine op_field fld126_0 (ev_hit hN rfl) ?_
  refine op_load1 (v := (Value.chan (some c))) one124 (ev_hit hN rfl) (hx.cell rfl) ?_
  refine reg_nil ?_
  refine hK38 _ _ ?_
  refine seq_any fun K39 hK39 => ?_
  have hC_old := hC
  refine reg_recv (f := sv) zero9 (ev_hit hN rfl) hC (fun y43 M44 w40 hL45 hC42 E41 => ?_) (fun hL45 => ?_)
  · -- 19T
   have z_w40 := E41.size
   have hx := hx.keepC hC_old E41
   have O := O.keepC hC_old E41
   have hb := hb.stepA E41
   refine op_extract (ev_hit hN rfl) rfl ?_
   refine op_bin (v := .bool true) (ev_hit hN rfl) rfl (by rw [binOp_eql]; rfl) ?_
   refine reg_nil ?_
   refine hK39 _ _ ?_
   refine wp_block ?_
   refine wp_cond_true (ev_hit hN rfl) ?_
   refine seq_any fun K46 hK46 => ?_
   refine one_reg ?_
   refine op_extract (ev_hit hN rfl) rfl ?_
   refine op_assign (ev_hit hN rfl) ?_
   refine reg_nil ?_
   refine hK46 _ _ ?_
   refine one_reg ?_
   refine op_move (ev_base hN rfl s0) ?_
   refine op_move (ev_hit hN rfl) ?_
   refine op_bslice (e := 9) (pv := [(0, (Value.string (bs y43)))]) (cs := [(Value.string (bs y43))]) ⟨rfl, (ev_hit hN rfl), trivial⟩ (by kernel_rfl) ?_
   intro w47 b48 lo_b48 hi_b48 hB50 E49
   have ne_b48_hv : hv.ownBlock ≠ some b48 := fun hh => by have := (O.lt _ hh).2; omega
   have z_w47 := E49.size
   have hx := hx.keep0 E49
   have O := O.keep0 E49
   have hC42 := hC42.keep0 E49
   have hb := hb.step0 E49
   refine op_nil (ev_hit hN rfl) ?_
   refine op_field fld126_1 (ev_hit hN rfl) ?_
   have hx_old := hx
   refine op_store (vs := [(Value.slice (some ⟨b48, 0, none⟩) 1 1)]) (cs' := [(Value.chan (some c)), (Value.slice (some ⟨b48, 0, none⟩) 1 1)]) size26 (ev_hit hN rfl) (ev_hit hN rfl) rfl rfl rfl hx (Nat.le_of_ble_eq_true rfl) rfl ?_
   intro w53 hx E54
   have z_w53 := E54.size
   have O := O.keepX hx_old E54 (by decide)
   have hC42 := hC42.keepB hx_old E54
   have hB50 := hB50.keep E54 (by simp; omega)
   have hb := hb.stepB E54
   refine reg_nil ?_
   refine hK36 _ _ ?_
   refine seq_any fun K55 hK55 => ?_
   refine one_reg ?_
   refine op_move (ev_base hN rfl s0) ?_
   refine op_nil (ev_hit hN rfl) ?_
   refine op_field fld126_1 (ev_hit hN rfl) ?_
   refine op_load1 (v := (Value.slice (some ⟨b48, 0, none⟩) 1 1)) one26 (ev_hit hN rfl) (hx.cell rfl) ?_
   refine op_index_rd slt26 (ev_hit hN rfl) (RdC.ofBx (sz := 1) (n := 1) hB50 rfl (by decide)) rfl (by omega) (by omega) ?_
   intro b56 o57 h0b56 h1b56 hc58
   refine op_load1 (v := (Value.string (bs y43))) one9 (ev_hit hN rfl) (by have := hc58 0 (Value.string (bs y43)) (by decide) rfl; simpa using this) ?_
   refine op_assign (ev_hit hN rfl) ?_
   refine op_assign rfl ?_
   refine reg_nil ?_
   refine hK55 _ _ ?_
   refine wp_ret ?_
   refine ret2 rfl hd (ev_hit hN rfl) (ev_hit hN rfl) ⟨_, rfl, ?_⟩
   -- path 14T 19T
   obtain rfl := List.length_eq_zero_iff.1 (show H.length = 0 by omega)
   subst hL45
   exact ⟨hb, rfl, _, [y43], M44, hx, (Own.ofBx (sz := 1) (n := 1) hB50 rfl (by decide) (by omega)).cast rfl rfl, hC42, rfl, Nat.le_refl _, FrO.new _ _ (fun k hk => by simp [Value.ownBlock] at hk; omega), fun _ => by simp⟩
  · -- 19F
   refine op_extract (ev_hit hN rfl) rfl ?_
   refine op_bin (v := .bool false) (ev_hit hN rfl) rfl (by rw [binOp_eql]; rfl) ?_
   refine reg_nil ?_
   refine hK39 _ _ ?_
   refine wp_block ?_
   refine wp_cond_false (ev_hit hN rfl) ?_
   refine seq_any fun K59 hK59 => ?_
   refine one_reg ?_
   refine op_move (ev_hit hN rfl) ?_
   refine op_assign (ev_hit hN rfl) ?_
   refine op_assign rfl ?_
   refine reg_nil ?_
   refine hK59 _ _ ?_
   refine wp_ret (blk_ret (then_ret ( ?_)))
   refine ret2 rfl hd (ev_hit hN rfl) (ev_hit hN rfl) ⟨_, rfl, ?_⟩
   -- path 14T 19F
   obtain rfl := List.length_eq_zero_iff.1 (show H.length = 0 by omega)
   subst hL45
   exact ⟨hb, rfl, hv, [], [], hx, O, hC, rfl, by simp, FrO.refl _ _, by simp⟩
 · -- 14F
  refine reg_nil ?_
  refine hK37 _ _ ?_
  refine wp_cond_false (ev_hit hN rfl) ?_
  refine wp_skip ?_
  refine hK36 _ _ ?_
  refine seq_any fun K60 hK60 => ?_
  refine one_reg ?_
  refine op_move (ev_base hN rfl s0) ?_
  refine op_nil (ev_hit hN rfl) ?_
  refine op_field fld126_1 (ev_hit hN rfl) ?_
  refine op_load1 (v := hv) one26 (ev_hit hN rfl) (hx.cell rfl) ?_
  refine op_index_rd slt26 (ev_hit hN rfl) O.rdw rfl (by omega) (by omega) ?_
  intro b61 o62 h0b61 h1b61 hc63
  refine op_load1 (v := (Value.string (bs (H.getD 0 [])))) one9 (ev_hit hN rfl) (by have := hc63 0 (Value.string (bs (H.getD 0 []))) (by decide) (el_sv (i := 0) (by omega) (by omega)); simpa using this) ?_
  refine op_assign (ev_hit hN rfl) ?_
  refine op_assign rfl ?_
  refine reg_nil ?_
  refine hK60 _ _ ?_
  refine wp_ret ?_
  refine ret2 rfl hd (ev_hit hN rfl) (ev_hit hN rfl) ⟨_, rfl, ?_⟩
  -- path 14F
  exact ⟨hb, by rw [← getD_front (by omega)]; rw [decide_eq_true (by simp; omega)]; first | done | rfl, hv, H, B, hx, O, hC, rfl, hH, FrO.refl _ _, fun _ => by omega⟩

end Go.Proofs.Ytmhdbphpmgjpcaa

/- Walks, written by a program: what each function of the translation hands back. -/
namespace Go.Proofs.Ytmhdbphpmgjpcaa
open Go.Gx Go.RowKit
attribute [local irreducible] wpList wpStill Code.wp Calls

end Go.Proofs.Ytmhdbphpmgjpcaa

/- Posts as objects: what is done with letters that wait, told of a list. -/
namespace Go.Proofs.Ytmhdbphpmgjpcaa
open Go.Gx Go.RowKit

theorem NewR_s (n : Int) (w : World) (hn : -9223372036854775808 ≤ n ∧ n ≤ 9223372036854775807) : Ret Try.prog 17 #[.int .i64 n] w (fun v' w' => Below w.heap.size w w' ∧ ∃ (p : Nat) (F : Nat → Prop), v' = ptr p 0 ∧ PostR sv 126 9 w' w.heap.size p (min (max n 0) 1000).toNat [] F) :=
  (New_s n w hn).mono fun v' w' h => by
    obtain ⟨E, p, c, rfl, hp, hc, hx, C⟩ := h
    exact ⟨E, p, _, rfl, c, _, [], [], rfl, by simp, by simp, by omega, hp, hc, hx, Own.nil _ _ _ _, C, fun k => Iff.rfl⟩
theorem PutR_s (x : List UInt8) {base p cap : Nat} {L : List (List UInt8)} {F : Nat → Prop} {w : World} (hb : base ≤ w.heap.size) (h : PostR sv 126 9 w base p cap L F) : Ret Try.prog 18 #[ptr p 0, (Value.string (bs x))] w (fun v' w' => Gr w w' F ∧ v' = .bool (decide (L.length < cap)) ∧ PostR sv 126 9 w' base p cap (postL cap L x) F) := by
  obtain ⟨c, hv, H, B, rfl, h2, h3, h4, hp, hc, hx, O, C, hF⟩ := h
  refine (Put_s x H B hv base p c cap w hb h2 h3 h4 hx O C).mono fun v' w' h => ?_
  obtain ⟨E, rfl, C2⟩ := h
  refine ⟨(Gr.of E).mono fun k _ hk => (hF k).2 (.inr (.inl (Option.some.inj hk).symm)), by rw [List.length_append], c, hv, H, _, ?_, h2, ?_, h4, hp, hc, hx.keepC C E, O.keepC C E, C2, hF⟩
  · unfold postL; rw [List.length_append]; split <;> simp
  · split
    · simp; omega
    · omega
theorem HeadR_s {base p cap : Nat} {L : List (List UInt8)} {F : Nat → Prop} {w : World} (hb : base ≤ w.heap.size) (h : PostR sv 126 9 w base p cap L F) : Ret Try.prog 19 #[ptr p 0] w (fun v' w' => Gr w w' F ∧ v' = .tuple #[(Value.string (bs (L.getD 0 []))), .bool (decide (0 < L.length))] ∧ ∃ F', PostR sv 126 9 w' base p cap L F' ∧ NewF w.heap.size F F') := by
  obtain ⟨c, hv, H, B, rfl, h2, h3, h4, hp, hc, hx, O, C, hF⟩ := h
  refine (Head_s H B hv base p c cap w hb h2 h3 h4 hx O C).mono fun v' w' h => ?_
  obtain ⟨E, rfl, hv', H', B', hx', O', C', he, hl, hm, _⟩ := h
  obtain ⟨E', r⟩ := PostR.turn hF E hx' O' C' he hl (by simp; omega) h4 hp hc hm
  exact ⟨E', rfl, r⟩
end Go.Proofs.Ytmhdbphpmgjpcaa

/- Walks, written by a program: what each function of the translation hands back. -/
namespace Go.Proofs.Ytmhdbphpmgjpcaa
open Go.Gx Go.RowKit
attribute [local irreducible] wpList wpStill Code.wp Calls

end Go.Proofs.Ytmhdbphpmgjpcaa

/- Posts as objects: copies. -/
namespace Go.Proofs.Ytmhdbphpmgjpcaa
open Go.Gx Go.RowKit

end Go.Proofs.Ytmhdbphpmgjpcaa

/- Small laws for walks, the twenty-eighth part: maps whose keys are whole numbers or texts, as lists of keys and values. -/
namespace Go.Gx
open Go.RowKit Go.MapKept

/-! ### plain lists of keys and values -/
theorem nodup_inj {α : Type} {l : List α} (h : l.Nodup) {i j : Nat} {a : α} (hi : l[i]? = some a) (hj : l[j]? = some a) : i = j := by
  obtain ⟨hi1, hi2⟩ := List.getElem?_eq_some_iff.1 hi
  obtain ⟨hj1, hj2⟩ := List.getElem?_eq_some_iff.1 hj
  have hp := List.pairwise_iff_getElem.1 h
  rcases Nat.lt_trichotomy i j with q | q | q
  · exact absurd (hi2.trans hj2.symm) (hp i j hi1 hj1 q)
  · exact q
  · exact absurd (hj2.trans hi2.symm) (hp j i hj1 hi1 q)
section
variable {K V : Type} [DecidableEq K]
/-- Where a key stands, and its value. -/
def mlook : List (K × V) → K → Option (Nat × V)
  | [], _ => none
  | (a, v) :: t, k => if k = a then some (0, v) else (mlook t k).map fun p => (p.1 + 1, p.2)
def mget (es : List (K × V)) (k : K) : Option V := (mlook es k).map (·.2)
def mput (es : List (K × V)) (k : K) (v : V) : List (K × V) := match mlook es k with
  | some (j, _) => es.set j (k, v)
  | none => es ++ [(k, v)]
theorem mlook_some {es : List (K × V)} {k : K} {j : Nat} {v : V} (h : mlook es k = some (j, v)) : es[j]? = some (k, v) := by
  induction es generalizing j with
  | nil => cases h
  | cons p t ih =>
    obtain ⟨a, u⟩ := p
    unfold mlook at h
    split at h
    · rename_i e; cases h; subst e; rfl
    · cases hq : mlook t k with
      | none => rw [hq] at h; cases h
      | some q => obtain ⟨j', v'⟩ := q; rw [hq] at h; cases h; simpa using ih hq
theorem mlook_none {es : List (K × V)} {k : K} : mlook es k = none ↔ k ∉ es.map Prod.fst := by
  induction es with
  | nil => simp [mlook]
  | cons p t ih =>
    obtain ⟨a, u⟩ := p
    unfold mlook
    split
    · rename_i e; simp [e]
    · rename_i e; simp [ih, e]
theorem mget_mem {es : List (K × V)} {k : K} {v : V} (h : mget es k = some v) : (k, v) ∈ es := by
  unfold mget at h
  obtain ⟨⟨j, u⟩, hq, rfl⟩ := Option.map_eq_some_iff.1 h
  exact List.mem_of_getElem? (mlook_some hq)
theorem mget_of_mem {es : List (K × V)} {k : K} {v : V} (hn : (es.map Prod.fst).Nodup) (h : (k, v) ∈ es) : mget es k = some v := by
  induction es with
  | nil => cases h
  | cons p t ih =>
    obtain ⟨a, u⟩ := p
    simp only [List.map_cons, List.nodup_cons] at hn
    unfold mget mlook
    split
    · rename_i e
      subst e
      rcases List.mem_cons.1 h with q | q
      · cases q; rfl
      · exact absurd (List.mem_map.2 ⟨_, q, rfl⟩) hn.1
    · rename_i e
      rcases List.mem_cons.1 h with q | q
      · cases q; exact absurd rfl e
      · have := ih hn.2 q
        unfold mget at this
        cases hq : mlook t k with
        | none => rw [hq] at this; cases this
        | some x => rw [hq] at this; simpa using this
theorem mput_keys {es : List (K × V)} {k : K} {v : V} : (mput es k v).map Prod.fst = if k ∈ es.map Prod.fst then es.map Prod.fst else es.map Prod.fst ++ [k] := by
  unfold mput
  cases hq : mlook es k with
  | none => rw [if_neg (mlook_none.1 hq)]; simp
  | some p =>
    obtain ⟨j, u⟩ := p
    have hj := mlook_some hq
    rw [if_pos (List.mem_map.2 ⟨_, List.mem_of_getElem? hj, rfl⟩)]
    show (es.set j (k, v)).map Prod.fst = _
    apply List.ext_getElem?
    intro i
    simp only [List.getElem?_map, List.getElem?_set]
    by_cases hij : j = i
    · subst hij; rw [hj]; simp [(List.getElem?_eq_some_iff.1 hj).1]
    · simp [hij]
theorem nodup_mput {es : List (K × V)} {k : K} {v : V} (h : (es.map Prod.fst).Nodup) : ((mput es k v).map Prod.fst).Nodup := by
  rw [mput_keys]
  split
  · exact h
  · rename_i e; rw [List.nodup_append]; exact ⟨h, by simp, fun a ha b hb => by simp at hb; subst hb; rintro rfl; exact e ha⟩
theorem mem_mput {es : List (K × V)} {k a : K} {v u : V} (h : (es.map Prod.fst).Nodup) : (a, u) ∈ mput es k v ↔ (a = k ∧ u = v) ∨ (a ≠ k ∧ (a, u) ∈ es) := by
  unfold mput
  cases hq : mlook es k with
  | none =>
    have hn := mlook_none.1 hq
    constructor
    · intro hm
      rcases List.mem_append.1 hm with q | q
      · exact .inr ⟨fun e => hn (e ▸ List.mem_map.2 ⟨_, q, rfl⟩), q⟩
      · simp at q; exact .inl q
    · rintro (⟨rfl, rfl⟩ | ⟨_, q⟩)
      · simp
      · simp [q]
  | some p =>
    obtain ⟨j, u0⟩ := p
    have hj := mlook_some hq
    have hjl := (List.getElem?_eq_some_iff.1 hj).1
    show (a, u) ∈ es.set j (k, v) ↔ _
    constructor
    · intro hm
      obtain ⟨i, hi⟩ := List.mem_iff_getElem?.1 hm
      by_cases hij : j = i
      · subst hij
        rw [List.getElem?_set_self hjl] at hi
        cases hi; exact .inl ⟨rfl, rfl⟩
      · rw [List.getElem?_set_ne hij] at hi
        refine .inr ⟨?_, List.mem_of_getElem? hi⟩
        rintro rfl
        have h1 : (es.map Prod.fst)[i]? = some a := by simp [hi]
        have h2 : (es.map Prod.fst)[j]? = some a := by simp [hj]
        exact hij (nodup_inj h h2 h1)
    · rintro (⟨rfl, rfl⟩ | ⟨hne, q⟩)
      · exact List.mem_of_getElem? (i := j) (by simp [hjl])
      · obtain ⟨i, hi⟩ := List.mem_iff_getElem?.1 q
        refine List.mem_of_getElem? (i := i) ?_
        rw [List.getElem?_set_ne]
        · exact hi
        · rintro rfl; rw [hi] at hj; cases hj; exact hne rfl
theorem mget_eq {es : List (K × V)} {k : K} {v : V} (h : (es.map Prod.fst).Nodup) : mget es k = some v ↔ (k, v) ∈ es := ⟨mget_mem, mget_of_mem h⟩
theorem mget_mput {es : List (K × V)} {k a : K} {v : V} (h : (es.map Prod.fst).Nodup) : mget (mput es k v) a = if a = k then some v else mget es a := by
  apply Option.ext
  intro u
  rw [mget_eq (nodup_mput h), mem_mput h]
  split
  · rename_i e; subst e; simp [eq_comm]
  · rename_i e; simp [e, mget_eq h]
end

/-! ### the block -/
/-- Block m is a map that holds these keys and values. -/
def MapC {K V : Type} (kv : K → Value) (vv : V → Value) (w : World) (m : Nat) (es : List (K × V)) : Prop :=
  ∃ (arr : Array MapEntry) (clock : Nat), w.heap[m]? = some (.map arr clock) ∧ Stamped arr clock ∧ arr.toList.map (fun e => (e.key, e.val)) = es.map (fun p => (kv p.1, vv p.2))
/-- Keys of a type that the machine tells apart at once. -/
structure KeyT {K : Type} (P : Program) (t : TypeId) (kv : K → Value) : Prop where
  inj : ∀ a b, kv a = kv b → a = b
  key : ∃ d, P.underlying t = some d ∧ ∀ a, IsKey d (kv a)
  bits : ∀ a n, Instr.sameBits (n + 1) (kv a) (kv a) = true
theorem key_str {P : Program} {t : TypeId} (h : P.underlying t = some .string) : KeyT P t sv :=
  ⟨fun a b h => by unfold sv at h; injection h with h; exact bs_inj.1 h, ⟨_, h, fun a => trivial⟩, fun a n => by simp only [sv, Instr.sameBits]; exact (bytes_beq _ _).2 rfl⟩

section
variable {K V : Type} {P : Program} {kv : K → Value} {vv : V → Value} {w w' : World} {m : Nat} {es : List (K × V)} {row : Option Nat} {F : Nat → Prop} {b t base e sz n : Nat} {cs : List Value} {v : Value}
theorem MapC.lt (h : MapC kv vv w m es) : m < w.heap.size := by obtain ⟨_, _, h, _⟩ := h; exact (Array.getElem?_eq_some_iff.1 h).1
theorem MapC.keep (h : MapC kv vv w m es) (E : w.grownBy w' row) (hne : some m ≠ row) : MapC kv vv w' m es := by
  have hl := h.lt; obtain ⟨arr, c, h, r⟩ := h; exact ⟨arr, c, (E.block m hl hne).trans h, r⟩
theorem MapC.keep0 (h : MapC kv vv w m es) (E : w.grownBy w' none) : MapC kv vv w' m es := h.keep E (by simp)
theorem MapC.keepG (h : MapC kv vv w m es) (E : Gr w w' F) (hn : ¬ F m) : MapC kv vv w' m es := by
  have hl := h.lt; obtain ⟨arr, c, h, r⟩ := h; exact ⟨arr, c, (E.block m hl hn).trans h, r⟩
theorem Bx.notMap (B : Bx w b t cs) (h : MapC kv vv w m es) : b ≠ m := by
  rintro rfl; obtain ⟨arr, c, h, _⟩ := h; unfold Bx at B; rw [B] at h; simp at h
theorem Own.notMap (O : Own w base e sz v n cs) (h : MapC kv vv w m es) : v.ownBlock ≠ some m := by
  obtain ⟨arr, c, h, _⟩ := h
  rcases O.2 with ⟨rfl, _⟩ | ⟨g, off, cp, cur, fr, rfl, _, hg, _⟩
  · simp [Value.ownBlock]
  · intro hh; simp [Value.ownBlock] at hh; subst hh; rw [hg] at h; simp at h
theorem MapC.keepO (h : MapC kv vv w m es) (O : Own w base e sz v n cs) (E : w.grownBy w' v.ownBlock) : MapC kv vv w' m es := h.keep E fun hh => O.notMap h hh.symm
theorem MapC.keepB (h : MapC kv vv w m es) (B : Bx w b t cs) (E : w.grownBy w' (some b)) : MapC kv vv w' m es := h.keep E fun hh => B.notMap h (Option.some.inj hh).symm
theorem Bx.keepM (B : Bx w b t cs) (h : MapC kv vv w m es) (E : w.grownBy w' (some m)) : Bx w' b t cs := B.keep E fun hh => B.notMap h (Option.some.inj hh)
theorem Own.keepM (O : Own w base e sz v n cs) (h : MapC kv vv w m es) (E : w.grownBy w' (some m)) : Own w' base e sz v n cs := O.keep E (.inr (O.notMap h))
theorem RdC.keepM {L B : Nat} (R : RdC w L B sz v n cs) (h : MapC kv vv w m es) (E : w.grownBy w' (some m)) : RdC w' L B sz v n cs := by
  obtain ⟨hl, a, cp, rfl, h1, h2, h3⟩ := R
  refine ⟨hl, a, cp, rfl, h1, h2, ?_⟩
  rcases h3 with h3 | ⟨b, off, rfl, hL, hB, hc⟩
  · exact .inl h3
  · refine .inr ⟨b, off, rfl, hL, hB, fun j u hu => ?_⟩
    have h0 := hc j u hu
    have hb : b ≠ m := by
      rintro rfl; obtain ⟨arr, c, h, _⟩ := h
      simp [World.cell?, h] at h0
    rw [World.cell?_of_block (E.block b (World.block_lt_of_cell? w _ h0) (by simpa using hb))]; exact h0
theorem MapC.nodup [DecidableEq K] {t : Nat} (T : KeyT P t kv) (h : MapC kv vv w m es) : (es.map Prod.fst).Nodup := by
  obtain ⟨arr, c, _, hs, he⟩ := h
  have h1 := congrArg (List.map Prod.fst) he
  simp only [List.map_map] at h1
  have h2 : (es.map (fun p => kv p.1)).Nodup := by
    have := hs.2.2
    rw [show (arr.toList.map (·.key)) = es.map (fun p => kv p.1) from h1] at this
    exact this
  have h3 : es.map (fun p => kv p.1) = (es.map Prod.fst).map kv := by simp
  rw [h3] at h2
  exact (List.pairwise_map.1 h2).imp fun h e => h (congrArg kv e)
theorem findNow_look [DecidableEq K] {d : TypeDesc} (hi : ∀ a b, kv a = kv b → a = b) (hk : ∀ a, IsKey d (kv a)) (k : K) : ∀ (L : List MapEntry) (es : List (K × V)) (i : Nat), L.map (fun e => (e.key, e.val)) = es.map (fun p => (kv p.1, vv p.2)) →
    Instr.findNow d (kv k) L i = some ((mlook es k).map fun p => (i + p.1, vv p.2))
  | [], [], _, _ => rfl
  | [], _ :: _, _, h => by cases h
  | _ :: _, [], _, h => by cases h
  | e :: L, (a, u) :: es, i, h => by
    simp only [List.map_cons, List.cons.injEq, Prod.mk.injEq] at h
    obtain ⟨⟨h1, h2⟩, h3⟩ := h
    obtain ⟨r, hr, hiff⟩ := sameNow_of_keys (hk k) (hk a)
    unfold Instr.findNow
    rw [h1, hr]
    by_cases hka : k = a
    · subst hka
      rw [hiff.2 rfl]
      simp [mlook, h2]
    · have : r = false := by cases hrr : r; · rfl
                             · exact absurd (hi _ _ (hiff.1 hrr)) hka
      rw [this]
      simp only
      rw [findNow_look hi hk k L es (i + 1) h3]
      have hm : mlook ((a, u) :: es) k = (mlook es k).map fun p => (p.1 + 1, p.2) := by simp [mlook, hka]
      rw [hm]
      cases mlook es k with
      | none => rfl
      | some p => simp only [Option.map_some]; rw [show i + 1 + p.1 = i + (p.1 + 1) by omega]
theorem run_find [DecidableEq K] {t : Nat} (T : KeyT P t kv) (k : K) {L : List MapEntry} {es : List (K × V)} (h : L.map (fun e => (e.key, e.val)) = es.map (fun p => (kv p.1, vv p.2))) (w : World) :
    (Instr.findKey t (kv k) L).run P w = .ok ((mlook es k).map fun p => (p.1, vv p.2)) w := by
  obtain ⟨d, hd, hk⟩ := T.key
  have := findNow_look (vv := vv) T.inj hk k L es 0 h
  simp only [Nat.zero_add] at this
  exact run_findKey hd this
theorem run_chk {t : Nat} (T : KeyT P t kv) (k : K) (bb : Bool) (w : World) : (Instr.checkKey bb 10000 t (kv k)).run P w = .ok () w := by
  obtain ⟨d, hd, hk⟩ := T.key
  exact run_checkKey hd (hk k) bb 9999
theorem run_lookup [DecidableEq K] {mt kt et : Nat} (ht : P.underlying mt = some (.map kt et)) (T : KeyT P kt kv) (h : MapC kv vv w m es) (k : K) {z : Value} (hz : zeroT P et = some z) (ok : Bool) :
    (Instr.lookup mt (.map (some m)) (kv k) ok).run P w = .ok (if ok then .tuple #[((mget es k).map vv).getD z, .bool (mget es k).isSome] else ((mget es k).map vv).getD z) w := by
  obtain ⟨arr, c, hb, hs, he⟩ := h
  simp only [Instr.lookup, Sem.run_bind, run_underlying ht, Result.andThen_ok, MapKept.run_getObj_map hb, Sem.run_pure, run_chk T, run_find T k he]
  unfold mget
  cases mlook es k with
  | none => simp [run_zeroT hz]
  | some p => simp
theorem run_update [DecidableEq K] {mt kt et : Nat} (ht : P.underlying mt = some (.map kt et)) (T : KeyT P kt kv) (h : MapC kv vv w m es) (k : K) (v : V) :
    ∃ w', (Instr.mapUpdate mt (.map (some m)) (kv k) (vv v)).run P w = .ok () w' ∧ MapC kv vv w' m (mput es k v) ∧ w.grownBy w' (some m) := by
  obtain ⟨arr, c, hb, hs, he⟩ := h
  have hset : ∀ o, w.grownBy { w with heap := w.heap.setIfInBounds m o } (some m) := fun o => ⟨rfl, rfl, rfl, by simp, fun i _ hi => (heap_set hb).2 i (fun e => hi (by rw [e]))⟩
  cases hq : mlook es k with
  | none =>
    refine ⟨{ w with heap := w.heap.setIfInBounds m (.map (arr.push ⟨kv k, vv v, c⟩) (c + 1)) }, ?_, ?_, hset _⟩
    · simp only [Instr.mapUpdate, Sem.run_bind, run_underlying ht, Result.andThen_ok, MapKept.run_getObj_map hb, run_chk T, run_find T k he, hq, Option.map_none, MapKept.run_setObj_map _ hb]
    · refine ⟨_, _, (heap_set hb).1, stamped_push hs fun x hx hxk => ?_, ?_⟩
      · have h1 := congrArg (List.map Prod.fst) he
        simp only [List.map_map] at h1
        have h2 : kv k ∈ es.map (fun p => kv p.1) := by
          have : x.key ∈ arr.toList.map (fun e => e.key) := List.mem_map.2 ⟨x, hx, rfl⟩
          rw [show (arr.toList.map (fun e => e.key)) = es.map (fun p => kv p.1) from h1] at this
          rw [← hxk]; exact this
        obtain ⟨p, hp, hpk⟩ := List.mem_map.1 h2
        exact mlook_none.1 hq (List.mem_map.2 ⟨p, hp, T.inj _ _ hpk⟩)
      · unfold mput; rw [hq]; simp [he]
  | some p =>
    obtain ⟨j, u⟩ := p
    have hj := mlook_some hq
    have hjl := (List.getElem?_eq_some_iff.1 hj).1
    have hjl2 : j < arr.toList.length := by have := congrArg List.length he; simp at this ⊢; omega
    have hej : (arr.toList[j].key, arr.toList[j].val) = (kv k, vv u) := by
      have h1 : (arr.toList.map (fun e => (e.key, e.val)))[j]? = (es.map (fun p => (kv p.1, vv p.2)))[j]? := by rw [he]
      rw [List.getElem?_map, List.getElem?_map, hj, List.getElem?_eq_getElem hjl2] at h1
      simpa using h1
    have hk1 : arr[j]? = some arr.toList[j] := by rw [← Array.getElem?_toList]; exact List.getElem?_eq_getElem hjl2
    have hkk : (arr[j]?.map (·.key)).getD (kv k) = kv k := by rw [hk1]; simp only [Option.map_some, Option.getD_some]; exact congrArg Prod.fst hej
    have hst : (Instr.keyThatStays (kv k) (kv k)).run P w = .ok (kv k) w := by simp [Instr.keyThatStays, T.bits k 9999]
    refine ⟨{ w with heap := w.heap.setIfInBounds m (.map (arr.modify j fun e => { e with key := kv k, val := vv v }) c) }, ?_, ?_, hset _⟩
    · simp only [Instr.mapUpdate, Sem.run_bind, run_underlying ht, Result.andThen_ok, MapKept.run_getObj_map hb, run_chk T, run_find T k he, hq, Option.map_some, hkk, hst, MapKept.run_setObj_map _ hb]
    · refine ⟨_, _, (heap_set hb).1, ?_, ?_⟩
      · have hkey : ∀ e, arr[j]? = some e → ({ e with key := kv k, val := vv v } : MapEntry).key = e.key := fun e h => by
          rw [hk1] at h; cases h; exact (congrArg Prod.fst hej).symm
        obtain ⟨h1, h2, h3⟩ := hs
        have hborn : (arr.modify j fun e => { e with key := kv k, val := vv v }).toList.map (·.born) = arr.toList.map (·.born) := by
          apply List.ext_getElem?
          intro i
          simp only [List.getElem?_map, Array.getElem?_toList, Array.getElem?_modify]
          by_cases hij : j = i
          · subst hij; cases arr[j]? <;> simp
          · simp [hij]
        refine ⟨fun x hx => ?_, hborn ▸ h2, (modify_keys j _ hkey) ▸ h3⟩
        have : x.born ∈ (arr.modify j fun e => { e with key := kv k, val := vv v }).toList.map (·.born) := List.mem_map.2 ⟨x, hx, rfl⟩
        rw [hborn] at this
        obtain ⟨y, hy, e⟩ := List.mem_map.1 this
        rw [← e]; exact h1 y hy
      · unfold mput; rw [hq]
        show _ = (es.set j (k, v)).map _
        apply List.ext_getElem?
        intro i
        have hi := congrArg (fun l : List (Value × Value) => l[i]?) he
        simp only [List.getElem?_map, Array.getElem?_toList, Array.getElem?_modify, List.getElem?_set] at hi ⊢
        by_cases hij : j = i
        · subst hij; rw [hk1]; simp [hjl]
        · simp [hij] at hi ⊢; exact hi
end

/-! ### the operations -/
section
variable {K V : Type} {P : Program} {Q : Exit → Act → World → Prop} {a : Act} {w w' : World} {l : List (Nat × Value)} {ops : Array Oper} {rest : List Oper}
variable {d ty mt kt et m : Nat} {p : String} {af : Array Edge} {x y u : Operand} {kv : K → Value} {vv : V → Value} {es : List (K × V)} {k : K} {v : V} {z : Value}
theorem op_mkmap (h : ∀ w' m, w.heap.size ≤ m → m < w'.heap.size → MapC kv vv w' m [] → w.grownBy w' none → wpList P ops Q rest (putsL a ((d, .map (some m)) :: l)) w') :
    wpList P ops Q (⟨some d, .makeMap mt none, ty, p, af, none⟩ :: rest) (putsL a l) w :=
  op_gen (w' := w.alloc (.map #[] 0)) (v := .map (some w.heap.size)) rfl (by simp [execOp, run_makeMap]) (h _ _ (Nat.le_refl _) (by simp) ⟨#[], 0, (heap_alloc w _).1, ⟨by simp, by simp, by simp⟩, rfl⟩ (grown_alloc w _))
theorem op_look [DecidableEq K] (ht : P.underlying mt = some (.map kt et)) (T : KeyT P kt kv) (hz : zeroT P et = some z) (hx : (putsL a l).eval x = .map (some m)) (hy : (putsL a l).eval y = kv k) (M : MapC kv vv w m es) (h : wpList P ops Q rest (putsL a ((d, ((mget es k).map vv).getD z) :: l)) w) :
    wpList P ops Q (⟨some d, .lookup mt x y false, ty, p, af, none⟩ :: rest) (putsL a l) w :=
  op_gen rfl (by simp only [execOp, hx, hy, Sem.run_bind, run_lookup ht T M k hz, Result.andThen_ok]; rfl) h
theorem op_lookd [DecidableEq K] {z0 : V} (ht : P.underlying mt = some (.map kt et)) (T : KeyT P kt kv) (hz : zeroT P et = some (vv z0)) (hx : (putsL a l).eval x = .map (some m)) (hy : (putsL a l).eval y = kv k) (M : MapC kv vv w m es) (h : wpList P ops Q rest (putsL a ((d, vv ((mget es k).getD z0)) :: l)) w) :
    wpList P ops Q (⟨some d, .lookup mt x y false, ty, p, af, none⟩ :: rest) (putsL a l) w := by
  refine op_look ht T hz hx hy M ?_
  have : ((mget es k).map vv).getD (vv z0) = vv ((mget es k).getD z0) := by cases mget es k <;> rfl
  rw [this]; exact h
theorem op_mapput [DecidableEq K] (ht : P.underlying mt = some (.map kt et)) (T : KeyT P kt kv) (hx : (putsL a l).eval x = .map (some m)) (hy : (putsL a l).eval y = kv k) (hu : (putsL a l).eval u = vv v) (M : MapC kv vv w m es) (h : ∀ w', MapC kv vv w' m (mput es k v) → w.grownBy w' (some m) → wpList P ops Q rest (putsL a l) w') :
    wpList P ops Q (⟨none, .mapUpdate mt x y u, ty, p, af, none⟩ :: rest) (putsL a l) w := by
  obtain ⟨w', hr, M', E⟩ := run_update (P := P) ht T M k v
  exact op_skip (w' := w') rfl rfl (by simp only [execOp, hx, hy, hu, Sem.run_bind, hr, Result.andThen_ok]; rfl) (h w' M' E)
theorem op_meq {xt yt : Nat} {r : Option Nat} (ht : P.underlying xt = some (.map kt et)) (hx : (putsL a l).eval x = .map r) (hy : (putsL a l).eval y = .map none) (h : wpList P ops Q rest (putsL a ((d, .bool r.isNone) :: l)) w) :
    wpList P ops Q (⟨some d, .binOp .eql xt x y yt, ty, p, af, none⟩ :: rest) (putsL a l) w := by
  have h1 := run_eql_map_nil (P := P) w xt kt et r ht
  have hg : (eqGuard .eql xt x y (Value.map r) (Value.map none)).run P w = .ok () w := by simp [eqGuard]
  exact op_gen (v := .bool r.isNone) rfl (by simp only [execOp, hx, hy]; simp [h1, hg]) h
end
end Go.Gx

/- What values are, plainly. -/
namespace Go.Proofs.Ytmhdbphpmgjpcaa
open Go.Gx
/-- A value. -/
structure Vl where
  k : Int
  n : Int
  s : List UInt8
def okB (c : UInt8) : Bool := decide (32 ≤ c.toNat ∧ c.toNat ≤ 126)
/-- A value's key. -/
def keyV (x : Vl) : List UInt8 := if x.k = 1 then 1 :: be8 (upN x.n) else 2 :: (x.s ++ [0])
end Go.Proofs.Ytmhdbphpmgjpcaa

/- Values' keys and order, plainly: keys stand as values do, are read again, and are the same however they are told. -/
namespace Go.Proofs.Ytmhdbphpmgjpcaa
open Go.Gx
theorem vl_ext {x y : Vl} (h : x.k = y.k ∧ x.n = y.n ∧ x.s = y.s) : x = y := by
  obtain ⟨k, n, s⟩ := x
  obtain ⟨k', n', s'⟩ := y
  obtain ⟨h1, h2, h3⟩ := h
  simp only at h1 h2 h3
  rw [h1, h2, h3]
end Go.Proofs.Ytmhdbphpmgjpcaa

/- What rows are, plainly. -/
namespace Go.Proofs.Ytmhdbphpmgjpcaa
open Go.Gx
def cellsV (x : Vl) : List Value := [.int .i64 x.k, .int .i64 x.n, .string (bs x.s)]
theorem el_flat {α : Type} {f : α → List Value} {sz : Nat} (hf : ∀ u, (f u).length = sz) (hp : 0 < sz) {l : List α} {d : α} {e : Int} {i : Nat} (he : e = (i : Int)) (h : i < l.length) {j : Nat} {u : Value} (hu : (f (l.getD i d))[j]? = some u) :
    (l.flatMap f)[e.toNat * sz + j]? = some u := by
  have hj : j < sz := by rw [← hf (l.getD i d)]; exact (List.getElem?_eq_some_iff.1 hu).1
  subst he
  rw [flat_get hp l fun v _ => hf v]
  have e1 : ((i : Int).toNat * sz + j) / sz = i := by rw [Int.toNat_natCast, Nat.add_comm, Nat.add_mul_div_right _ _ hp, Nat.div_eq_of_lt hj, Nat.zero_add]
  have e2 : ((i : Int).toNat * sz + j) % sz = j := by rw [Int.toNat_natCast, Nat.add_comm, Nat.add_mul_mod_self_right, Nat.mod_eq_of_lt hj]
  rw [e1, e2, List.getElem?_eq_getElem h]
  simpa [List.getD_eq_getElem?_getD, h] using hu
theorem snoc {α : Type} {l : List α} {d : α} {i : Nat} (h : i < l.length) : l.take (i + 1) = l.take i ++ [l.getD i d] := by
  rw [List.take_succ_eq_append_getElem h]; simp [List.getD_eq_getElem?_getD, h]
instance : DecidableEq Vl := fun x y => if h : x.k = y.k ∧ x.n = y.n ∧ x.s = y.s then isTrue (vl_ext h) else isFalse (fun e => h (by subst e; exact ⟨rfl, rfl, rfl⟩))
end Go.Proofs.Ytmhdbphpmgjpcaa

/- What labels are, plainly. -/
namespace Go.Proofs.Ytmhdbphpmgjpcaa
open Go.Gx
abbrev Lb := List UInt16
/-- Tags that rise, each once. -/
def Rise (l : Lb) : Prop := l.Pairwise (fun a b => a.toNat < b.toNat)
instance (l : Lb) : Decidable (Rise l) := List.instDecidablePairwise l
def mayL (l : Lb) : Bool := decide (Rise l) && decide (l.length ≤ 8)
theorem rise_nil : Rise [] := List.Pairwise.nil
theorem rise_one {l : Lb} : Rise (l.take 1) := by
  cases l with
  | nil => exact List.Pairwise.nil
  | cons a l => simp [Rise]
theorem rise_at {l : Lb} {i j : Nat} (h : Rise l) (hij : i < j) (hj : j < l.length) : (l.getD i 0).toNat < (l.getD j 0).toNat := by
  have := List.pairwise_iff_getElem.1 h i j (by omega) hj hij
  simpa [List.getD_eq_getElem?_getD, show i < l.length by omega, hj] using this
theorem rise_step {l : Lb} {i : Nat} (hi : 0 < i) (hl : i < l.length) (h : Rise (l.take i)) (hlt : (l.getD (i - 1) 0).toNat < (l.getD i 0).toNat) : Rise (l.take (i + 1)) := by
  rw [snoc (d := 0) hl]
  refine List.pairwise_append.2 ⟨h, by simp, fun a ha b hb => ?_⟩
  simp at hb; subst hb
  obtain ⟨j, hj, rfl⟩ := List.getElem_of_mem ha
  have hj' : j < i := by simp at hj; omega
  rw [List.getElem_take]
  have e : l[j]'(by omega) = l.getD j 0 := by simp [List.getD_eq_getElem?_getD, show j < l.length by omega]
  have e2 : l[i]?.getD 0 = l.getD i 0 := by simp [List.getD_eq_getElem?_getD]
  rw [e]
  try rw [e2]
  rcases Nat.lt_or_ge j (i - 1) with h1 | h1
  · have h2 := rise_at (i := j) (j := i - 1) h h1 (by simp; omega)
    have e3 : (l.take i).getD j 0 = l.getD j 0 := by simp [List.getD_eq_getElem?_getD, List.getElem?_take, hj']
    have e4 : (l.take i).getD (i - 1) 0 = l.getD (i - 1) 0 := by simp [List.getD_eq_getElem?_getD, List.getElem?_take, show i - 1 < i by omega]
    rw [e3, e4] at h2
    omega
  · have : j = i - 1 := by omega
    subst this; exact hlt
theorem rise_bad {l : Lb} {i : Nat} (hi : 0 < i) (hl : i < l.length) (h : ¬ (l.getD (i - 1) 0).toNat < (l.getD i 0).toNat) : ¬ Rise l := fun hr => h (rise_at hr (by omega) hl)
theorem mayL_rise {l : Lb} (h : mayL l = true) : Rise l := by unfold mayL at h; simp only [Bool.and_eq_true, decide_eq_true_eq] at h; exact h.1
theorem mayL_len {l : Lb} (h : mayL l = true) : l.length ≤ 8 := by unfold mayL at h; simp only [Bool.and_eq_true, decide_eq_true_eq] at h; exact h.2
/-- How labels stand: fewer tags first. -/
def cmpG : Lb → Lb → Int
  | [], [] => 0
  | [], _ :: _ => -1
  | _ :: _, [] => 1
  | a :: l, b :: m => if a.toNat < b.toNat then -1 else if b.toNat < a.toNat then 1 else cmpG l m
def cmpL (a b : Lb) : Int := if a.length < b.length then -1 else if b.length < a.length then 1 else cmpG a b
theorem cmpG_step {a b : Lb} {i : Nat} (ha : i < a.length) (hb : i < b.length) : cmpG (a.drop i) (b.drop i) = if (a.getD i 0).toNat < (b.getD i 0).toNat then -1 else if (b.getD i 0).toNat < (a.getD i 0).toNat then 1 else cmpG (a.drop (i + 1)) (b.drop (i + 1)) := by
  rw [List.drop_eq_getElem_cons ha, List.drop_eq_getElem_cons hb]
  simp [cmpG, List.getD_eq_getElem?_getD, ha, hb]
theorem cmpG_end {a b : Lb} {i : Nat} (ha : a.length ≤ i) (hb : b.length ≤ i) : cmpG (a.drop i) (b.drop i) = 0 := by
  rw [List.drop_of_length_le ha, List.drop_of_length_le hb]; rfl
theorem cmpG_refl : ∀ (a : Lb), cmpG a a = 0
  | [] => rfl
  | a :: l => by simp [cmpG, cmpG_refl l]
theorem cmpG_eq : ∀ {a b : Lb}, cmpG a b = 0 → a = b
  | [], [], _ => rfl
  | [], _ :: _, h => by simp [cmpG] at h
  | _ :: _, [], h => by simp [cmpG] at h
  | a :: l, b :: m, h => by
    unfold cmpG at h
    split at h
    · simp at h
    · split at h
      · simp at h
      · have : a = b := UInt16.toNat_inj.1 (by omega)
        rw [this, cmpG_eq h]
theorem cmpL_zero {a b : Lb} : cmpL a b = 0 ↔ a = b := by
  constructor
  · intro h
    unfold cmpL at h
    split at h
    · simp at h
    · split at h
      · simp at h
      · exact cmpG_eq h
  · rintro rfl; simp [cmpL, cmpG_refl]
def be2 (t : UInt16) : List UInt8 := [UInt8.ofNat (t.toNat / 256), UInt8.ofNat t.toNat]
theorem flat_len' : ∀ (l : Lb), (l.flatMap be2).length = l.length * 2
  | [] => rfl
  | a :: l => by rw [List.flatMap_cons, List.length_append, flat_len' l, List.length_cons]; simp [be2]; omega
/-- A label's bytes. -/
def putL (l : Lb) : List UInt8 := UInt8.ofNat l.length :: l.flatMap be2
theorem putL_len (l : Lb) : (putL l).length = 1 + l.length * 2 := by rw [putL, List.length_cons, flat_len']; omega
/-- The tags that bytes say. -/
def tagsL (n : Nat) (b : List UInt8) : Lb := (List.range n).map fun i => UInt16.ofNat ((b.getD (1 + 2 * i) 0).toNat * 256 + (b.getD (2 + 2 * i) 0).toNat)
theorem tags_len (n : Nat) (b : List UInt8) : (tagsL n b).length = n := by simp [tagsL]
/-- What is read of bytes: a label, how many, the error. -/
def takeL (b : List UInt8) : Lb × Int × Int :=
  if b.length = 0 then ([], 0, 2) else if 8 < (b.getD 0 0).toNat then ([], 0, 3) else if b.length < 1 + 2 * (b.getD 0 0).toNat then ([], 0, 2)
  else if Rise (tagsL (b.getD 0 0).toNat b) then (tagsL (b.getD 0 0).toNat b, ((1 + 2 * (b.getD 0 0).toNat : Nat) : Int), 0) else ([], 0, 3)
end Go.Proofs.Ytmhdbphpmgjpcaa

/- The sort, plainly: what stands in the library's plain layer, at tags; and the laws of its loop. -/
namespace Go.Proofs.Ytmhdbphpmgjpcaa
open Go.Gx Go.Sort Go.RowKit
abbrev Ar := Array UInt16
def ltT (x y : UInt16) : Bool := decide (x.toNat < y.toNat)
theorem swoT : SWO ltT where
  irrefl := fun x => by simp [ltT]
  trans := fun x y z h1 h2 => by simp [ltT] at *; omega
  ntrans := fun x y z h1 h2 => by simp [ltT] at *; omega
theorem el_arr {d : Ar} {e : Int} {i : Nat} (he : e = (i : Int)) (h : i < d.size) : (d.toList.map u16v)[e.toNat * 1 + 0]? = some (Value.int .u16 (d[i]!.toNat : Int)) := by
  subst he
  have e1 : d[i]! = d[i] := by simp [h]
  rw [e1]; simp [u16v, h]
theorem el_at {d : Ar} {i : Nat} (h : i < d.size) : (d.toList.map u16v)[i + 0]? = some (Value.int .u16 (d[i]!.toNat : Int)) := by
  have := el_arr (d := d) (e := (i : Int)) rfl h
  simpa using this
theorem set_arr {d : Ar} {i : Nat} {x : UInt16} (h : i < d.size) : (d.toList.map u16v).take i ++ [Value.int .u16 (x.toNat : Int)] ++ (d.toList.map u16v).drop (i + [Value.int .u16 (x.toNat : Int)].length) = (d.setIfInBounds i x).toList.map u16v := by
  have h' : i < d.toList.length := by simpa using h
  rw [Array.toList_setIfInBounds, List.set_eq_take_append_cons_drop, if_pos h']
  simp [u16v]
theorem ltT_t {x y : UInt16} (h : (x.toNat : Int) < (y.toNat : Int)) : ltT x y = true := decide_eq_true (by omega)
theorem ltT_f {x y : UInt16} (h : ¬ (x.toNat : Int) < (y.toNat : Int)) : ltT x y = false := decide_eq_false (by omega)
theorem swp_sz (d : Ar) (i j : Nat) : (swp d i j).size = d.size := size_swp d i j
/-! how many bits a number has -/
def tab8 : List UInt8 := [0, 1, 2, 2, 3, 3, 3, 3] ++ List.replicate 8 4 ++ List.replicate 16 5 ++ List.replicate 32 6 ++ List.replicate 64 7 ++ List.replicate 128 8
theorem tab8_len {z : Nat} (h : z < 256) : (tab8.getD z 0).toNat = bitsLen z := by
  have : ∀ i : Fin 256, (tab8.getD i.val 0).toNat = bitsLen i.val := by decide +kernel
  exact this ⟨z, h⟩
theorem tab8_sz : tab8.length = 256 := by decide +kernel
theorem bits_shift {n k : Nat} (h : 2 ^ k ≤ n) : bitsLen n = k + bitsLen (n / 2 ^ k) := by
  have key : ∀ m, bitsLen n ≤ m ↔ k + bitsLen (n / 2 ^ k) ≤ m := by
    intro m
    rw [bitsLen_le_iff]
    by_cases hm : m < k
    · constructor
      · intro h1
        have := Nat.pow_lt_pow_right (show 1 < 2 by decide) hm
        omega
      · intro h1; omega
    · obtain ⟨j, rfl⟩ : ∃ j, m = k + j := ⟨m - k, by omega⟩
      rw [show (k + bitsLen (n / 2 ^ k) ≤ k + j) ↔ bitsLen (n / 2 ^ k) ≤ j by omega, bitsLen_le_iff, Nat.div_lt_iff_lt_mul (Nat.two_pow_pos k), ← Nat.pow_add, Nat.add_comm j k]
  exact Nat.le_antisymm ((key _).2 (Nat.le_refl _)) ((key _).1 (Nat.le_refl _))
theorem bits_32 {n : Nat} (h : 4294967296 ≤ n) : bitsLen n = 32 + bitsLen (n / 4294967296) := bits_shift (k := 32) h
theorem bits_16 {n : Nat} (h : 65536 ≤ n) : bitsLen n = 16 + bitsLen (n / 65536) := bits_shift (k := 16) h
theorem bits_8 {n : Nat} (h : 256 ≤ n) : bitsLen n = 8 + bitsLen (n / 256) := bits_shift (k := 8) h
theorem shl_one {k : Nat} (h : k ≤ 62) : IntKind.u64.wrap (1 * 2 ^ (min ((k : Nat) : Int).toNat (IntKind.bits .u64))) = ((2 ^ k : Nat) : Int) := by
  have e : min ((k : Nat) : Int).toNat (IntKind.bits .u64) = k := by rw [Int.toNat_natCast]; exact Nat.min_eq_left (by show k ≤ 64; omega)
  rw [e, Int.one_mul]
  have h2 : 2 ^ k ≤ 2 ^ 62 := Nat.pow_le_pow_right (by decide) h
  have h3 : (2 : Nat) ^ 62 = 4611686018427387904 := by decide
  rw [show ((2 : Int) ^ k) = ((2 ^ k : Nat) : Int) by simp]
  rw [h3] at h2
  generalize (2 : Nat) ^ k = q at h2 ⊢
  exact wrap_u64 (by omega)
theorem xor_rng (x y : Int) : 0 ≤ bits .xor .u64 x y ∧ bits .xor .u64 x y ≤ 18446744073709551615 := by
  have : bits .xor .u64 x y = IntKind.u64.wrap ((BitVec.ofInt 64 x ^^^ BitVec.ofInt 64 y).toNat : Int) := rfl
  rw [this]
  simp only [IntKind.wrap, IntKind.bits, IntKind.signed]
  simp; omega
theorem and_64 {x y : Nat} (hx : x < 18446744073709551616) (hy : y < 18446744073709551616) : bits .and .u64 (x : Int) (y : Int) = ((x &&& y : Nat) : Int) := by
  have e1 : BitVec.ofInt 64 (x : Int) = BitVec.ofNat 64 x := BitVec.ofInt_natCast ..
  have e2 : BitVec.ofInt 64 (y : Int) = BitVec.ofNat 64 y := BitVec.ofInt_natCast ..
  show IntKind.u64.wrap ((BitVec.ofInt 64 (x : Int) &&& BitVec.ofInt 64 (y : Int)).toNat : Int) = _
  have := Nat.and_le_left (n := x) (m := y)
  rw [e1, e2, BitVec.toNat_and, BitVec.toNat_ofNat, BitVec.toNat_ofNat, Nat.mod_eq_of_lt (by omega), Nat.mod_eq_of_lt (by omega)]
  exact wrap_u64 (by omega)
/-! the loops of the sort -/
theorem insInner_go {a j : Nat} {d : Ar} (hj : a < j) (hl : ltT d[j]! d[j - 1]! = true) : insInner ltT a j d = insInner ltT a (j - 1) (swp d j (j - 1)) := by
  obtain ⟨k, rfl⟩ : ∃ k, j = k + 1 := ⟨j - 1, by omega⟩
  rw [insInner]
  simp only [Nat.add_sub_cancel] at hl ⊢
  simp [hj, hl]
theorem insInner_stop {a j : Nat} {d : Ar} (h : j ≤ a ∨ ltT d[j]! d[j - 1]! = false) : insInner ltT a j d = d := by
  cases j with
  | zero => rw [insInner]
  | succ k =>
    rw [insInner]
    simp only [Nat.add_sub_cancel] at h
    rcases h with h | h
    · simp [show ¬ k + 1 > a by omega]
    · simp [h]
theorem insOuter_go {a b i : Nat} {d : Ar} (h : i < b) : insOuter ltT a b i d = insOuter ltT a b (i + 1) (insInner ltT a i d) := by rw [insOuter, if_pos h]
theorem insOuter_stop {a b i : Nat} {d : Ar} (h : ¬ i < b) : insOuter ltT a b i d = d := by rw [insOuter, if_neg h]
theorem siftDown_stop {hi first root : Nat} {d : Ar} (h : hi ≤ 2 * root + 1) : siftDown ltT hi first root d = d := by rw [siftDown, dif_pos h]
/-- which child -/
def childS (hi first root : Nat) (d : Ar) : Nat := if 2 * root + 1 + 1 < hi && ltT d[first + (2 * root + 1)]! d[first + (2 * root + 1) + 1]! then 2 * root + 2 else 2 * root + 1
theorem siftDown_ret {hi first root : Nat} {d : Ar} (h : ¬ hi ≤ 2 * root + 1) (hl : ltT d[first + root]! d[first + childS hi first root d]! = false) : siftDown ltT hi first root d = d := by
  rw [siftDown, dif_neg h]
  unfold childS at hl
  split
  · rename_i hc; rw [if_pos hc] at hl; simp [hl]
  · rename_i hc; rw [if_neg hc] at hl; simp [hl]
theorem siftDown_go {hi first root : Nat} {d : Ar} (h : ¬ hi ≤ 2 * root + 1) (hl : ltT d[first + root]! d[first + childS hi first root d]! = true) : siftDown ltT hi first root d = siftDown ltT hi first (childS hi first root d) (swp d (first + root) (first + childS hi first root d)) := by
  rw [siftDown, dif_neg h]
  unfold childS at hl ⊢
  split
  · rename_i hc
    rw [if_pos hc] at hl
    try rw [if_pos hc]
    simp only [hl, Bool.not_true, Bool.false_eq_true, if_false]
    simp only [Bool.and_eq_true, decide_eq_true_eq] at hc
    rw [dif_pos (by omega)]
  · rename_i hc
    rw [if_neg hc] at hl
    try rw [if_neg hc]
    simp [hl]
theorem childS_lt {hi first root : Nat} {d : Ar} (h : ¬ hi ≤ 2 * root + 1) : childS hi first root d < hi ∧ root < childS hi first root d := by
  unfold childS
  split
  · rename_i hc; simp only [Bool.and_eq_true, decide_eq_true_eq] at hc; omega
  · omega
theorem childS_t {hi first root : Nat} {d : Ar} (h : 2 * root + 1 + 1 < hi) (hl : ltT d[first + (2 * root + 1)]! d[first + (2 * root + 1) + 1]! = true) : childS hi first root d = 2 * root + 2 := by
  rw [childS, if_pos (by simp [h, hl])]
theorem childS_f {hi first root : Nat} {d : Ar} (h : ¬ 2 * root + 1 + 1 < hi ∨ ltT d[first + (2 * root + 1)]! d[first + (2 * root + 1) + 1]! = false) : childS hi first root d = 2 * root + 1 := by
  rw [childS, if_neg (by rcases h with h | h <;> simp [h])]
theorem heapBuild_go' {hi first k : Nat} {d : Ar} (h : 0 < k) : heapBuild ltT hi first k d = heapBuild ltT hi first (k - 1) (siftDown ltT hi first (k - 1) d) := by
  obtain ⟨j, rfl⟩ : ∃ j, k = j + 1 := ⟨k - 1, by omega⟩
  rfl
theorem heapPop_go' {first k : Nat} {d : Ar} (h : 0 < k) : heapPop ltT first k d = heapPop ltT first (k - 1) (siftDown ltT (k - 1) first 0 (swp d first (first + (k - 1)))) := by
  obtain ⟨j, rfl⟩ : ∃ j, k = j + 1 := ⟨k - 1, by omega⟩
  rfl
theorem tdiv2 {m : Nat} : (((m : Nat) : Int) - 1).tdiv 2 = (((m - 1) / 2 : Nat) : Int) := by
  cases m with
  | zero => rfl
  | succ m =>
    rw [show (((m + 1 : Nat) : Int) - 1) = (m : Int) by omega, Int.tdiv_eq_ediv_of_nonneg (by omega)]
    simp
theorem siftDown_sz : ∀ (n hi first root : Nat) (d : Ar), hi - root ≤ n → (siftDown ltT hi first root d).size = d.size
  | n, hi, first, root, d, hn => by
    by_cases h : hi ≤ 2 * root + 1
    · rw [siftDown_stop h]
    · rcases hl : ltT d[first + root]! d[first + childS hi first root d]! with _ | _
      · rw [siftDown_ret h hl]
      · have hc := childS_lt (first := first) (d := d) h
        cases n with
        | zero => omega
        | succ n => rw [siftDown_go h hl, siftDown_sz n _ _ _ _ (by omega), size_swp]
theorem scanUp_go {p : UInt16 → Bool} {d : Ar} {j i : Nat} (h : i ≤ j) (hp : p d[i]! = true) : scanUp p d j i = scanUp p d j (i + 1) := by rw [scanUp]; simp [h, hp]
theorem scanUp_stop {p : UInt16 → Bool} {d : Ar} {j i : Nat} (h : j < i ∨ p d[i]! = false) : scanUp p d j i = i := by
  rw [scanUp]; rcases h with h | h
  · simp [show ¬ i ≤ j by omega]
  · simp [h]
theorem scanDown_go {p : UInt16 → Bool} {d : Ar} {i j : Nat} (h0 : 0 < j) (h : i ≤ j) (hp : p d[j]! = true) : scanDown p d i j = scanDown p d i (j - 1) := by
  obtain ⟨k, rfl⟩ : ∃ k, j = k + 1 := ⟨j - 1, by omega⟩
  rw [scanDown]; simp [h, hp]
theorem scanDown_stop {p : UInt16 → Bool} {d : Ar} {i j : Nat} (h : j < i ∨ p d[j]! = false) : scanDown p d i j = j := by
  cases j with
  | zero => rw [scanDown]
  | succ k =>
    rw [scanDown]; rcases h with h | h
    · simp [show ¬ i ≤ k + 1 by omega]
    · simp [h]
theorem pe_stop {a i j i2 j2 : Nat} {d : Ar} (h1 : scanUp (fun x => !ltT d[a]! x) d j i = i2) (h2 : scanDown (fun x => ltT d[a]! x) d i2 j = j2) (h : j2 < i2) : partEqLoop ltT a i j d = (i2, d) := by
  rw [partEqLoop_eq, h1, h2, if_pos h]
theorem pe_go {a i j i2 j2 : Nat} {d : Ar} (h1 : scanUp (fun x => !ltT d[a]! x) d j i = i2) (h2 : scanDown (fun x => ltT d[a]! x) d i2 j = j2) (h : ¬ j2 < i2) : partEqLoop ltT a i j d = partEqLoop ltT a (i2 + 1) (j2 - 1) (swp d i2 j2) := by
  rw [partEqLoop_eq, h1, h2, if_neg h]
theorem pl_stop {a i j i2 j2 : Nat} {d : Ar} (h1 : scanUp (fun x => ltT x d[a]!) d j i = i2) (h2 : scanDown (fun x => !ltT x d[a]!) d i2 j = j2) (h : j2 < i2) : partLoop ltT a i j d = (j2, d) := by
  rw [partLoop_eq, h1, h2, if_pos h]
theorem pl_go {a i j i2 j2 : Nat} {d : Ar} (h1 : scanUp (fun x => ltT x d[a]!) d j i = i2) (h2 : scanDown (fun x => !ltT x d[a]!) d i2 j = j2) (h : ¬ j2 < i2) : partLoop ltT a i j d = partLoop ltT a (i2 + 1) (j2 - 1) (swp d i2 j2) := by
  rw [partLoop_eq, h1, h2, if_neg h]
theorem pt_stop {a b p i2 j2 : Nat} {d d1 : Ar} (hd : d1 = swp d a p) (h1 : scanUp (fun x => ltT x d1[a]!) d1 (b - 1) (a + 1) = i2) (h2 : scanDown (fun x => !ltT x d1[a]!) d1 i2 (b - 1) = j2) (h : j2 < i2) : partition ltT d a b p = (j2, true, swp d1 j2 a) := by
  subst hd
  simp only [partition, h1, h2]
  rw [if_pos h]
theorem pt_go {a b p i2 j2 : Nat} {d d1 : Ar} (hd : d1 = swp d a p) (h1 : scanUp (fun x => ltT x d1[a]!) d1 (b - 1) (a + 1) = i2) (h2 : scanDown (fun x => !ltT x d1[a]!) d1 i2 (b - 1) = j2) (h : ¬ j2 < i2) :
    partition ltT d a b p = ((partLoop ltT a (i2 + 1) (j2 - 1) (swp d1 i2 j2)).1, false, swp (partLoop ltT a (i2 + 1) (j2 - 1) (swp d1 i2 j2)).2 (partLoop ltT a (i2 + 1) (j2 - 1) (swp d1 i2 j2)).1 a) := by
  subst hd
  simp only [partition, h1, h2]
  rw [if_neg h]
theorem not_t {b : Bool} (h : (!b) = true) : b = false := by simpa using h
theorem not_f {b : Bool} (h : (!b) = false) : b = true := by simpa using h
theorem pi_true {a b s i i2 : Nat} {d : Ar} (hs : s < 5) (h : scanSorted ltT d b i = i2) (h2 : i2 = b) : partialIns ltT a b (5 - s) i d = (d, true) := by
  obtain ⟨k, hk⟩ : ∃ k, 5 - s = k + 1 := ⟨4 - s, by omega⟩
  rw [hk, partialIns_succ, h, if_pos h2]
theorem pi_short {a b s i i2 : Nat} {d : Ar} (hs : s < 5) (h : scanSorted ltT d b i = i2) (h2 : ¬ i2 = b) (h3 : b - a < 50) : partialIns ltT a b (5 - s) i d = (d, false) := by
  obtain ⟨k, hk⟩ : ∃ k, 5 - s = k + 1 := ⟨4 - s, by omega⟩
  rw [hk, partialIns_succ, h, if_neg h2, if_pos h3]
theorem pi_go {a b s i i2 : Nat} {d d3 d4 : Ar} (hs : s < 5) (h : scanSorted ltT d b i = i2) (h2 : ¬ i2 = b) (h3 : ¬ b - a < 50) (hd : d3 = fixDown ltT a i2 (swp d i2 (i2 - 1))) (hu : d4 = fixUp ltT b i2 d3) :
    partialIns ltT a b (5 - s) i d = partialIns ltT a b (5 - (s + 1)) i2 d4 := by
  obtain ⟨k, hk⟩ : ∃ k, 5 - s = k + 1 := ⟨4 - s, by omega⟩
  rw [hk, partialIns_succ, h, if_neg h2, if_neg h3, ← hd, ← hu, show 5 - (s + 1) = k by omega]
theorem fixDown_f {a i : Nat} {d : Ar} (h : ¬ 2 ≤ i - a) : fixDown ltT a i d = d := by rw [fixDown, if_neg (by omega)]
theorem fixDown_t {a i : Nat} {d : Ar} (h : 2 ≤ i - a) : fixDown ltT a i d = shiftDown ltT (i - 1) d := by rw [fixDown, if_pos (by omega)]
theorem fixUp_f {b i : Nat} {d : Ar} (h : ¬ 2 ≤ b - i) : fixUp ltT b i d = d := by rw [fixUp, if_neg (by omega)]
theorem fixUp_t {b i : Nat} {d : Ar} (h : 2 ≤ b - i) : fixUp ltT b i d = shiftUp ltT b (i + 1) d := by rw [fixUp, if_pos (by omega)]
theorem rev_go {i j : Nat} {d : Ar} (h : i < j) : reverseLoop i j d = reverseLoop (i + 1) (j - 1) (swp d i j) := by rw [reverseLoop, if_pos h]
theorem rev_stop {i j : Nat} {d : Ar} (h : ¬ i < j) : reverseLoop i j d = d := by rw [reverseLoop, if_neg h]
theorem scanSorted_go {d : Ar} {b i : Nat} (h : i < b) (hl : ltT d[i]! d[i - 1]! = false) : scanSorted ltT d b i = scanSorted ltT d b (i + 1) := by rw [scanSorted]; simp [h, hl]
theorem scanSorted_stop {d : Ar} {b i : Nat} (h : b ≤ i ∨ ltT d[i]! d[i - 1]! = true) : scanSorted ltT d b i = i := by
  rw [scanSorted]; rcases h with h | h
  · simp [show ¬ i < b by omega]
  · simp [h]
theorem shiftDown_go {j : Nat} {d : Ar} (h0 : 0 < j) (hl : ltT d[j]! d[j - 1]! = true) : shiftDown ltT j d = shiftDown ltT (j - 1) (swp d j (j - 1)) := by
  obtain ⟨k, rfl⟩ : ∃ k, j = k + 1 := ⟨j - 1, by omega⟩
  simp only [Nat.add_sub_cancel] at hl ⊢
  rw [shiftDown]; simp [hl]
theorem shiftDown_stop {j : Nat} {d : Ar} (h : j = 0 ∨ ltT d[j]! d[j - 1]! = false) : shiftDown ltT j d = d := by
  cases j with
  | zero => rw [shiftDown]
  | succ k => simp only [Nat.add_sub_cancel] at h; rw [shiftDown]; simp [h.resolve_left (by omega)]
theorem shiftUp_go {b j : Nat} {d : Ar} (h : j < b) (hl : ltT d[j]! d[j - 1]! = true) : shiftUp ltT b j d = shiftUp ltT b (j + 1) (swp d j (j - 1)) := by rw [shiftUp, if_pos h]; simp [hl]
theorem shiftUp_stop {b j : Nat} {d : Ar} (h : b ≤ j ∨ ltT d[j]! d[j - 1]! = false) : shiftUp ltT b j d = d := by
  rw [shiftUp]; rcases h with h | h
  · rw [if_neg (by omega)]
  · simp [h]
theorem siftDown_size {hi first root : Nat} {d : Ar} : (siftDown ltT hi first root d).size = d.size := siftDown_sz _ hi first root d (Nat.le_refl _)
abbrev PI (a b : Nat) (d d' : Ar) : Prop := PermIn a b d d'
theorem PI.sz {a b : Nat} {d d' : Ar} (h : PI a b d d') : d'.size = d.size := h.1
theorem PI.rfl' (a b : Nat) (d : Ar) : PI a b d d := permIn_refl d a b
theorem PI.tr {a b : Nat} {d d' d'' : Ar} (h : PI a b d d') (h' : PI a b d' d'') : PI a b d d'' := permIn_trans d d' d'' a b h h'
theorem PI.mono {a b a' b' : Nat} {d d' : Ar} (h : PI a b d d') (ha : a' ≤ a) (hb : b ≤ b') (hs : b' ≤ d.size) : PI a' b' d d' := permIn_mono d d' a b a' b' ha hb hs h
theorem PI.all {a b : Nat} {d d' : Ar} (h : PI a b d d') (hb : b ≤ d.size) (p : UInt16 → Prop) (hp : ∀ i, a ≤ i → i < b → p d[i]!) : ∀ i, a ≤ i → i < b → p d'[i]! := permIn_all d d' a b p hb h hp
theorem PI.swp {a b i j : Nat} {d : Ar} (h1 : a ≤ i) (h2 : i < b) (h3 : a ≤ j) (h4 : j < b) (hb : b ≤ d.size) : PI a b d (swp d i j) := swp_permIn d a b i j h1 h2 h3 h4 hb
theorem PI.below {a b : Nat} {d d' : Ar} (h : PI a b d d') (hb : b ≤ d.size) (hB : Go.Sort.Below ltT a b d) : Go.Sort.Below ltT a b d' := by
  rcases hB with hB | hB
  · exact .inl hB
  · by_cases ha : a = 0
    · exact .inl ha
    · refine .inr fun i h1 h2 => ?_
      have e : d'[a - 1]! = d[a - 1]! := h.2.1 (a - 1) (.inl (by omega))
      rw [e]
      exact h.all hb (fun x => ltT x d[a - 1]! = false) hB i h1 h2
/-- What is left to do, from places x to y, so that places a to b stand in order. -/
def Left (a b x y : Nat) (d : Ar) : Prop := ∀ d', PI x y d d' → SortedIn ltT x y d' → SortedIn ltT a b d'
theorem Left.start (a b : Nat) (d : Ar) : Left a b a b d := fun _ _ h => h
theorem Left.perm {a b x y : Nat} {d d1 : Ar} (h : Left a b x y d) (hp : PI x y d d1) : Left a b x y d1 := fun d' h1 h2 => h d' (hp.tr h1) h2
/-- The left part is of equal ones, none greater than any behind. -/
theorem Left.equal {a b x y m : Nat} {d d1 : Ar} {pv : UInt16} (h : Left a b x y d) (hp : PI x y d d1) (hxm : x ≤ m) (hmy : m ≤ y) (hy : y ≤ d.size)
    (h1 : ∀ i, x ≤ i → i < m → ltT pv d1[i]! = false) (h1' : ∀ i, x ≤ i → i < y → ltT d1[i]! pv = false) (h2 : ∀ i, m ≤ i → i < y → ltT pv d1[i]! = true) : Left a b m y d1 := by
  intro d' hp' hs
  refine h d' (hp.tr (hp'.mono hxm (Nat.le_refl _) (by rw [hp.sz]; exact hy))) fun i j hi hij hj => ?_
  have hb1 : y ≤ d1.size := by rw [hp.sz]; exact hy
  by_cases him : m ≤ i
  · exact hs i j him hij hj
  · have ei : d'[i]! = d1[i]! := hp'.2.1 i (.inl (by omega))
    rw [ei]
    have g1 := h1 i hi (by omega)
    have g1' := h1' i hi (by omega)
    by_cases hjm : m ≤ j
    · have g2 := hp'.all hb1 (fun z => ltT pv z = true) h2 j hjm hj
      simp [ltT] at *; omega
    · have ej : d'[j]! = d1[j]! := hp'.2.1 j (.inl (by omega))
      rw [ej]
      have g2 := h1 j (by omega) (by omega)
      have g2' := h1' j (by omega) hj
      simp [ltT] at *; omega
/-- One part is put in order, the other one is left: behind the partition at m. -/
theorem Left.right {a b x y m : Nat} {d d1 d2 : Ar} (h : Left a b x y d) (hp : PI x y d d1) (hxm : x ≤ m) (hmy : m < y) (hy : y ≤ d.size)
    (h1 : ∀ i, x ≤ i → i < m → ltT d1[i]! d1[m]! = true) (h2 : ∀ i, m < i → i < y → ltT d1[i]! d1[m]! = false) (hq : PI x m d1 d2) (hs : SortedIn ltT x m d2) : Left a b (m + 1) y d2 := by
  intro d' hp' hs'
  have hb1 : y ≤ d1.size := by rw [hp.sz]; exact hy
  have hb2 : y ≤ d2.size := by rw [hq.sz]; exact hb1
  have hq' := hq.mono (a' := x) (b' := y) (Nat.le_refl _) (by omega) hb1
  have e0 : d2[m]! = d1[m]! := hq.2.1 m (.inr (Nat.le_refl _))
  have e1 : d'[m]! = d1[m]! := (hp'.2.1 m (.inl (by omega))).trans e0
  have l1 : ∀ i, x ≤ i → i < m → ltT d'[i]! d1[m]! = true := fun i hi him => by
    have e : d'[i]! = d2[i]! := hp'.2.1 i (.inl (by omega))
    rw [e]; exact hq.all (by omega) (fun z => ltT z d1[m]! = true) h1 i hi him
  have l2 : ∀ i, m + 1 ≤ i → i < y → ltT d'[i]! d1[m]! = false := fun i hi hiy =>
    hp'.all hb2 (fun z => ltT z d1[m]! = false) (fun k hk hky => by
      have e : d2[k]! = d1[k]! := hq.2.1 k (.inr (by omega))
      rw [e]; exact h2 k (by omega) hky) i hi hiy
  refine h d' (hp.tr (hq'.tr (hp'.mono (by omega) (Nat.le_refl _) hb2))) fun i j hi hij hj => ?_
  rcases Nat.lt_trichotomy i m with him | him | him
  · rcases Nat.lt_trichotomy j m with hjm | hjm | hjm
    · have ei : d'[i]! = d2[i]! := hp'.2.1 i (.inl (by omega))
      have ej : d'[j]! = d2[j]! := hp'.2.1 j (.inl (by omega))
      rw [ei, ej]; exact hs i j hi hij hjm
    · subst hjm; rw [e1]; have := l1 i hi him; simp [ltT] at *; omega
    · have g1 := l1 i hi him; have g2 := l2 j (by omega) hj; simp [ltT] at *; omega
  · subst him; rw [e1]; exact l2 j (by omega) hj
  · exact hs' i j (by omega) hij hj
theorem Left.left {a b x y m : Nat} {d d1 d2 : Ar} (h : Left a b x y d) (hp : PI x y d d1) (hxm : x ≤ m) (hmy : m < y) (hy : y ≤ d.size)
    (h1 : ∀ i, x ≤ i → i < m → ltT d1[i]! d1[m]! = true) (h2 : ∀ i, m < i → i < y → ltT d1[i]! d1[m]! = false) (hq : PI (m + 1) y d1 d2) (hs : SortedIn ltT (m + 1) y d2) : Left a b x m d2 := by
  intro d' hp' hs'
  have hb1 : y ≤ d1.size := by rw [hp.sz]; exact hy
  have hb2 : y ≤ d2.size := by rw [hq.sz]; exact hb1
  have hq' := hq.mono (a' := x) (b' := y) (by omega) (Nat.le_refl _) hb1
  have e0 : d2[m]! = d1[m]! := hq.2.1 m (.inl (by omega))
  have e1 : d'[m]! = d1[m]! := (hp'.2.1 m (.inr (Nat.le_refl _))).trans e0
  have l1 : ∀ i, x ≤ i → i < m → ltT d'[i]! d1[m]! = true := fun i hi him =>
    hp'.all (by omega) (fun z => ltT z d1[m]! = true) (fun k hk hkm => by
      have e : d2[k]! = d1[k]! := hq.2.1 k (.inl (by omega))
      rw [e]; exact h1 k hk hkm) i hi him
  have l2 : ∀ i, m + 1 ≤ i → i < y → ltT d'[i]! d1[m]! = false := fun i hi hiy => by
    have e : d'[i]! = d2[i]! := hp'.2.1 i (.inr (by omega))
    rw [e]; exact hq.all hb1 (fun z => ltT z d1[m]! = false) (fun k hk hky => h2 k (by omega) hky) i hi hiy
  refine h d' (hp.tr (hq'.tr (hp'.mono (Nat.le_refl _) (by omega) hb2))) fun i j hi hij hj => ?_
  rcases Nat.lt_trichotomy i m with him | him | him
  · rcases Nat.lt_trichotomy j m with hjm | hjm | hjm
    · exact hs' i j hi hij hjm
    · subst hjm; rw [e1]; have := l1 i hi him; simp [ltT] at *; omega
    · have g1 := l1 i hi him; have g2 := l2 j (by omega) hj; simp [ltT] at *; omega
  · subst him; rw [e1]; exact l2 j (by omega) hj
  · have ei : d'[i]! = d2[i]! := hp'.2.1 i (.inr (by omega))
    have ej : d'[j]! = d2[j]! := hp'.2.1 j (.inr (by omega))
    rw [ei, ej]; exact hs i j (by omega) hij hj
end Go.Proofs.Ytmhdbphpmgjpcaa

/- What the sort keeps from round to round. -/
namespace Go.Proofs.Ytmhdbphpmgjpcaa
open Go.Gx Go.Sort Go.RowKit
def Inv (a b x y : Nat) (d0 d : Ar) : Prop := a ≤ x ∧ x ≤ y ∧ y ≤ b ∧ b ≤ d0.size ∧ PI a b d0 d ∧ Go.Sort.Below ltT x y d ∧ Left a b x y d
theorem Inv.start {a b : Nat} {d : Ar} (h : Go.Sort.Below ltT a b d) (hab : a ≤ b) (hb : b ≤ d.size) : Inv a b a b d d := ⟨Nat.le_refl _, hab, Nat.le_refl _, hb, PI.rfl' _ _ _, h, Left.start _ _ _⟩
theorem Inv.rng {a b x y : Nat} {d0 d : Ar} (h : Inv a b x y d0 d) : a ≤ x ∧ x ≤ y ∧ y ≤ b := ⟨h.1, h.2.1, h.2.2.1⟩
theorem Inv.sz {a b x y : Nat} {d0 d : Ar} (h : Inv a b x y d0 d) : d.size = d0.size := h.2.2.2.2.1.sz
theorem Inv.hi {a b x y : Nat} {d0 d : Ar} (h : Inv a b x y d0 d) : y ≤ d.size := by have := h.sz; have := h.2.2.1; have := h.2.2.2.1; omega
theorem Inv.below {a b x y : Nat} {d0 d : Ar} (h : Inv a b x y d0 d) : Go.Sort.Below ltT x y d := h.2.2.2.2.2.1
theorem Inv.perm {a b x y : Nat} {d0 d d1 : Ar} (h : Inv a b x y d0 d) (hp : PI x y d d1) : Inv a b x y d0 d1 := by
  have hi := h.hi; have hs := h.sz
  obtain ⟨h1, h2, h3, h4, h5, h6, h7⟩ := h
  exact ⟨h1, h2, h3, h4, h5.tr (hp.mono h1 h3 (by omega)), hp.below hi h6, h7.perm hp⟩
theorem Inv.done {a b x y : Nat} {d0 d d1 : Ar} (h : Inv a b x y d0 d) (hp : PI x y d d1) (hs : SortedIn ltT x y d1) : PI a b d0 d1 ∧ SortedIn ltT a b d1 :=
  ⟨(h.perm hp).2.2.2.2.1, h.2.2.2.2.2.2 d1 hp hs⟩
theorem Inv.equal {a b x y pv : Nat} {d0 d : Ar} (h : Inv a b x y d0 d) (hx : x ≤ pv) (hy : pv < y) (h0 : 0 < x) (hl : ltT d[x - 1]! d[pv]! = false) :
    x < (partitionEqual ltT d x y pv).1 ∧ Inv a b (partitionEqual ltT d x y pv).1 y d0 (partitionEqual ltT d x y pv).2 := by
  have hi := h.hi; have hs := h.sz
  obtain ⟨h1, h2, h3, h4, h5, h6, h7⟩ := h
  have hall : ∀ i, x ≤ i → i < y → ltT d[i]! d[pv]! = false := fun i hi1 hi2 => by
    have g := (h6.resolve_left (by omega)) i hi1 hi2
    simp [ltT] at *; omega
  obtain ⟨g1, g2, g3, g4, g5⟩ := partitionEqual_holds ltT swoT d x y pv hx hy hi hall
  have g3 : PI x y d (partitionEqual ltT d x y pv).2 := g3
  have hall' := PI.all g3 hi (fun z => ltT z d[pv]! = false) hall
  generalize partitionEqual ltT d x y pv = q at *
  refine ⟨g1, by omega, g2, h3, h4, h5.tr (g3.mono h1 h3 (by omega)), .inr fun i hi1 hi2 => ?_, Left.equal h7 g3 (by omega) g2 hi g4 hall' g5⟩
  have k1 := g5 i hi1 hi2; have k2 := g4 (q.1 - 1) (by omega) (by omega)
  simp [ltT] at *; omega
theorem Inv.part {a b x y pv : Nat} {d0 d : Ar} (h : Inv a b x y d0 d) (hx : x ≤ pv) (hy : pv < y) :
    x ≤ (partition ltT d x y pv).1 ∧ (partition ltT d x y pv).1 < y ∧ (partition ltT d x y pv).2.2.size = d.size ∧ Go.Sort.Below ltT x (partition ltT d x y pv).1 (partition ltT d x y pv).2.2 ∧ Go.Sort.Below ltT ((partition ltT d x y pv).1 + 1) y (partition ltT d x y pv).2.2 ∧
    (∀ d2, PI x (partition ltT d x y pv).1 (partition ltT d x y pv).2.2 d2 → SortedIn ltT x (partition ltT d x y pv).1 d2 → Inv a b ((partition ltT d x y pv).1 + 1) y d0 d2) ∧
    (∀ d2, PI ((partition ltT d x y pv).1 + 1) y (partition ltT d x y pv).2.2 d2 → SortedIn ltT ((partition ltT d x y pv).1 + 1) y d2 → Inv a b x (partition ltT d x y pv).1 d0 d2) := by
  have hi := h.hi; have hs := h.sz
  obtain ⟨g1, g2, g3, g4, g5⟩ := partition_holds ltT swoT d x y pv hx hy hi
  have g3 : PI x y d (partition ltT d x y pv).2.2 := g3
  have hp := h.perm g3
  obtain ⟨h1, h2, h3, h4, h5, h6, h7⟩ := h
  generalize partition ltT d x y pv = q at *
  have hsq := g3.sz
  refine ⟨g1, g2, hsq, ?_, ?_, ?_, ?_⟩
  · rcases hp.below with hB | hB
    · exact .inl hB
    · exact .inr fun i hi1 hi2 => hB i hi1 (by omega)
  · exact .inr fun i hi1 hi2 => by rw [Nat.add_sub_cancel]; exact g5 i (by omega) hi2
  · intro d2 hq hso
    refine ⟨by omega, by omega, h3, h4, hp.2.2.2.2.1.tr (hq.mono h1 (by omega) (by omega)), ?_, Left.right h7 g3 g1 g2 hi g4 g5 hq hso⟩
    refine .inr fun i hi1 hi2 => ?_
    have e0 : d2[q.1]! = q.2.2[q.1]! := hq.2.1 q.1 (.inr (Nat.le_refl _))
    have e1 : d2[i]! = q.2.2[i]! := hq.2.1 i (.inr (by omega))
    rw [Nat.add_sub_cancel, e0, e1]; exact g5 i (by omega) hi2
  · intro d2 hq hso
    refine ⟨h1, g1, by omega, h4, hp.2.2.2.2.1.tr (hq.mono (by omega) h3 (by omega)), ?_, Left.left h7 g3 g1 g2 hi g4 g5 hq hso⟩
    rcases hp.below with hB | hB
    · exact .inl hB
    · by_cases hx0 : x = 0
      · exact .inl hx0
      · refine .inr fun i hi1 hi2 => ?_
        have e0 : d2[x - 1]! = q.2.2[x - 1]! := hq.2.1 (x - 1) (.inl (by omega))
        have e1 : d2[i]! = q.2.2[i]! := hq.2.1 i (.inl (by omega))
        rw [e0, e1]; exact hB i hi1 (by omega)
theorem Inv.lt {a b x y : Nat} {d0 d : Ar} (h : Inv a b x y d0 d) : PI a b d0 d := h.2.2.2.2.1
theorem Inv.ins {a b x y : Nat} {d0 d : Ar} (h : Inv a b x y d0 d) : PI a b d0 (insertionSort ltT d x y) ∧ SortedIn ltT a b (insertionSort ltT d x y) :=
  have g := insertionSort_holds swoT d x y h.2.1 h.hi
  h.done g.1 g.2
theorem Inv.heap {a b x y : Nat} {d0 d : Ar} (h : Inv a b x y d0 d) : PI a b d0 (heapSort ltT d x y) ∧ SortedIn ltT a b (heapSort ltT d x y) :=
  have g := heapSort_holds swoT d x y h.2.1 h.hi
  h.done g.1 g.2
theorem Inv.rev {a b x y : Nat} {d0 d : Ar} (h : Inv a b x y d0 d) : Inv a b x y d0 (reverseRange d x y) := h.perm (reverseRange_holds d x y h.2.1 h.hi)
theorem Inv.pins {a b x y : Nat} {d0 d : Ar} (h : Inv a b x y d0 d) (hxy : x < y) : Inv a b x y d0 (partialInsertionSort ltT d x y).1 ∧ ((partialInsertionSort ltT d x y).2 = true → PI a b d0 (partialInsertionSort ltT d x y).1 ∧ SortedIn ltT a b (partialInsertionSort ltT d x y).1) :=
  have g := partialInsertionSort_holds swoT d x y hxy h.hi h.below
  ⟨h.perm g.1, fun e => h.done g.1 (g.2 e)⟩
end Go.Proofs.Ytmhdbphpmgjpcaa

/- Lists of tags put in order, plainly: what stands twice goes; the one rising list of what a list holds. -/
namespace Go.Proofs.Ytmhdbphpmgjpcaa
open Go.Gx Go.Sort Go.RowKit
def dd : List UInt16 → List UInt16
  | [] => []
  | [x] => [x]
  | x :: y :: r => if x = y then dd (y :: r) else x :: dd (y :: r)
theorem dd_snoc : ∀ (l : List UInt16) (x y : UInt16), dd (l ++ [x, y]) = if x = y then dd (l ++ [x]) else dd (l ++ [x]) ++ [y]
  | [], x, y => by by_cases h : x = y <;> simp [dd, h]
  | [a], x, y => by
    have ih := dd_snoc [] x y
    simp only [List.nil_append] at ih
    simp only [List.cons_append, List.nil_append]
    rw [dd, ih]; by_cases h : x = y <;> by_cases h2 : a = x <;> simp [dd, h, h2]
  | a :: b :: l, x, y => by
    have ih := dd_snoc (b :: l) x y
    simp only [List.cons_append] at ih ⊢
    rw [dd, ih, dd]; by_cases h : x = y <;> by_cases h2 : a = b <;> simp [h, h2]
theorem ar_take {d : Ar} {i : Nat} (h : i < d.size) : d.toList.take (i + 1) = d.toList.take i ++ [d[i]!] := by
  have h' : i < d.toList.length := by simpa using h
  rw [List.take_add_one, List.getElem?_eq_getElem h']
  simp [h]
theorem dd_step {d : Ar} {i : Nat} (h0 : 1 ≤ i) (h : i < d.size) : dd (d.toList.take (i + 1)) = if d[i - 1]! = d[i]! then dd (d.toList.take i) else dd (d.toList.take i) ++ [d[i]!] := by
  have e : d.toList.take i = d.toList.take (i - 1) ++ [d[i - 1]!] := by
    have := ar_take (d := d) (i := i - 1) (by omega)
    rwa [show i - 1 + 1 = i by omega] at this
  rw [ar_take h, e, List.append_assoc]
  exact dd_snoc _ _ _
theorem dd_one {d : Ar} (h : 1 ≤ d.size) : dd (d.toList.take 1) = d.toList.take 1 := by
  rcases hl : d.toList with _ | ⟨a, r⟩
  · rfl
  · rfl
theorem dd_same {d : Ar} {i : Nat} (h0 : 1 ≤ i) (h : i < d.size) (hs : dd (d.toList.take i) = d.toList.take i) (hne : ¬ d[i]! = d[i - 1]!) : dd (d.toList.take (i + 1)) = d.toList.take (i + 1) := by
  rw [dd_step h0 h, if_neg (fun e => hne e.symm), hs, ar_take h]
theorem dd_short {d : Ar} (h : d.size < 2) : dd d.toList = d.toList := by
  rcases hl : d.toList with _ | ⟨a, _ | ⟨b, r⟩⟩
  · rfl
  · rfl
  · have := congrArg List.length hl; simp at this; omega
theorem dd_full {d : Ar} {n : Nat} (hd : d.size = n) (hs : dd (d.toList.take n) = d.toList.take n) : dd d.toList = d.toList := by
  have e : d.toList.take n = d.toList := by rw [List.take_of_length_le]; simp [hd]
  rwa [e] at hs
/-- the round in which what is new is kept -/
theorem dd_keep {d dk : Ar} {i k : Nat} (h0 : 1 ≤ i) (h : i < d.size) (hk : k < i) (hz : dk.size = d.size) (hdd : dk.toList.take k = dd (d.toList.take i)) (hsame : ∀ j, k ≤ j → dk[j]! = d[j]!) (hne : ¬ d[i]! = d[i - 1]!) :
    (dk.setIfInBounds k d[i]!).toList.take (k + 1) = dd (d.toList.take (i + 1)) ∧ ∀ j, k + 1 ≤ j → (dk.setIfInBounds k d[i]!)[j]! = d[j]! := by
  constructor
  · rw [dd_step h0 h, if_neg (fun e => hne e.symm), ← hdd, ar_take (by simp; omega)]
    congr 1
    · rw [Array.toList_setIfInBounds, List.take_set_of_le (Nat.le_refl _)]
    · rw [Array.getElem!_eq_getD, Array.getD, dif_pos (by simp; omega)]; simp
  · intro j hj
    rw [← hsame j (by omega)]
    generalize d[i]! = z
    have hkj : k ≠ j := by omega
    simp [getElem!_def, Array.getElem?_setIfInBounds, hkj]
theorem u16_eq {x y : UInt16} (h : (x.toNat : Int) = (y.toNat : Int)) : x = y := UInt16.toNat_inj.1 (by omega)
def clr (d : Ar) (k : Nat) : Ar := (d.toList.take k ++ List.replicate (d.size - k) 0).toArray
theorem clr_cs {d : Ar} {n k : Nat} (hd : d.size = n) : (d.toList.map u16v).take k ++ List.replicate (n - k) (Value.int .u16 0) = (clr d k).toList.map u16v := by
  subst hd; simp [clr, u16v]
theorem clr_take {d : Ar} {k : Nat} (hk : k ≤ d.size) : (clr d k).toList.take k = d.toList.take k := by
  simp [clr, List.take_append, hk]
theorem el_arr_tail {d : Ar} {e : Int} {i k : Nat} (he : e = (i : Int)) (h : k + i < d.size) : ((d.toList.map u16v).drop k)[e.toNat * 1 + 0]? = some (Value.int .u16 (d[k + i]!.toNat : Int)) := by
  subst he
  have e1 : d[k + i]! = d[k + i] := by simp [h]
  rw [e1]; simp [u16v, h]
end Go.Proofs.Ytmhdbphpmgjpcaa

/- The one rising list of what a list holds. -/
namespace Go.Proofs.Ytmhdbphpmgjpcaa
open Go.Gx Go.Sort Go.RowKit
theorem dd_mem (x : UInt16) : ∀ (l : List UInt16), x ∈ dd l ↔ x ∈ l
  | [] => Iff.rfl
  | [_] => Iff.rfl
  | a :: b :: r => by
    have ih := dd_mem x (b :: r)
    rw [dd]
    by_cases h : a = b
    · subst h; rw [if_pos rfl, ih]; simp
    · rw [if_neg h, List.mem_cons, ih, List.mem_cons (a := x) (b := a)]
theorem dd_rise : ∀ (l : List UInt16), l.Pairwise (fun a b => a.toNat ≤ b.toNat) → Rise (dd l)
  | [], _ => List.Pairwise.nil
  | [a], _ => List.pairwise_singleton _ _
  | a :: b :: r, h => by
    have h2 := List.pairwise_cons.1 h
    have ih := dd_rise (b :: r) h2.2
    rw [dd]
    by_cases e : a = b
    · rw [if_pos e]; exact ih
    · rw [if_neg e]
      refine List.pairwise_cons.2 ⟨fun z hz => ?_, ih⟩
      rw [dd_mem] at hz
      have hab := h2.1 b (by simp)
      have hne : a.toNat ≠ b.toNat := fun q => e (UInt16.toNat_inj.1 q)
      rcases List.mem_cons.1 hz with rfl | hz
      · omega
      · have := (List.pairwise_cons.1 h2.2).1 z hz; omega
theorem rise_ext : ∀ {a b : Lb}, Rise a → Rise b → (∀ x, x ∈ a ↔ x ∈ b) → a = b
  | [], [], _, _, _ => rfl
  | [], y :: b, _, _, h => by have := (h y).2 (by simp); simp at this
  | x :: a, [], _, _, h => by have := (h x).1 (by simp); simp at this
  | x :: a, y :: b, ha, hb, h => by
    have ha' := List.pairwise_cons.1 ha
    have hb' := List.pairwise_cons.1 hb
    have e : x = y := by
      rcases List.mem_cons.1 ((h x).1 (by simp)) with q | q
      · exact q
      · rcases List.mem_cons.1 ((h y).2 (by simp)) with q' | q'
        · exact q'.symm
        · have := hb'.1 x q; have := ha'.1 y q'; omega
    subst e
    rw [rise_ext ha'.2 hb'.2 fun z => ?_]
    have hz := h z
    simp only [List.mem_cons] at hz
    constructor
    · intro q
      rcases hz.1 (.inr q) with r | r
      · subst r; have := ha'.1 z q; omega
      · exact r
    · intro q
      rcases hz.2 (.inr q) with r | r
      · subst r; have := hb'.1 z q; omega
      · exact r
def insT (x : UInt16) : Lb → Lb
  | [] => [x]
  | y :: r => if y.toNat < x.toNat then y :: insT x r else if y = x then y :: r else x :: y :: r
theorem insT_mem (x z : UInt16) : ∀ (l : Lb), z ∈ insT x l ↔ z = x ∨ z ∈ l
  | [] => by simp [insT]
  | y :: r => by
    rw [insT]
    split
    · rw [List.mem_cons, insT_mem x z r, List.mem_cons]; constructor <;> rintro (h | h | h) <;> simp [h]
    · split
      · rename_i h; subst h; simp
      · simp
theorem insT_rise {x : UInt16} : ∀ {l : Lb}, Rise l → Rise (insT x l)
  | [], _ => List.pairwise_singleton _ _
  | y :: r, h => by
    have h' := List.pairwise_cons.1 h
    rw [insT]
    split
    · refine List.pairwise_cons.2 ⟨fun z hz => ?_, insT_rise h'.2⟩
      rcases (insT_mem x z r).1 hz with rfl | hz
      · assumption
      · exact h'.1 z hz
    · split
      · exact h
      · rename_i h1 h2
        have hne : y.toNat ≠ x.toNat := fun q => h2 (UInt16.toNat_inj.1 q)
        refine List.pairwise_cons.2 ⟨fun z hz => ?_, h⟩
        rcases List.mem_cons.1 hz with rfl | hz
        · omega
        · have := h'.1 z hz; omega
def nrm (l : Lb) : Lb := l.foldl (fun acc x => insT x acc) []
theorem nrm_go : ∀ (l acc : Lb), Rise acc → Rise (l.foldl (fun acc x => insT x acc) acc) ∧ ∀ z, z ∈ l.foldl (fun acc x => insT x acc) acc ↔ z ∈ acc ∨ z ∈ l
  | [], acc, h => ⟨h, fun z => by simp⟩
  | x :: l, acc, h => by
    obtain ⟨h1, h2⟩ := nrm_go l (insT x acc) (insT_rise h)
    refine ⟨h1, fun z => ?_⟩
    rw [List.foldl_cons, h2, insT_mem, List.mem_cons]
    constructor
    · rintro ((h | h) | h) <;> simp [h]
    · rintro (h | h | h) <;> simp [h]
theorem nrm_rise (l : Lb) : Rise (nrm l) := (nrm_go l [] rise_nil).1
theorem nrm_mem (l : Lb) (z : UInt16) : z ∈ nrm l ↔ z ∈ l := by have := (nrm_go l [] rise_nil).2 z; simpa [nrm] using this
theorem nrm_of {l a : Lb} (h : Rise a) (hm : ∀ z, z ∈ a ↔ z ∈ l) : a = nrm l := rise_ext h (nrm_rise l) fun z => (hm z).trans (nrm_mem l z).symm
theorem sort_nrm {d d' : Ar} {n : Nat} (hd : d.size = n) (hp : PI 0 n d d') (hs : SortedIn ltT 0 n d') : dd d'.toList = nrm d.toList := by
  have hz : d'.size = n := hp.sz.trans hd
  have e1 : d.extract 0 n = d := by rw [← hd]; exact Array.extract_size
  have e2 : d'.extract 0 n = d' := by rw [← hz]; exact Array.extract_size
  have hperm := hp.2.2
  rw [e1, e2] at hperm
  refine nrm_of (dd_rise _ ?_) fun z => (dd_mem z _).trans hperm.mem_iff
  rw [List.pairwise_iff_getElem]
  intro i j hi hj hij
  have hi' : i < d'.size := by simpa using hi
  have hj' : j < d'.size := by simpa using hj
  have := hs i j (Nat.zero_le _) hij (by omega)
  simp only [ltT, decide_eq_false_iff_not] at this
  have a1 : d'[i]! = d'.toList[i] := by simp [hi']
  have a2 : d'[j]! = d'.toList[j] := by simp [hj']
  rw [a1, a2] at this
  omega
theorem take_nrm {l : Lb} {i : Nat} (h : i < l.length) : nrm (l.take (i + 1)) = insT (l.getD i 0) (nrm (l.take i)) := by
  have e : l.take (i + 1) = l.take i ++ [l.getD i 0] := by
    rw [List.take_add_one, List.getElem?_eq_getElem h]; simp [h]
  rw [e, nrm, List.foldl_append]; rfl
end Go.Proofs.Ytmhdbphpmgjpcaa

/- Labels taken apart and put together, plainly. -/
namespace Go.Proofs.Ytmhdbphpmgjpcaa
open Go.Gx Go.RowKit
theorem insT_len {x : UInt16} : ∀ {acc : Lb}, (insT x acc).length ≤ acc.length + 1
  | [] => by simp [insT]
  | y :: r => by
    have := insT_len (x := x) (acc := r)
    rw [insT]; split
    · simp; omega
    · split <;> simp
theorem nrm_len {l : Lb} {i : Nat} (h : i ≤ l.length) : (nrm (l.take i)).length ≤ i := by
  induction i with
  | zero => simp [nrm]
  | succ i ih => rw [take_nrm (by omega)]; have := insT_len (x := l.getD i 0) (acc := nrm (l.take i)); have := ih (by omega); omega
theorem nrm_lenL (l : Lb) : (nrm l).length ≤ l.length := by have := nrm_len (l := l) (Nat.le_refl _); rwa [List.take_length] at this
end Go.Proofs.Ytmhdbphpmgjpcaa

/- How lists of tags stand, plainly; labels made together. -/
namespace Go.Proofs.Ytmhdbphpmgjpcaa
open Go.Gx Go.RowKit
def joinL (a b : Lb) : Lb := nrm (a ++ b)
/-- the label of tags, or why there is none -/
def normE (l : Lb) : Int := if 8 < (nrm l).length then 7 else 0
def normL (l : Lb) : Lb := if 8 < (nrm l).length then [] else nrm l
theorem normE_bad {l : Lb} (h : 8 < (nrm l).length) : normE l = 7 := if_pos h
theorem normE_ok {l : Lb} (h : ¬ 8 < (nrm l).length) : normE l = 0 := if_neg h
theorem normL_bad {l : Lb} (h : 8 < (nrm l).length) : normL l = [] := if_pos h
theorem normL_ok {l : Lb} (h : ¬ 8 < (nrm l).length) : normL l = nrm l := if_neg h
theorem normL_len (l : Lb) : (normL l).length ≤ 8 := by
  unfold normL
  split
  · simp
  · omega
end Go.Proofs.Ytmhdbphpmgjpcaa

/- Sessions as objects: a box, a list of sessions with labels and posts of their own, a map of stamps. -/
namespace Go.Gx
/-- A session, plainly. -/
structure KS where
  label : List UInt16
  owns : List UInt16
  texts : List (List UInt8)
instance : Inhabited KS := ⟨⟨[], [], []⟩⟩
/-- Where a session's parts lie. -/
structure KC where
  lab : Value
  own : Value
  p : Nat
  F : Nat → Prop
instance : Inhabited KC := ⟨⟨.slice none 0 0, .slice none 0 0, 0, fun _ => False⟩⟩
def cellsK (c : KC) : List Value := [c.lab, c.own, ptr c.p 0]
abbrev PostS := PostR sv 126 9
def SessR (w : World) (base : Nat) (s : KS) (c : KC) : Prop :=
  Own w base 46 1 c.lab s.label.length (s.label.map u16v) ∧ Own w base 46 1 c.own s.owns.length (s.owns.map u16v) ∧ PostS w base c.p 16 s.texts c.F
def PartK (c : KC) (x : Nat) : Prop := Bl c.lab x ∨ Bl c.own x ∨ c.F x
/-- Sessions: box k, its list, its map of stamps M; F: all its blocks. -/
def KernR (w : World) (base k : Nat) (S : List KS) (M : List (List UInt8 × Int)) (F : Nat → Prop) : Prop :=
  ∃ (lv : Value) (m : Nat) (C : List KC), base ≤ k ∧ base ≤ m ∧ C.length = S.length ∧ Bx w k 134 [lv, .map (some m)] ∧ Own w base 137 3 lv S.length (C.flatMap cellsK) ∧ MapC sv (Value.int .u64) w m M ∧
    (∀ i, i < S.length → SessR w base (S.getD i default) (C.getD i default)) ∧ (∀ i j, i < S.length → j < S.length → i ≠ j → Dj (C.getD i default).F (C.getD j default).F) ∧
    (∀ x, F x ↔ x = k ∨ x = m ∨ Bl lv x ∨ ∃ i, i < S.length ∧ PartK (C.getD i default) x)
section
variable {w w' : World} {base k m b t e sz n p cap : Nat} {S : List KS} {M : List (List UInt8 × Int)} {F G : Nat → Prop} {cs : List Value} {v lv : Value} {L : List (List UInt8)}
/-! a post's blocks are none of another kind -/
theorem PostR.notBx {α : Type} {f : α → Value} {tp ep : Nat} {L : List α} (h : PostR f tp ep w base p cap L F) (B : Bx w b t cs) (h1 : t ≠ tp) (h2 : t ≠ ep) : ¬ F b := by
  obtain ⟨c, hv, H, B', _, _, _, _, _, _, hx, O, C, hF⟩ := h
  intro hf
  rcases (hF b).1 hf with rfl | rfl | hf
  · have := B.symm.trans hx; simp at this; exact h1 this.2
  · exact B.notCh C rfl
  · exact O.neB B h2 hf
theorem PostR.notOwn {α : Type} {f : α → Value} {tp ep : Nat} {L : List α} {base2 : Nat} (h : PostR f tp ep w base p cap L F) (O2 : Own w base2 e sz v n cs) (h1 : e ≠ tp) (h2 : e ≠ ep) : Dj (Bl v) F := by
  obtain ⟨c, hv, H, B', _, _, _, _, _, _, hx, O, C, hF⟩ := h
  intro x hx2 hf
  rcases (hF x).1 hf with rfl | rfl | hf
  · exact O2.neB hx (fun e => h1 e.symm) hx2
  · exact O2.notCh C hx2
  · rcases O2.2 with ⟨rfl, _⟩ | ⟨g, off, cap, cur, fr, rfl, hb, hg, _⟩
    · cases hx2
    · simp only [Bl, Value.ownBlock, Option.some.injEq] at hx2
      subst hx2
      rcases O.2 with ⟨rfl, _⟩ | ⟨g', off', cap', cur', fr', rfl, hb', hg', _⟩
      · cases hf
      · simp only [Value.ownBlock, Option.some.injEq] at hf
        subst hf
        have := hg.symm.trans hg'; simp at this; exact h2 this.2.1
theorem PostR.notMap {α K V : Type} {f : α → Value} {kv : K → Value} {vv : V → Value} {es : List (K × V)} {tp ep : Nat} {L : List α} (h : PostR f tp ep w base p cap L F) (M : MapC kv vv w m es) : ¬ F m := by
  obtain ⟨c, hv, H, B', _, _, _, _, _, _, hx, O, C, hF⟩ := h
  intro hf
  rcases (hF m).1 hf with rfl | rfl | hf
  · exact hx.notMap M rfl
  · obtain ⟨arr, cl, hm, _⟩ := M; obtain ⟨s, r, hc⟩ := C; rw [hm] at hc; simp at hc
  · exact O.notMap M hf
theorem KernR.lt (h : KernR w base k S M F) : ∀ x, F x → base ≤ x ∧ x < w.heap.size := by
  obtain ⟨lv, m, C, hk, hm, hC, hx, O, hM, hS, hD, hF⟩ := h
  intro x hf
  rcases (hF x).1 hf with rfl | rfl | hf | ⟨i, hi, hf⟩
  · exact ⟨hk, hx.lt⟩
  · exact ⟨hm, hM.lt⟩
  · exact O.lt x hf
  · obtain ⟨h1, h2, h3⟩ := hS i hi
    rcases hf with hf | hf | hf
    · exact h1.lt x hf
    · exact h2.lt x hf
    · exact h3.lt x hf
theorem SessR.keepG {s : KS} {c : KC} (h : SessR w base s c) (E : Gr w w' G) (hd : ∀ x, PartK c x → ¬ G x) : SessR w' base s c :=
  ⟨h.1.keepG E fun x hx => hd x (.inl hx), h.2.1.keepG E fun x hx => hd x (.inr (.inl hx)), h.2.2.keepG E fun x hx => hd x (.inr (.inr hx))⟩
theorem KernR.keepG (h : KernR w base k S M F) (E : Gr w w' G) (hd : Dj F G) : KernR w' base k S M F := by
  obtain ⟨lv, m, C, hk, hm, hC, hx, O, hM, hS, hD, hF⟩ := h
  exact ⟨lv, m, C, hk, hm, hC, hx.keepG E (hd k ((hF k).2 (.inl rfl))), O.keepG E (fun x hx => hd x ((hF x).2 (.inr (.inr (.inl hx))))), hM.keepG E (hd m ((hF m).2 (.inr (.inl rfl)))),
    fun i hi => (hS i hi).keepG E fun x hx => hd x ((hF x).2 (.inr (.inr (.inr ⟨i, hi, hx⟩)))), hD, hF⟩
theorem KernR.mono {base' : Nat} (h : KernR w base k S M F) (hb : base' ≤ base) : KernR w base' k S M F := by
  obtain ⟨lv, m, C, hk, hm, hC, hx, O, hM, hS, hD, hF⟩ := h
  exact ⟨lv, m, C, Nat.le_trans hb hk, Nat.le_trans hb hm, hC, hx, O.mono hb, hM, fun i hi => ⟨(hS i hi).1.mono hb, (hS i hi).2.1.mono hb, (hS i hi).2.2.mono hb⟩, hD, hF⟩
/-! what is there behind a turn of one session's post -/
theorem getD_set {α : Type} {l : List α} {i j : Nat} {x d : α} (hi : i < l.length) : (l.set i x).getD j d = if j = i then x else l.getD j d := by
  by_cases h : j = i
  · subst h; rw [if_pos rfl]; simp [List.getD_eq_getElem?_getD, hi]
  · rw [if_neg h]; simp [List.getD_eq_getElem?_getD, List.getElem?_set_ne (fun e => h e.symm)]
theorem flat_cellsK {C : List KC} {i : Nat} {F' : Nat → Prop} : (C.set i { C.getD i default with F := F' }).flatMap cellsK = C.flatMap cellsK := by
  induction C generalizing i with
  | nil => rfl
  | cons a C ih => cases i with
    | zero => rfl
    | succ i => simp only [List.set_cons_succ, List.flatMap_cons, List.getD_cons_succ]; rw [ih]
end
/-! elements of so many cells -/
theorem el_flat {α : Type} {f : α → List Value} {sz : Nat} {l : List α} {d : α} {e : Int} {i : Nat} (hp : 0 < sz) (hf : ∀ u ∈ l, (f u).length = sz) (he : e = (i : Int)) (h : i < l.length) : ∀ j u, (f (l.getD i d))[j]? = some u → (l.flatMap f)[e.toNat * sz + j]? = some u := by
  intro j u hu
  subst he
  have hm : l.getD i d ∈ l := getD_mem h
  have hj : j < sz := by have := (List.getElem?_eq_some_iff.1 hu).1; rwa [hf _ hm] at this
  rw [flat_get hp l hf, Int.toNat_natCast, Nat.mul_comm, Nat.mul_add_div hp, Nat.mul_add_mod, Nat.div_eq_of_lt hj, Nat.mod_eq_of_lt hj, Nat.add_zero]
  have : l[i]? = some (l.getD i d) := by simp [List.getD_eq_getElem?_getD, h]
  rw [this]; exact hu
theorem cellsK_len (C : List KC) : ∀ u ∈ C, (cellsK u).length = 3 := fun _ _ => rfl
theorem el_kc {C : List KC} {c : KC} {e : Int} {i n : Nat} (hc : C.length = n ∧ C.getD i default = c) (he : e = (i : Int)) (h : i < n) : ∀ j u, (cellsK c)[j]? = some u → (C.flatMap cellsK)[e.toNat * 3 + j]? = some u := by
  rw [← hc.2]; exact el_flat (by decide) (cellsK_len C) he (by rw [hc.1]; exact h)
theorem set_flat {α : Type} {f : α → List Value} {sz j : Nat} {d x : α} {vs : List Value} : ∀ {l : List α} {i : Nat}, (∀ u ∈ l, (f u).length = sz) → i < l.length → j + vs.length ≤ sz → f x = (f (l.getD i d)).take j ++ vs ++ (f (l.getD i d)).drop (j + vs.length) →
    (l.flatMap f).take (i * sz + j) ++ vs ++ (l.flatMap f).drop (i * sz + j + vs.length) = (l.set i x).flatMap f
  | [], _, _, h, _, _ => absurd h (Nat.not_lt_zero _)
  | a :: t, 0, hf, _, hj, hx => by
    have ha := hf a (by simp)
    simp only [List.getD_cons_zero] at hx
    simp only [Nat.zero_mul, Nat.zero_add, List.flatMap_cons, List.set_cons_zero, hx]
    rw [List.take_append_of_le_length (by omega), List.drop_append_of_le_length (by omega)]
    simp [List.append_assoc]
  | a :: t, i + 1, hf, h, hj, hx => by
    have ha := hf a (by simp)
    simp only [List.getD_cons_succ] at hx
    have ih := set_flat (l := t) (i := i) (fun u hu => hf u (by simp [hu])) (by simpa using h) hj hx
    have e1 : (i + 1) * sz + j = (f a).length + (i * sz + j) := by rw [ha, Nat.add_mul]; omega
    simp only [List.flatMap_cons, List.set_cons_succ]
    rw [e1, List.take_length_add_append, Nat.add_assoc, List.drop_length_add_append, ← ih]
    simp [List.append_assoc]
theorem set_kc {C : List KC} {n i p : Nat} {la ow v : Value} {Fi : Nat → Prop} (hc : C.length = n ∧ C.getD i default = ⟨la, ow, p, Fi⟩) (h : i < n) : (C.flatMap cellsK).take (i * 3 + 0) ++ [v] ++ (C.flatMap cellsK).drop (i * 3 + 0 + 1) = (C.set i ⟨v, ow, p, Fi⟩).flatMap cellsK :=
  set_flat (d := default) (cellsK_len C) (by rw [hc.1]; exact h) (by simp) (by rw [hc.2]; rfl)
theorem set_kc_same {C : List KC} {n i p : Nat} {la ow : Value} {Fi : Nat → Prop} (hc : C.length = n ∧ C.getD i default = ⟨la, ow, p, Fi⟩) (h : i < n) : C.set i ⟨la, ow, p, Fi⟩ = C := by
  rw [← hc.2]
  apply List.ext_getElem?
  intro j
  by_cases hj : i = j
  · subst hj; simp [List.getD_eq_getElem?_getD, hc.1, h]
  · rw [List.getElem?_set_ne hj]
/-! configs: labels and what is owned, as they are told -/
abbrev LBV := Value × List UInt16
def D2 : LBV := (.slice none 0 0, [])
abbrev CSn := LBV × LBV
def cells2 (c : CSn) : List Value := [c.1.1, c.2.1]
/-! sessions' parts, all together -/
def SessAll (w : World) (base : Nat) (S : List KS) (C : List KC) (F : Nat → Prop) : Prop :=
  C.length = S.length ∧ (∀ i, i < S.length → SessR w base (S.getD i default) (C.getD i default)) ∧ (∀ i j, i < S.length → j < S.length → i ≠ j → Dj (C.getD i default).F (C.getD j default).F) ∧ (∀ x, F x ↔ ∃ i, i < S.length ∧ PartK (C.getD i default) x)
section
variable {w w' : World} {base k m : Nat} {S : List KS} {C : List KC} {M : List (List UInt8 × Int)} {F G Fp : Nat → Prop} {lv la ow : Value} {l o : List UInt16} {T : List (List UInt8)} {p : Nat}
theorem SessR.part {s : KS} {c : KC} (h : SessR w base s c) : ∀ x, PartK c x → base ≤ x ∧ x < w.heap.size := fun x hx => by
  rcases hx with hx | hx | hx
  · exact h.1.lt x hx
  · exact h.2.1.lt x hx
  · exact h.2.2.lt x hx
theorem SessAll.lt (h : SessAll w base S C F) : ∀ x, F x → base ≤ x ∧ x < w.heap.size := fun x hx => by
  obtain ⟨i, hi, hx⟩ := (h.2.2.2 x).1 hx
  exact (h.2.1 i hi).part x hx
theorem SessAll.keepG (h : SessAll w base S C F) (E : Gr w w' G) (hd : Dj F G) : SessAll w' base S C F :=
  ⟨h.1, fun i hi => (h.2.1 i hi).keepG E fun x hx => hd x ((h.2.2.2 x).2 ⟨i, hi, hx⟩), h.2.2.1, h.2.2.2⟩
theorem SessAll.nil (w : World) (base : Nat) : SessAll w base [] [] NoB := ⟨rfl, fun _ h => absurd h (Nat.not_lt_zero _), fun _ _ h => absurd h (Nat.not_lt_zero _), fun x => ⟨fun h => h.elim, fun ⟨_, h, _⟩ => absurd h (Nat.not_lt_zero _)⟩⟩
theorem getD_snoc_lt {α : Type} {A : List α} {x d : α} {i : Nat} (h : i < A.length) : (A ++ [x]).getD i d = A.getD i d := by simp [List.getD_eq_getElem?_getD, List.getElem?_append_left h]
theorem getD_snoc_eq {α : Type} {A : List α} {x d : α} : (A ++ [x]).getD A.length d = x := by simp [List.getD_eq_getElem?_getD]
theorem SessAll.snoc (h : SessAll w base S C F) (hL : Own w base 46 1 la l.length (l.map u16v)) (hW : Own w base 46 1 ow o.length (o.map u16v)) (hQ : PostS w base p 16 T Fp) (hd : Dj F Fp) :
    SessAll w base (S ++ [⟨l, o, T⟩]) (C ++ [⟨la, ow, p, Fp⟩]) (fun x => F x ∨ Bl la x ∨ Bl ow x ∨ Fp x) := by
  obtain ⟨h1, h2, h3, h4⟩ := h
  have hlast : ∀ {i}, i < (S ++ [(⟨l, o, T⟩ : KS)]).length → ¬ i < S.length → i = S.length := fun {i} a b => by simp at a; omega
  have eC : (C ++ [(⟨la, ow, p, Fp⟩ : KC)]).getD S.length default = ⟨la, ow, p, Fp⟩ := by rw [← h1]; exact getD_snoc_eq
  have hdj : ∀ i, i < S.length → Dj (C.getD i default).F Fp := fun i hi x hx => hd x ((h4 x).2 ⟨i, hi, .inr (.inr hx)⟩)
  refine ⟨by simp [h1], fun i hi => ?_, fun i j hi hj hne => ?_, fun x => ⟨fun hx => ?_, fun hx => ?_⟩⟩
  · by_cases hs : i < S.length
    · rw [getD_snoc_lt hs, getD_snoc_lt (by rw [h1]; exact hs)]; exact h2 i hs
    · obtain rfl := hlast hi hs
      rw [getD_snoc_eq, eC]; exact ⟨hL, hW, hQ⟩
  · by_cases hs : i < S.length <;> by_cases hs2 : j < S.length
    · rw [getD_snoc_lt (by rw [h1]; exact hs), getD_snoc_lt (by rw [h1]; exact hs2)]; exact h3 i j hs hs2 hne
    · obtain rfl := hlast hj hs2
      rw [getD_snoc_lt (by rw [h1]; exact hs), eC]; exact hdj i hs
    · obtain rfl := hlast hi hs
      rw [eC, getD_snoc_lt (by rw [h1]; exact hs2)]; exact (hdj j hs2).symm
    · exact absurd ((hlast hi hs).trans (hlast hj hs2).symm) hne
  · rcases hx with hx | hx
    · obtain ⟨i, hi, hx⟩ := (h4 x).1 hx
      exact ⟨i, by simp; omega, by rw [getD_snoc_lt (by rw [h1]; exact hi)]; exact hx⟩
    · exact ⟨S.length, by simp, by rw [eC]; exact hx⟩
  · obtain ⟨i, hi, hx⟩ := hx
    by_cases hs : i < S.length
    · rw [getD_snoc_lt (by rw [h1]; exact hs)] at hx; exact .inl ((h4 x).2 ⟨i, hs, hx⟩)
    · obtain rfl := hlast hi hs
      rw [eC] at hx; exact .inr hx
theorem Own.notOwn {e sz n base2 e2 sz2 n2 : Nat} {v v2 : Value} {cs cs2 : List Value} (O : Own w base e sz v n cs) (O2 : Own w base2 e2 sz2 v2 n2 cs2) (h : e ≠ e2) : DJ v v2 := by
  intro x hx hf
  rcases O.2 with ⟨rfl, _⟩ | ⟨g, off, cap, cur, fr, rfl, hb, hg, _⟩
  · cases hx
  · simp only [Value.ownBlock, Option.some.injEq] at hx
    subst hx
    rcases O2.2 with ⟨rfl, _⟩ | ⟨g', off', cap', cur', fr', rfl, hb', hg', _⟩
    · cases hf
    · simp only [Value.ownBlock, Option.some.injEq] at hf
      subst hf
      have := hg.symm.trans hg'; simp at this; exact h this.2.1
theorem SessAll.notBx {b t : Nat} {cs : List Value} (h : SessAll w base S C F) (B : Bx w b t cs) (h1 : t ≠ 126) (h2 : t ≠ 9) (h3 : t ≠ 46) : ¬ F b := fun hf => by
  obtain ⟨i, hi, hf⟩ := (h.2.2.2 b).1 hf
  obtain ⟨a1, a2, a3⟩ := h.2.1 i hi
  rcases hf with hf | hf | hf
  · exact a1.neB B h3 hf
  · exact a2.neB B h3 hf
  · exact a3.notBx B h1 h2 hf
theorem SessAll.notOwn {e sz n base2 : Nat} {v : Value} {cs : List Value} (h : SessAll w base S C F) (O : Own w base2 e sz v n cs) (h1 : e ≠ 126) (h2 : e ≠ 9) (h3 : e ≠ 46) : Dj (Bl v) F := fun x hx hf => by
  obtain ⟨i, hi, hf⟩ := (h.2.2.2 x).1 hf
  obtain ⟨a1, a2, a3⟩ := h.2.1 i hi
  rcases hf with hf | hf | hf
  · exact O.notOwn a1 h3 x hx hf
  · exact O.notOwn a2 h3 x hx hf
  · exact a3.notOwn O h1 h2 x hx hf
theorem SessAll.notMap {K V : Type} {kv : K → Value} {vv : V → Value} {es : List (K × V)} (h : SessAll w base S C F) (M : MapC kv vv w m es) : ¬ F m := fun hf => by
  obtain ⟨i, hi, hf⟩ := (h.2.2.2 m).1 hf
  obtain ⟨a1, a2, a3⟩ := h.2.1 i hi
  rcases hf with hf | hf | hf
  · exact a1.notMap M hf
  · exact a2.notMap M hf
  · exact a3.notMap M hf
theorem cs_len {L : List CSn} {i : Nat} (h : ∀ x ∈ L, x.1.2.length ≤ 9223372036854775807 ∧ x.2.2.length ≤ 9223372036854775807) (hi : i < L.length) : ((L.map Prod.fst).getD i D2).2.length ≤ 9223372036854775807 ∧ ((L.map Prod.snd).getD i D2).2.length ≤ 9223372036854775807 := by
  have := h L[i] (List.getElem_mem hi)
  simpa [List.getD_eq_getElem?_getD, hi] using this
theorem SessAll.kern (h : SessAll w base S C F) (hk : base ≤ k) (hm : base ≤ m) (hx : Bx w k 134 [lv, .map (some m)]) (O : Own w base 137 3 lv S.length (C.flatMap cellsK)) (hM : MapC sv (Value.int .u64) w m M) :
    KernR w base k S M (fun x => x = k ∨ x = m ∨ Bl lv x ∨ F x) :=
  ⟨lv, m, C, hk, hm, h.1, hx, O, hM, h.2.1, h.2.2.1, fun x => by simp only [h.2.2.2 x]⟩
theorem KernR.all (h : KernR w base k S M F) : ∃ lv m C F0, base ≤ k ∧ base ≤ m ∧ Bx w k 134 [lv, .map (some m)] ∧ Own w base 137 3 lv S.length (C.flatMap cellsK) ∧ MapC sv (Value.int .u64) w m M ∧ SessAll w base S C F0 ∧ ∀ x, F x ↔ x = k ∨ x = m ∨ Bl lv x ∨ F0 x := by
  obtain ⟨lv, m, C, hk, hm, hC, hx, O, hM, hS, hD, hF⟩ := h
  exact ⟨lv, m, C, _, hk, hm, hx, O, hM, ⟨hC, hS, hD, fun x => Iff.rfl⟩, hF⟩
theorem el_cs {L : List CSn} {e : Int} {i : Nat} (he : e = (i : Int)) (h : i < L.length) : ∀ j u, ([((L.map Prod.fst).getD i D2).1, ((L.map Prod.snd).getD i D2).1] : List Value)[j]? = some u → (L.flatMap cells2)[e.toNat * 2 + j]? = some u := by
  intro j u hu
  refine el_flat (f := cells2) (sz := 2) (d := (D2, D2)) (by decide) (fun _ _ => rfl) he h j u ?_
  have e1 : (L.map Prod.fst).getD i D2 = (L.getD i (D2, D2)).1 := by simp only [List.getD_eq_getElem?_getD, List.getElem?_map]; cases L[i]? <;> rfl
  have e2 : (L.map Prod.snd).getD i D2 = (L.getD i (D2, D2)).2 := by simp only [List.getD_eq_getElem?_getD, List.getElem?_map]; cases L[i]? <;> rfl
  rw [e1, e2] at hu; exact hu
def ksOf (c : CSn) : KS := ⟨c.1.2, c.2.2, []⟩
theorem ks_step {L : List CSn} {i : Nat} (h : i < L.length) : (L.take (i + 1)).map ksOf = (L.take i).map ksOf ++ [⟨((L.map Prod.fst).getD i D2).2, ((L.map Prod.snd).getD i D2).2, []⟩] := by
  have e1 : (L.map Prod.fst).getD i D2 = (L.getD i (D2, D2)).1 := by simp only [List.getD_eq_getElem?_getD, List.getElem?_map]; cases L[i]? <;> rfl
  have e2 : (L.map Prod.snd).getD i D2 = (L.getD i (D2, D2)).2 := by simp only [List.getD_eq_getElem?_getD, List.getElem?_map]; cases L[i]? <;> rfl
  have e3 : L.take (i + 1) = L.take i ++ [L.getD i (D2, D2)] := by simp [List.getD_eq_getElem?_getD, h]
  rw [e1, e2, e3, List.map_append]; rfl
end
end Go.Gx
namespace Go.Proofs.Ytmhdbphpmgjpcaa
open Go.Gx
/-- What comes of a raising. -/
def raiseOk (l t : List UInt16) : Bool := decide ((nrm t).length ≤ 8) && mayL (joinL l (nrm t))
def raiseL (l t : List UInt16) : List UInt16 := if raiseOk l t = true then joinL l (nrm t) else l
def raiseE (l t : List UInt16) : Int := if raiseOk l t = true then 0 else 7
theorem raise_t {l t : List UInt16} (h : raiseOk l t = true) : raiseL l t = joinL l (nrm t) ∧ raiseE l t = 0 := ⟨if_pos h, if_pos h⟩
theorem raise_f {l t : List UInt16} (h : raiseOk l t = false) : raiseL l t = l ∧ raiseE l t = 7 := ⟨if_neg (by rw [h]; simp), if_neg (by rw [h]; simp)⟩
/-- Which configs may be. -/
def cfgOk (L : List CSn) (q : Int) : Bool := decide (L.length ≠ 0) && decide (L.length ≤ 6) && decide (1 ≤ q) && decide (q ≤ 200) && L.all fun c => mayL c.1.2 && mayL c.2.2
theorem all_may {L : List CSn} {i : Nat} (h : ∀ j, j < i → mayL ((L.map Prod.fst).getD j D2).2 = true ∧ mayL ((L.map Prod.snd).getD j D2).2 = true) (hi : L.length ≤ i) : (L.all fun c => mayL c.1.2 && mayL c.2.2) = true := by
  rw [List.all_eq_true]
  intro c hc
  obtain ⟨j, hj, rfl⟩ := List.mem_iff_getElem.1 hc
  have := h j (by omega)
  simp only [List.getD_eq_getElem?_getD, List.getElem?_map, List.getElem?_eq_getElem hj, Option.map_some, Option.getD_some] at this
  rw [this.1, this.2]; rfl
theorem not_may {L : List CSn} {i : Nat} (hi : i < L.length) (h : mayL ((L.map Prod.fst).getD i D2).2 = false ∨ mayL ((L.map Prod.snd).getD i D2).2 = false) : (L.all fun c => mayL c.1.2 && mayL c.2.2) = false := by
  rw [← Bool.not_eq_true, List.all_eq_true]
  intro hh
  have := hh L[i] (List.getElem_mem hi)
  simp only [List.getD_eq_getElem?_getD, List.getElem?_map, List.getElem?_eq_getElem hi, Option.map_some, Option.getD_some] at h
  rcases h with h | h <;> rw [h] at this <;> simp at this
theorem may_snoc {L : List CSn} {i : Nat} (h : ∀ j, j < i → mayL ((L.map Prod.fst).getD j D2).2 = true ∧ mayL ((L.map Prod.snd).getD j D2).2 = true) (h1 : mayL ((L.map Prod.fst).getD i D2).2 = true) (h2 : mayL ((L.map Prod.snd).getD i D2).2 = true) :
    ∀ j, j < i + 1 → mayL ((L.map Prod.fst).getD j D2).2 = true ∧ mayL ((L.map Prod.snd).getD j D2).2 = true := fun j hj => by
  by_cases hji : j = i
  · subst hji; exact ⟨h1, h2⟩
  · exact h j (by omega)
theorem cfg_f1 {L : List CSn} {q : Int} (h : L.length = 0 ∨ 6 < L.length ∨ q < 1 ∨ 200 < q) : cfgOk L q = false := by
  unfold cfgOk
  rcases h with h | h | h | h
  · rw [decide_eq_false (p := L.length ≠ 0) (by omega)]; rfl
  · rw [decide_eq_false (p := L.length ≤ 6) (by omega)]; simp
  · rw [decide_eq_false (p := 1 ≤ q) (by omega)]; simp
  · rw [decide_eq_false (p := q ≤ 200) (by omega)]; simp
theorem cfg_f2 {L : List CSn} {q : Int} (h : (L.all fun c => mayL c.1.2 && mayL c.2.2) = false) : cfgOk L q = false := by unfold cfgOk; rw [h]; simp
theorem cfg_t {L : List CSn} {q : Int} (h0 : L.length ≠ 0) (h1 : L.length ≤ 6) (h2 : 1 ≤ q) (h3 : q ≤ 200) (h : (L.all fun c => mayL c.1.2 && mayL c.2.2) = true) : cfgOk L q = true := by
  unfold cfgOk; rw [h, decide_eq_true h0, decide_eq_true h1, decide_eq_true h2, decide_eq_true h3]; rfl
end Go.Proofs.Ytmhdbphpmgjpcaa

/- Walks, written by a program: what each function of the translation hands back. -/
namespace Go.Proofs.Ytmhdbphpmgjpcaa
open Go.Gx Go.RowKit
attribute [local irreducible] wpList wpStill Code.wp Calls

theorem isNaN16_ret (m : UInt16) (w : World) : Ret Try.prog 151 #[(Value.int .u16 (m.toNat : Int))] w (fun v' w' => v' = .bool false ∧ w' = w) := by
 have hb := Below.refl w.heap.size w
 refine enter (N := 6) Try.func151 rfl rfl (by simp) fun a0 hN hd hA => ?_
 have s0 : a0.tmps.getD 0 undef = (Value.int .u16 (m.toNat : Int)) := hA 0 (by simp)
 clear hA
 refine seq_any fun K1 hK1 => ?_
 refine one_reg ?_
 refine op_assign rfl ?_
 refine reg_nil ?_
 refine hK1 _ _ ?_
 refine seq_any fun K2 hK2 => ?_
 refine one_reg ?_
 refine op_move (ev_base hN rfl s0) ?_
 refine op_move (ev_base hN rfl s0) ?_
 refine op_neq (ev_hit hN rfl) (ev_hit hN rfl) (fun c5 => ?_) (fun c5 => ?_)
 · -- 5T
  refine op_assign (ev_hit hN rfl) ?_
  refine reg_nil ?_
  refine hK2 _ _ ?_
  refine wp_ret ?_
  refine ret1 rfl hd (ev_hit hN rfl) ⟨_, rfl, ?_⟩
  -- path 5T
  exact (c5 rfl).elim
 · -- 5F
  refine op_assign (ev_hit hN rfl) ?_
  refine reg_nil ?_
  refine hK2 _ _ ?_
  refine wp_ret ?_
  refine ret1 rfl hd (ev_hit hN rfl) ⟨_, rfl, ?_⟩
  -- path 5F
  exact ⟨rfl, rfl⟩

theorem Less16_ret (x y : UInt16) (w : World) : Ret Try.prog 159 #[(Value.int .u16 (x.toNat : Int)), (Value.int .u16 (y.toNat : Int))] w (fun v' w' => v' = .bool (ltT x y) ∧ w' = w) := by
 have hb := Below.refl w.heap.size w
 refine enter (N := 17) Try.func159 rfl rfl (by simp) fun a0 hN hd hA => ?_
 have s0 : a0.tmps.getD 0 undef = (Value.int .u16 (x.toNat : Int)) := hA 0 (by simp)
 have s1 : a0.tmps.getD 1 undef = (Value.int .u16 (y.toNat : Int)) := hA 1 (by simp)
 clear hA
 refine seq_any fun K3 hK3 => ?_
 refine one_reg ?_
 refine op_assign rfl ?_
 refine reg_nil ?_
 refine hK3 _ _ ?_
 refine seq_any fun K4 hK4 => ?_
 refine one_reg ?_
 refine op_move (ev_base hN rfl s0) ?_
 refine op_fn (vs := [(Value.int .u16 (x.toNat : Int))]) ok151 ⟨(ev_hit hN rfl), trivial⟩ (Ret.flip (isNaN16_ret x _)) ?_
 rintro _ _ ⟨rfl, rfl⟩
 refine op_move (ev_hit hN rfl) ?_
 refine g_false (j := 2) (dj := 7) (b := true) rfl rfl rfl (ev_hit hN rfl) rfl rfl ?_
 refine g_false (j := 2) (dj := 7) (b := true) rfl rfl rfl (ev_hit hN rfl) rfl rfl ?_
 refine g_false (j := 2) (dj := 7) (b := true) rfl rfl rfl (ev_hit hN rfl) rfl rfl ?_
 refine op_pick_f (ev_hit hN rfl) rfl ?_
 refine op_move (ev_hit hN rfl) ?_
 refine g_true (j := 7) (dj := 12) (b := false) rfl rfl rfl (ev_hit hN rfl) ?_
 refine op_move (ev_base hN rfl s0) ?_
 refine g_true (j := 7) (dj := 12) (b := false) rfl rfl rfl (ev_hit hN rfl) ?_
 refine op_move (ev_base hN rfl s1) ?_
 refine g_true (j := 7) (dj := 12) (b := false) rfl rfl rfl (ev_hit hN rfl) ?_
 refine op_lss (ev_hit hN rfl) (ev_hit hN rfl) (fun c15 => ?_) (fun c15 => ?_)
 · -- 15T
  refine op_pick_f (ev_hit hN rfl) (ev_hit hN rfl) ?_
  refine op_assign (ev_hit hN rfl) ?_
  refine reg_nil ?_
  refine hK4 _ _ ?_
  refine wp_ret ?_
  refine ret1 rfl hd (ev_hit hN rfl) ⟨_, rfl, ?_⟩
  -- path 15T
  exact ⟨congrArg Value.bool (ltT_t c15).symm, rfl⟩
 · -- 15F
  refine op_pick_f (ev_hit hN rfl) (ev_hit hN rfl) ?_
  refine op_assign (ev_hit hN rfl) ?_
  refine reg_nil ?_
  refine hK4 _ _ ?_
  refine wp_ret ?_
  refine ret1 rfl hd (ev_hit hN rfl) ⟨_, rfl, ?_⟩
  -- path 15F
  exact ⟨congrArg Value.bool (ltT_f c15).symm, rfl⟩

end Go.Proofs.Ytmhdbphpmgjpcaa

/- Walks, written by a program: what each function of the translation hands back. -/
namespace Go.Proofs.Ytmhdbphpmgjpcaa
open Go.Gx Go.RowKit
attribute [local irreducible] wpList wpStill Code.wp Calls
open Go.Sort (insertionSort insOuter insInner swp siftDown heapSort heapBuild heapPop scanUp scanDown partition partLoop partitionEqual partEqLoop scanSorted partialIns bitsLen partialInsertionSort shiftDown shiftUp SortedIn reverseRange reverseLoop fixDown fixUp)
theorem insSort_ret (d : Ar) (v : Value) (n base : Nat) (a b : Nat) (w : World) (hd : d.size = n) (hn : n ≤ 4000000000000000000) (O : Own w base 46 1 v n (d.toList.map u16v)) (hab : a ≤ b) (hbn : b ≤ n) : Ret Try.prog 153 #[v, (Value.int .i64 ((a : Nat) : Int)), (Value.int .i64 ((b : Nat) : Int))] w (fun v' w' => w.grownBy w' v.ownBlock ∧ v' = .tuple #[] ∧ Own w' base 46 1 v n ((insertionSort ltT d a b).toList.map u16v)) := by
 have hb := grown_refl w v.ownBlock
 refine enter (N := 49) Try.func153 rfl rfl (by simp) fun a0 hN hd hA => ?_
 have s0 : a0.tmps.getD 0 undef = v := hA 0 (by simp)
 have s1 : a0.tmps.getD 1 undef = (Value.int .i64 ((a : Nat) : Int)) := hA 1 (by simp)
 have s2 : a0.tmps.getD 2 undef = (Value.int .i64 ((b : Nat) : Int)) := hA 2 (by simp)
 clear hA
 refine seq_any fun K1 hK1 => ?_
 refine one_reg ?_
 refine op_move (ev_base hN rfl s1) ?_
 refine op_add (ev_hit hN rfl) rfl (add64 (by omega)) ?_
 refine op_assign (ev_hit hN rfl) ?_
 refine reg_nil ?_
 refine hK1 _ _ ?_
 refine wp_block ?_
 refine loop_m (fun mz_ az_ w' => ∃ (i : Nat) (dk : Ar), mz_ = b - i ∧ (az_.tmps.getD 0 undef = v) ∧ (az_.tmps.getD 1 undef = (Value.int .i64 ((a : Nat) : Int))) ∧ (az_.tmps.getD 2 undef = (Value.int .i64 ((b : Nat) : Int))) ∧ (az_.tmps.getD 6 undef = (Value.int .i64 ((i : Nat) : Int))) ∧ (dk.size = n) ∧ (a + 1 ≤ i ∧ (i ≤ b ∨ i = a + 1)) ∧ (insOuter ltT a b (a + 1) d = insOuter ltT a b i dk) ∧ (w.grownBy w' v.ownBlock) ∧ (w.heap.size ≤ w'.heap.size) ∧ (Own w' base 46 1 v n (dk.toList.map u16v))) _ hN hd ⟨(a + 1), _, rfl, (sl_base hN rfl s0), (sl_base hN rfl s1), (sl_base hN rfl s2), (sl_hit hN rfl).trans (congrArg (Value.int .i64) (by omega)), (by first | assumption | (simp only [Array.size_setIfInBounds, swp_sz, siftDown_size]; assumption)), ⟨Nat.le_refl _, .inr rfl⟩, rfl, hb, (Nat.le_refl _), O⟩ ?_
 rintro _ a2 w2 hN2 hd2 ⟨i, dk, rfl, s2_0, s2_1, s2_2, s2_6, hdk, hi, ho, hb, zl_w2, hO3⟩
 have z_w2 := hb.size
 refine seq_any fun K4 hK4 => ?_
 refine seq_any fun K5 hK5 => ?_
 refine one_reg ?_
 refine op_move (ev_base hN2 rfl s2_6) ?_
 refine op_move (ev_base hN2 rfl s2_2) ?_
 refine op_lss (ev_hit hN2 rfl) (ev_hit hN2 rfl) (fun c12 => ?_) (fun c12 => ?_)
 · -- 12T
  refine reg_nil ?_
  refine hK5 _ _ ?_
  refine wp_cond_true (ev_hit hN2 rfl) ?_
  refine wp_skip ?_
  refine hK4 _ _ ?_
  refine seq_any fun K6 hK6 => ?_
  refine wp_block ?_
  refine seq_any fun K7 hK7 => ?_
  refine one_reg ?_
  refine op_move (ev_base hN2 rfl s2_6) ?_
  refine op_assign (ev_hit hN2 rfl) ?_
  refine reg_nil ?_
  refine hK7 _ _ ?_
  refine wp_block ?_
  refine loop_m (fun mz_ az_ w' => ∃ (jj : Nat) (dj : Ar), mz_ = (jj + 1) ∧ (az_.tmps.getD 0 undef = v) ∧ (az_.tmps.getD 1 undef = (Value.int .i64 ((a : Nat) : Int))) ∧ (az_.tmps.getD 2 undef = (Value.int .i64 ((b : Nat) : Int))) ∧ (az_.tmps.getD 6 undef = (Value.int .i64 ((i : Nat) : Int))) ∧ (az_.tmps.getD 7 undef = (Value.int .i64 ((jj : Nat) : Int))) ∧ (dj.size = n) ∧ (a ≤ jj ∧ jj ≤ i) ∧ (insInner ltT a i dk = insInner ltT a jj dj) ∧ (w.grownBy w' v.ownBlock) ∧ (w2.heap.size ≤ w'.heap.size) ∧ (Own w' base 46 1 v n (dj.toList.map u16v))) _ hN2 hd2 ⟨i, _, rfl, (sl_base hN2 rfl s2_0), (sl_base hN2 rfl s2_1), (sl_base hN2 rfl s2_2), (sl_base hN2 rfl s2_6), (sl_hit hN2 rfl).trans (congrArg (Value.int .i64) (by omega)), (by first | assumption | (simp only [Array.size_setIfInBounds, swp_sz, siftDown_size]; assumption)), (by omega), rfl, hb, (Nat.le_refl _), hO3⟩ ?_
  rintro _ a8 w8 hN8 hd8 ⟨jj, dj, rfl, s8_0, s8_1, s8_2, s8_6, s8_7, hdj, hji, hj, hb, zl_w8, hO9⟩
  have z_w8 := hb.size
  refine seq_any fun K10 hK10 => ?_
  refine seq_any fun K11 hK11 => ?_
  refine reg_still mixed (by kernel_rfl) ?_
  intro w13 E12
  have z_w13 := E12.size
  have hO9 := hO9.keep0 E12
  have hb := grow_step0 hb E12
  refine st_step rfl (fun _ h9 => op_move (ev_base hN8 rfl s8_7) h9) ?_
  refine st_step rfl (fun _ h9 => op_move (ev_base hN8 rfl s8_1) h9) ?_
  by_cases g18 : ((a : Nat) : Int) < ((jj : Nat) : Int)
  · -- 18T
   refine st_step rfl (fun _ h9 => op_cmp (b := true) (ev_hit hN8 rfl) (ev_hit hN8 rfl) (b_gtr (decide_eq_true g18)) h9) ?_
   refine st_step rfl (fun _ h9 => op_move (ev_hit hN8 rfl) h9) ?_
   refine st_g_true (j := 3) (dj := 19) (b := true) rfl rfl rfl (ev_hit hN8 rfl) ?_
   refine st_step rfl (fun _ h9 => op_move (ev_base hN8 rfl s8_0) h9) ?_
   refine st_g_true (j := 3) (dj := 19) (b := true) rfl rfl rfl (ev_hit hN8 rfl) ?_
   refine st_step rfl (fun _ h9 => op_move (ev_base hN8 rfl s8_7) h9) ?_
   refine st_g_true (j := 3) (dj := 19) (b := true) rfl rfl rfl (ev_hit hN8 rfl) ?_
   refine st_index_rd slt45 (ev_hit hN8 rfl) hO9.rdw (ev_hit hN8 rfl) (by omega) (by omega) ?_
   intro b14 o15 h0b14 h1b14 hc16
   refine st_g_true (j := 3) (dj := 19) (b := true) rfl rfl rfl (ev_hit hN8 rfl) ?_
   refine st_step rfl (fun _ h9 => op_load1 (v := (Value.int .u16 (dj[jj]!.toNat : Int))) one46 (ev_hit hN8 rfl) (by have := hc16 0 (Value.int .u16 (dj[jj]!.toNat : Int)) (by decide) (el_arr (i := jj) (by omega) (by first | omega | (simp only [Array.size_setIfInBounds, swp_sz, siftDown_size]; omega))); simpa using this) h9) ?_
   refine st_g_true (j := 3) (dj := 19) (b := true) rfl rfl rfl (ev_hit hN8 rfl) ?_
   refine st_step rfl (fun _ h9 => op_move (ev_base hN8 rfl s8_0) h9) ?_
   refine st_g_true (j := 3) (dj := 19) (b := true) rfl rfl rfl (ev_hit hN8 rfl) ?_
   refine st_step rfl (fun _ h9 => op_move (ev_base hN8 rfl s8_7) h9) ?_
   refine st_g_true (j := 3) (dj := 19) (b := true) rfl rfl rfl (ev_hit hN8 rfl) ?_
   refine st_step rfl (fun _ h9 => op_sub (ev_hit hN8 rfl) rfl (sub64 (by omega)) h9) ?_
   refine st_g_true (j := 3) (dj := 19) (b := true) rfl rfl rfl (ev_hit hN8 rfl) ?_
   refine st_index_rd slt45 (ev_hit hN8 rfl) hO9.rdw (ev_hit hN8 rfl) (by omega) (by omega) ?_
   intro b17 o18 h0b17 h1b17 hc19
   refine st_g_true (j := 3) (dj := 19) (b := true) rfl rfl rfl (ev_hit hN8 rfl) ?_
   refine st_step rfl (fun _ h9 => op_load1 (v := (Value.int .u16 (dj[(jj - 1)]!.toNat : Int))) one46 (ev_hit hN8 rfl) (by have := hc19 0 (Value.int .u16 (dj[(jj - 1)]!.toNat : Int)) (by decide) (el_arr (i := (jj - 1)) (by omega) (by first | omega | (simp only [Array.size_setIfInBounds, swp_sz, siftDown_size]; omega))); simpa using this) h9) ?_
   refine st_g_true (j := 3) (dj := 19) (b := true) rfl rfl rfl (ev_hit hN8 rfl) ?_
   refine st_fn (vs := [(Value.int .u16 (dj[jj]!.toNat : Int)), (Value.int .u16 (dj[(jj - 1)]!.toNat : Int))]) ok159 (⟨(ev_hit hN8 rfl), ⟨(ev_hit hN8 rfl), trivial⟩⟩) (Less16_ret dj[jj]! dj[(jj - 1)]! _) ?_
   refine st_step rfl (fun _ h9 => op_pick_t (ev_hit hN8 rfl) (ev_hit hN8 rfl) h9) ?_
   refine st_nil ?_
   refine hK11 _ _ ?_
   refine wp_cond_split (ev_hit hN8 rfl) (fun c30 => ?_) (fun c30 => ?_)
   · -- 30T
    refine wp_skip ?_
    refine hK10 _ _ ?_
    refine seq_any fun K20 hK20 => ?_
    refine wp_block ?_
    refine reg_mid (e := 46) (sz := 1) (base := base) (n := n) (v := v) (Φ := phiL [(fun uz _ => uz = v), (fun uz _ => uz = (Value.int .i64 ((jj : Nat) : Int))), (fun uz _ => uz = v), (fun uz _ => uz = (Value.int .i64 ((jj : Nat) : Int))), (fun uz _ => uz = (Value.int .i64 (((jj : Nat) : Int) - 1))), (fun uz _ => uz = v), (fun uz _ => uz = (Value.int .i64 ((jj : Nat) : Int))), (fun uz _ => uz = (Value.int .i64 (((jj : Nat) : Int) - 1))), (fun uz _ => ∃ bz oz, uz = ptr bz oz ∧ AtV v (jj - 1) bz oz), (fun uz _ => uz = (Value.int .u16 (dj[(jj - 1)]!.toNat : Int))), (fun uz _ => uz = v), (fun uz _ => uz = (Value.int .i64 ((jj : Nat) : Int))), (fun uz _ => ∃ bz oz, uz = ptr bz oz ∧ AtV v jj bz oz), (fun uz _ => uz = (Value.int .u16 (dj[jj]!.toNat : Int))), (fun uz _ => ∃ bz oz, uz = ptr bz oz ∧ AtV v jj bz oz), (fun _ _ => True), (fun uz _ => ∃ bz oz, uz = ptr bz oz ∧ AtV v (jj - 1) bz oz), (fun _ _ => True)]) [15, 17] [(dj.toList.map u16v), ((dj.setIfInBounds jj dj[(jj - 1)]!).toList.map u16v), (((dj.setIfInBounds jj dj[(jj - 1)]!).setIfInBounds (jj - 1) dj[jj]!).toList.map u16v)] mixed (by kernel_rfl) (by kernel_rfl) (by kernel_rfl) (by kernel_rfl) hN8 hO9 (StL.get (StL.eq (StL.eq (StL.eq (StL.eq (StL.eq (StL.eq (StL.eq (StL.eq (StL.at (StL.eq (StL.eq (StL.eq (StL.at (StL.eq (StL.at (StL.cons (fun _ _ _ _ h => h) (StL.at (StL.cons (fun _ _ _ _ h => h) (StL.nil _)))))))))))))))))))) (ObRs.get (ObRs.cons ?_ (ObRs.cons ?_ (ObRs.cons ?_ (ObRs.cons ?_ (ObRs.cons ?_ (ObRs.cons ?_ (ObRs.cons ?_ (ObRs.cons ?_ (ObRs.cons ?_ (ObRs.cons ?_ (ObRs.cons ?_ (ObRs.cons ?_ (ObRs.cons ?_ (ObRs.cons ?_ (ObRs.cons ?_ (ObRs.pass rfl (ObRs.cons ?_ (ObRs.pass rfl (ObRs.nil)))))))))))))))))))) (ObWs.get (ObWs.cons ?_ (ObWs.cons ?_ (ObWs.nil)))) ?_
    ·
     intro aA wA cA hNA hRA hckA hOA hbsA hdpA
     have qA_0 := (hbsA 0 rfl).trans (sl_base hN8 rfl s8_0)
     clear hbsA hdpA
     refine op_move (ev_base hNA rfl qA_0) ?_
     exact obR_end rfl rfl (grown_refl _ _)
    ·
     intro aA wA cA hNA hRA hckA hOA hbsA hdpA
     have qA_7 := (hbsA 7 rfl).trans (sl_base hN8 rfl s8_7)
     clear hbsA hdpA
     refine op_move (ev_base hNA rfl qA_7) ?_
     exact obR_end rfl rfl (grown_refl _ _)
    ·
     intro aA wA cA hNA hRA hckA hOA hbsA hdpA
     have qA_0 := (hbsA 0 rfl).trans (sl_base hN8 rfl s8_0)
     clear hbsA hdpA
     refine op_move (ev_base hNA rfl qA_0) ?_
     exact obR_end rfl rfl (grown_refl _ _)
    ·
     intro aA wA cA hNA hRA hckA hOA hbsA hdpA
     have qA_7 := (hbsA 7 rfl).trans (sl_base hN8 rfl s8_7)
     clear hbsA hdpA
     refine op_move (ev_base hNA rfl qA_7) ?_
     exact obR_end rfl rfl (grown_refl _ _)
    ·
     intro aA wA cA hNA hRA hckA hOA hbsA hdpA
     have qA_36 : Sl aA 36 (Value.int .i64 ((jj : Nat) : Int)) := hdpA 3 _ 36 (by kernel_rfl) rfl rfl
     clear hbsA hdpA
     refine op_sub (ev_base hNA rfl qA_36) rfl (sub64 (by omega)) ?_
     exact obR_end rfl rfl (grown_refl _ _)
    ·
     intro aA wA cA hNA hRA hckA hOA hbsA hdpA
     have qA_0 := (hbsA 0 rfl).trans (sl_base hN8 rfl s8_0)
     clear hbsA hdpA
     refine op_move (ev_base hNA rfl qA_0) ?_
     exact obR_end rfl rfl (grown_refl _ _)
    ·
     intro aA wA cA hNA hRA hckA hOA hbsA hdpA
     have qA_7 := (hbsA 7 rfl).trans (sl_base hN8 rfl s8_7)
     clear hbsA hdpA
     refine op_move (ev_base hNA rfl qA_7) ?_
     exact obR_end rfl rfl (grown_refl _ _)
    ·
     intro aA wA cA hNA hRA hckA hOA hbsA hdpA
     have qA_39 : Sl aA 39 (Value.int .i64 ((jj : Nat) : Int)) := hdpA 6 _ 39 (by kernel_rfl) rfl rfl
     clear hbsA hdpA
     refine op_sub (ev_base hNA rfl qA_39) rfl (sub64 (by omega)) ?_
     exact obR_end rfl rfl (grown_refl _ _)
    ·
     intro aA wA cA hNA hRA hckA hOA hbsA hdpA
     have qA_38 : Sl aA 38 v := hdpA 5 _ 38 (by kernel_rfl) rfl rfl
     have qA_40 : Sl aA 40 (Value.int .i64 (((jj : Nat) : Int) - 1)) := hdpA 7 _ 40 (by kernel_rfl) rfl rfl
     clear hbsA hdpA
     refine op_index_own (i := (jj - 1)) slt45 (ev_base hNA rfl qA_38) hOA (ev_base hNA rfl qA_40) (by omega) (by omega) ?_
     intro b_ o_ _ hA_
     exact obR_end rfl ⟨b_, o_, rfl, by simpa using hA_⟩ (grown_refl _ _)
    ·
     intro aA wA cA hNA hRA hckA hOA hbsA hdpA
     obtain ⟨bA_41, oA_41, qA_41, hAA_41⟩ := hdpA 8 _ 41 (by kernel_rfl) rfl rfl
     clear hbsA hdpA
     obtain rfl : cA = 0 := Nat.le_zero.1 (hckA 0 15 rfl (by kernel_rfl))
     have hOA : Own wA base 46 1 v n (dj.toList.map u16v) := hOA
     refine op_load1 (v := (Value.int .u16 (dj[(jj - 1)]!.toNat : Int))) one46 (ev_base hNA rfl qA_41) (by have := hOA.cellAt hAA_41 0 _ (el_at (i := (jj - 1)) (by first | omega | (simp only [Array.size_setIfInBounds, swp_sz, siftDown_size]; omega))); simpa using this) ?_
     exact obR_end rfl rfl (grown_refl _ _)
    ·
     intro aA wA cA hNA hRA hckA hOA hbsA hdpA
     have qA_0 := (hbsA 0 rfl).trans (sl_base hN8 rfl s8_0)
     clear hbsA hdpA
     refine op_move (ev_base hNA rfl qA_0) ?_
     exact obR_end rfl rfl (grown_refl _ _)
    ·
     intro aA wA cA hNA hRA hckA hOA hbsA hdpA
     have qA_7 := (hbsA 7 rfl).trans (sl_base hN8 rfl s8_7)
     clear hbsA hdpA
     refine op_move (ev_base hNA rfl qA_7) ?_
     exact obR_end rfl rfl (grown_refl _ _)
    ·
     intro aA wA cA hNA hRA hckA hOA hbsA hdpA
     have qA_43 : Sl aA 43 v := hdpA 10 _ 43 (by kernel_rfl) rfl rfl
     have qA_44 : Sl aA 44 (Value.int .i64 ((jj : Nat) : Int)) := hdpA 11 _ 44 (by kernel_rfl) rfl rfl
     clear hbsA hdpA
     refine op_index_own (i := jj) slt45 (ev_base hNA rfl qA_43) hOA (ev_base hNA rfl qA_44) (by omega) (by omega) ?_
     intro b_ o_ _ hA_
     exact obR_end rfl ⟨b_, o_, rfl, by simpa using hA_⟩ (grown_refl _ _)
    ·
     intro aA wA cA hNA hRA hckA hOA hbsA hdpA
     obtain ⟨bA_45, oA_45, qA_45, hAA_45⟩ := hdpA 12 _ 45 (by kernel_rfl) rfl rfl
     clear hbsA hdpA
     obtain rfl : cA = 0 := Nat.le_zero.1 (hckA 0 15 rfl (by kernel_rfl))
     have hOA : Own wA base 46 1 v n (dj.toList.map u16v) := hOA
     refine op_load1 (v := (Value.int .u16 (dj[jj]!.toNat : Int))) one46 (ev_base hNA rfl qA_45) (by have := hOA.cellAt hAA_45 0 _ (el_at (i := jj) (by first | omega | (simp only [Array.size_setIfInBounds, swp_sz, siftDown_size]; omega))); simpa using this) ?_
     exact obR_end rfl rfl (grown_refl _ _)
    ·
     intro aA wA cA hNA hRA hckA hOA hbsA hdpA
     have qA_33 : Sl aA 33 v := hdpA 0 _ 33 (by kernel_rfl) rfl rfl
     have qA_34 : Sl aA 34 (Value.int .i64 ((jj : Nat) : Int)) := hdpA 1 _ 34 (by kernel_rfl) rfl rfl
     clear hbsA hdpA
     refine op_index_own (i := jj) slt45 (ev_base hNA rfl qA_33) hOA (ev_base hNA rfl qA_34) (by omega) (by omega) ?_
     intro b_ o_ _ hA_
     exact obR_end rfl ⟨b_, o_, rfl, by simpa using hA_⟩ (grown_refl _ _)
    ·
     intro aA wA cA hNA hRA hckA hOA hbsA hdpA
     have qA_35 : Sl aA 35 v := hdpA 2 _ 35 (by kernel_rfl) rfl rfl
     have qA_37 : Sl aA 37 (Value.int .i64 (((jj : Nat) : Int) - 1)) := hdpA 4 _ 37 (by kernel_rfl) rfl rfl
     clear hbsA hdpA
     refine op_index_own (i := (jj - 1)) slt45 (ev_base hNA rfl qA_35) hOA (ev_base hNA rfl qA_37) (by omega) (by omega) ?_
     intro b_ o_ _ hA_
     exact obR_end rfl ⟨b_, o_, rfl, by simpa using hA_⟩ (grown_refl _ _)
    ·
     intro o_ ho_; obtain rfl := Option.some.inj ho_; intro aA wA hNA hRA hbsA hdpA hOA
     obtain ⟨bA_47, oA_47, qA_47, hAA_47⟩ := hdpA 14 _ 47 (by kernel_rfl) rfl rfl
     have qA_42 : Sl aA 42 (Value.int .u16 (dj[(jj - 1)]!.toNat : Int)) := hdpA 9 _ 42 (by kernel_rfl) rfl rfl
     clear hbsA hdpA
     have hOA : Own wA base 46 1 v n (dj.toList.map u16v) := hOA
     refine op_store_own (vs := [(Value.int .u16 (dj[(jj - 1)]!.toNat : Int))]) size46 (ev_base hNA rfl qA_47) (ev_base hNA rfl qA_42) rfl rfl rfl hOA hAA_47 (by have := hOA.1; simp at this ⊢; omega) ?_
     intro w_ hO_ E_
     exact obW_end rfl (hO_.cast rfl (set_arr (by first | omega | (simp only [Array.size_setIfInBounds, swp_sz, siftDown_size]; omega)))) E_
    ·
     intro o_ ho_; obtain rfl := Option.some.inj ho_; intro aA wA hNA hRA hbsA hdpA hOA
     obtain ⟨bA_48, oA_48, qA_48, hAA_48⟩ := hdpA 16 _ 48 (by kernel_rfl) rfl rfl
     have qA_46 : Sl aA 46 (Value.int .u16 (dj[jj]!.toNat : Int)) := hdpA 13 _ 46 (by kernel_rfl) rfl rfl
     clear hbsA hdpA
     have hOA : Own wA base 46 1 v n ((dj.setIfInBounds jj dj[(jj - 1)]!).toList.map u16v) := hOA
     refine op_store_own (vs := [(Value.int .u16 (dj[jj]!.toNat : Int))]) size46 (ev_base hNA rfl qA_48) (ev_base hNA rfl qA_46) rfl rfl rfl hOA hAA_48 (by have := hOA.1; simp at this ⊢; omega) ?_
     intro w_ hO_ E_
     exact obW_end rfl (hO_.cast rfl (set_arr (by first | omega | (simp only [Array.size_setIfInBounds, swp_sz, siftDown_size]; omega)))) E_
    ·
     intro a21 w21 hN21 hd21 hbs21 hph21 hO21 E21
     have hd21 := hd21.trans hd8
     have s21_0 := (hbs21 0 rfl).trans (sl_base hN8 rfl s8_0)
     have s21_1 := (hbs21 1 rfl).trans (sl_base hN8 rfl s8_1)
     have s21_2 := (hbs21 2 rfl).trans (sl_base hN8 rfl s8_2)
     have s21_6 := (hbs21 6 rfl).trans (sl_base hN8 rfl s8_6)
     have s21_7 := (hbs21 7 rfl).trans (sl_base hN8 rfl s8_7)
     clear hbs21 hph21
     have hO21 : Own w21 base 46 1 v n (((dj.setIfInBounds jj dj[(jj - 1)]!).setIfInBounds (jj - 1) dj[jj]!).toList.map u16v) := hO21
     have z_w21 := E21.size
     have hb := grow_stepX hb E21 rfl
     refine hK20 _ _ ?_
     refine one_reg ?_
     refine op_move (ev_base hN21 rfl s21_7) ?_
     refine op_sub (ev_hit hN21 rfl) rfl (sub64 (by omega)) ?_
     refine op_assign (ev_hit hN21 rfl) ?_
     refine reg_nil ?_
     -- round 12T 18T 30T
     exact loop_next _ hN21 hd21 ⟨(jj - 1), _, rfl, (sl_base hN21 rfl s21_0), (sl_base hN21 rfl s21_1), (sl_base hN21 rfl s21_2), (sl_base hN21 rfl s21_6), (sl_hit hN21 rfl).trans (congrArg (Value.int .i64) (by omega)), (by first | assumption | (simp only [Array.size_setIfInBounds, swp_sz, siftDown_size]; assumption)), (by omega), (hj.trans (insInner_go (by omega) c30)), hb, (by omega), hO21⟩ (by omega)
   · -- 30F
    refine wp_exit (then_exit (then_exit (blk_hit ?_)))
    refine hK6 _ _ ?_
    refine one_reg ?_
    refine op_move (ev_base hN8 rfl s8_6) ?_
    refine op_add (ev_hit hN8 rfl) rfl (add64 (by omega)) ?_
    refine op_assign (ev_hit hN8 rfl) ?_
    refine reg_nil ?_
    -- round 12T 18T 30F
    exact loop_next _ hN8 hd8 ⟨i + 1, _, rfl, (sl_base hN8 rfl s8_0), (sl_base hN8 rfl s8_1), (sl_base hN8 rfl s8_2), (sl_hit hN8 rfl).trans (congrArg (Value.int .i64) (by omega)), (by first | assumption | (simp only [Array.size_setIfInBounds, swp_sz, siftDown_size]; assumption)), (by omega), (ho.trans ((insOuter_go (by omega)).trans (congrArg (insOuter ltT a b (i + 1)) (hj.trans (insInner_stop (.inr c30)))))), hb, (by omega), hO9⟩ (by omega)
  · -- 18F
   refine st_step rfl (fun _ h9 => op_cmp (b := false) (ev_hit hN8 rfl) (ev_hit hN8 rfl) (b_gtr (decide_eq_false g18)) h9) ?_
   refine st_step rfl (fun _ h9 => op_move (ev_hit hN8 rfl) h9) ?_
   refine st_g_false (j := 3) (dj := 19) (b := true) rfl rfl rfl (ev_hit hN8 rfl) rfl rfl ?_
   refine st_g_false (j := 3) (dj := 19) (b := true) rfl rfl rfl (ev_hit hN8 rfl) rfl rfl ?_
   refine st_g_false (j := 3) (dj := 19) (b := true) rfl rfl rfl (ev_hit hN8 rfl) rfl rfl ?_
   refine st_g_false (j := 3) (dj := 19) (b := true) rfl rfl rfl (ev_hit hN8 rfl) rfl rfl ?_
   refine st_g_false (j := 3) (dj := 19) (b := true) rfl rfl rfl (ev_hit hN8 rfl) rfl rfl ?_
   refine st_g_false (j := 3) (dj := 19) (b := true) rfl rfl rfl (ev_hit hN8 rfl) rfl rfl ?_
   refine st_g_false (j := 3) (dj := 19) (b := true) rfl rfl rfl (ev_hit hN8 rfl) rfl rfl ?_
   refine st_g_false (j := 3) (dj := 19) (b := true) rfl rfl rfl (ev_hit hN8 rfl) rfl rfl ?_
   refine st_g_false (j := 3) (dj := 19) (b := true) rfl rfl rfl (ev_hit hN8 rfl) rfl rfl ?_
   refine st_g_false (j := 3) (dj := 19) (b := true) rfl rfl rfl (ev_hit hN8 rfl) rfl rfl ?_
   refine st_step rfl (fun _ h9 => op_pick_f (ev_hit hN8 rfl) rfl h9) ?_
   refine st_nil ?_
   refine hK11 _ _ ?_
   refine wp_cond_false (ev_hit hN8 rfl) ?_
   refine wp_exit (then_exit (then_exit (blk_hit ?_)))
   refine hK6 _ _ ?_
   refine one_reg ?_
   refine op_move (ev_base hN8 rfl s8_6) ?_
   refine op_add (ev_hit hN8 rfl) rfl (add64 (by omega)) ?_
   refine op_assign (ev_hit hN8 rfl) ?_
   refine reg_nil ?_
   -- round 12T 18F
   exact loop_next _ hN8 hd8 ⟨i + 1, _, rfl, (sl_base hN8 rfl s8_0), (sl_base hN8 rfl s8_1), (sl_base hN8 rfl s8_2), (sl_hit hN8 rfl).trans (congrArg (Value.int .i64) (by omega)), (by first | assumption | (simp only [Array.size_setIfInBounds, swp_sz, siftDown_size]; assumption)), (by omega), (ho.trans ((insOuter_go (by omega)).trans (congrArg (insOuter ltT a b (i + 1)) (hj.trans (insInner_stop (.inl (by omega))))))), hb, (by omega), hO9⟩ (by omega)
 · -- 12F
  refine reg_nil ?_
  refine hK5 _ _ ?_
  refine wp_cond_false (ev_hit hN2 rfl) ?_
  refine wp_exit (then_exit (then_exit (blk_hit ?_)))
  refine end_ret ?_
  refine ret0 rfl hd2  ⟨_, rfl, ?_⟩
  -- path 12F
  exact ⟨hb, rfl, hO3.cast rfl (by rw [show insertionSort ltT d a b = insOuter ltT a b (a + 1) d from rfl, ho, insOuter_stop (by omega)])⟩

end Go.Proofs.Ytmhdbphpmgjpcaa

/- Walks, written by a program: what each function of the translation hands back. -/
namespace Go.Proofs.Ytmhdbphpmgjpcaa
open Go.Gx Go.RowKit
attribute [local irreducible] wpList wpStill Code.wp Calls
open Go.Sort (insertionSort insOuter insInner swp siftDown heapSort heapBuild heapPop scanUp scanDown partition partLoop partitionEqual partEqLoop scanSorted partialIns bitsLen partialInsertionSort shiftDown shiftUp SortedIn reverseRange reverseLoop fixDown fixUp)
set_option maxHeartbeats 2000000 in
theorem siftDownW_ret (d : Ar) (v : Value) (n base : Nat) (lo hi fi : Nat) (w : World) (hd : d.size = n) (hn : n ≤ 4000000000000000000) (O : Own w base 46 1 v n (d.toList.map u16v)) (hfh : fi + hi ≤ n) (hlo : lo ≤ n) : Ret Try.prog 173 #[v, (Value.int .i64 ((lo : Nat) : Int)), (Value.int .i64 ((hi : Nat) : Int)), (Value.int .i64 ((fi : Nat) : Int))] w (fun v' w' => w.grownBy w' v.ownBlock ∧ v' = .tuple #[] ∧ Own w' base 46 1 v n ((siftDown ltT hi fi lo d).toList.map u16v)) := by
 have hb := grown_refl w v.ownBlock
 refine enter (N := 76) Try.func173 rfl rfl (by simp) fun a0 hN hd hA => ?_
 have s0 : a0.tmps.getD 0 undef = v := hA 0 (by simp)
 have s1 : a0.tmps.getD 1 undef = (Value.int .i64 ((lo : Nat) : Int)) := hA 1 (by simp)
 have s2 : a0.tmps.getD 2 undef = (Value.int .i64 ((hi : Nat) : Int)) := hA 2 (by simp)
 have s3 : a0.tmps.getD 3 undef = (Value.int .i64 ((fi : Nat) : Int)) := hA 3 (by simp)
 clear hA
 refine seq_any fun K1 hK1 => ?_
 refine one_reg ?_
 refine op_move (ev_base hN rfl s1) ?_
 refine op_assign (ev_hit hN rfl) ?_
 refine reg_nil ?_
 refine hK1 _ _ ?_
 refine wp_block ?_
 refine loop_m (fun mz_ az_ w' => ∃ (rt : Nat) (dk : Ar), mz_ = (hi + lo + 1 - rt) ∧ (az_.tmps.getD 0 undef = v) ∧ (az_.tmps.getD 2 undef = (Value.int .i64 ((hi : Nat) : Int))) ∧ (az_.tmps.getD 3 undef = (Value.int .i64 ((fi : Nat) : Int))) ∧ (az_.tmps.getD 8 undef = (Value.int .i64 ((rt : Nat) : Int))) ∧ (dk.size = n) ∧ (rt < hi ∨ rt = lo) ∧ (siftDown ltT hi fi lo d = siftDown ltT hi fi rt dk) ∧ (w.grownBy w' v.ownBlock) ∧ (w.heap.size ≤ w'.heap.size) ∧ (Own w' base 46 1 v n (dk.toList.map u16v))) _ hN hd ⟨lo, _, rfl, (sl_base hN rfl s0), (sl_base hN rfl s2), (sl_base hN rfl s3), (sl_hit hN rfl).trans (congrArg (Value.int .i64) (by omega)), (by first | assumption | (simp only [Array.size_setIfInBounds, swp_sz, siftDown_size]; assumption)), .inr rfl, rfl, hb, (Nat.le_refl _), O⟩ ?_
 rintro _ a2 w2 hN2 hd2 ⟨rt, dk, rfl, s2_0, s2_2, s2_3, s2_8, hdk, hrt, hs, hb, zl_w2, hO3⟩
 have z_w2 := hb.size
 refine wp_block ?_
 refine seq_any fun K4 hK4 => ?_
 refine one_reg ?_
 refine op_move (ev_base hN2 rfl s2_8) ?_
 refine op_mul rfl (ev_hit hN2 rfl) (mul64 (by omega)) ?_
 refine op_add (ev_hit hN2 rfl) rfl (add64 (by omega)) ?_
 refine op_assign (ev_hit hN2 rfl) ?_
 refine reg_nil ?_
 refine hK4 _ _ ?_
 refine seq_any fun K5 hK5 => ?_
 refine seq_any fun K6 hK6 => ?_
 refine one_reg ?_
 refine op_move (ev_hit hN2 rfl) ?_
 refine op_move (ev_base hN2 rfl s2_2) ?_
 refine op_geq (ev_hit hN2 rfl) (ev_hit hN2 rfl) (fun c16 => ?_) (fun c16 => ?_)
 · -- 16T
  refine reg_nil ?_
  refine hK6 _ _ ?_
  refine wp_cond_true (ev_hit hN2 rfl) ?_
  refine wp_exit (then_exit (blk_miss (by decide) (then_exit (blk_hit ?_))))
  refine end_ret ?_
  refine ret0 rfl hd2  ⟨_, rfl, ?_⟩
  -- path 16T
  exact ⟨hb, rfl, hO3.cast rfl (by rw [hs, siftDown_stop (by omega)])⟩
 · -- 16F
  refine reg_nil ?_
  refine hK6 _ _ ?_
  refine wp_cond_false (ev_hit hN2 rfl) ?_
  refine wp_skip ?_
  refine hK5 _ _ ?_
  refine seq_any fun K7 hK7 => ?_
  refine seq_any fun K8 hK8 => ?_
  refine reg_still mixed (by kernel_rfl) ?_
  intro w10 E9
  have z_w10 := E9.size
  have hO3 := hO3.keep0 E9
  have hb := grow_step0 hb E9
  refine st_step rfl (fun _ h9 => op_move (ev_hit hN2 rfl) h9) ?_
  refine st_step rfl (fun _ h9 => op_add (ev_hit hN2 rfl) rfl (add64 (by omega)) h9) ?_
  refine st_step rfl (fun _ h9 => op_move (ev_base hN2 rfl s2_2) h9) ?_
  by_cases g20 : (((2 * ((rt : Nat) : Int)) + 1) + 1) < ((hi : Nat) : Int)
  · -- 20T
   refine st_step rfl (fun _ h9 => op_cmp (b := true) (ev_hit hN2 rfl) (ev_hit hN2 rfl) (b_lss (decide_eq_true g20)) h9) ?_
   refine st_step rfl (fun _ h9 => op_move (ev_hit hN2 rfl) h9) ?_
   refine st_g_true (j := 4) (dj := 21) (b := true) rfl rfl rfl (ev_hit hN2 rfl) ?_
   refine st_step rfl (fun _ h9 => op_move (ev_base hN2 rfl s2_0) h9) ?_
   refine st_g_true (j := 4) (dj := 21) (b := true) rfl rfl rfl (ev_hit hN2 rfl) ?_
   refine st_step rfl (fun _ h9 => op_move (ev_base hN2 rfl s2_3) h9) ?_
   refine st_g_true (j := 4) (dj := 21) (b := true) rfl rfl rfl (ev_hit hN2 rfl) ?_
   refine st_step rfl (fun _ h9 => op_move (ev_hit hN2 rfl) h9) ?_
   refine st_g_true (j := 4) (dj := 21) (b := true) rfl rfl rfl (ev_hit hN2 rfl) ?_
   refine st_step rfl (fun _ h9 => op_add (ev_hit hN2 rfl) (ev_hit hN2 rfl) (add64 (by omega)) h9) ?_
   refine st_g_true (j := 4) (dj := 21) (b := true) rfl rfl rfl (ev_hit hN2 rfl) ?_
   refine st_index_rd slt45 (ev_hit hN2 rfl) hO3.rdw (ev_hit hN2 rfl) (by omega) (by omega) ?_
   intro b11 o12 h0b11 h1b11 hc13
   refine st_g_true (j := 4) (dj := 21) (b := true) rfl rfl rfl (ev_hit hN2 rfl) ?_
   refine st_step rfl (fun _ h9 => op_load1 (v := (Value.int .u16 (dk[(fi + ((2 * rt) + 1))]!.toNat : Int))) one46 (ev_hit hN2 rfl) (by have := hc13 0 (Value.int .u16 (dk[(fi + ((2 * rt) + 1))]!.toNat : Int)) (by decide) (el_arr (i := (fi + ((2 * rt) + 1))) (by omega) (by first | omega | (simp only [Array.size_setIfInBounds, swp_sz, siftDown_size]; omega))); simpa using this) h9) ?_
   refine st_g_true (j := 4) (dj := 21) (b := true) rfl rfl rfl (ev_hit hN2 rfl) ?_
   refine st_step rfl (fun _ h9 => op_move (ev_base hN2 rfl s2_0) h9) ?_
   refine st_g_true (j := 4) (dj := 21) (b := true) rfl rfl rfl (ev_hit hN2 rfl) ?_
   refine st_step rfl (fun _ h9 => op_move (ev_base hN2 rfl s2_3) h9) ?_
   refine st_g_true (j := 4) (dj := 21) (b := true) rfl rfl rfl (ev_hit hN2 rfl) ?_
   refine st_step rfl (fun _ h9 => op_move (ev_hit hN2 rfl) h9) ?_
   refine st_g_true (j := 4) (dj := 21) (b := true) rfl rfl rfl (ev_hit hN2 rfl) ?_
   refine st_step rfl (fun _ h9 => op_add (ev_hit hN2 rfl) (ev_hit hN2 rfl) (add64 (by omega)) h9) ?_
   refine st_g_true (j := 4) (dj := 21) (b := true) rfl rfl rfl (ev_hit hN2 rfl) ?_
   refine st_step rfl (fun _ h9 => op_add (ev_hit hN2 rfl) rfl (add64 (by omega)) h9) ?_
   refine st_g_true (j := 4) (dj := 21) (b := true) rfl rfl rfl (ev_hit hN2 rfl) ?_
   refine st_index_rd slt45 (ev_hit hN2 rfl) hO3.rdw (ev_hit hN2 rfl) (by omega) (by omega) ?_
   intro b14 o15 h0b14 h1b14 hc16
   refine st_g_true (j := 4) (dj := 21) (b := true) rfl rfl rfl (ev_hit hN2 rfl) ?_
   refine st_step rfl (fun _ h9 => op_load1 (v := (Value.int .u16 (dk[((fi + ((2 * rt) + 1)) + 1)]!.toNat : Int))) one46 (ev_hit hN2 rfl) (by have := hc16 0 (Value.int .u16 (dk[((fi + ((2 * rt) + 1)) + 1)]!.toNat : Int)) (by decide) (el_arr (i := ((fi + ((2 * rt) + 1)) + 1)) (by omega) (by first | omega | (simp only [Array.size_setIfInBounds, swp_sz, siftDown_size]; omega))); simpa using this) h9) ?_
   refine st_g_true (j := 4) (dj := 21) (b := true) rfl rfl rfl (ev_hit hN2 rfl) ?_
   refine st_fn (vs := [(Value.int .u16 (dk[(fi + ((2 * rt) + 1))]!.toNat : Int)), (Value.int .u16 (dk[((fi + ((2 * rt) + 1)) + 1)]!.toNat : Int))]) ok159 (⟨(ev_hit hN2 rfl), ⟨(ev_hit hN2 rfl), trivial⟩⟩) (Less16_ret dk[(fi + ((2 * rt) + 1))]! dk[((fi + ((2 * rt) + 1)) + 1)]! _) ?_
   refine st_step rfl (fun _ h9 => op_pick_t (ev_hit hN2 rfl) (ev_hit hN2 rfl) h9) ?_
   refine st_nil ?_
   refine hK8 _ _ ?_
   refine wp_cond_split (ev_hit hN2 rfl) (fun c36 => ?_) (fun c36 => ?_)
   · -- 36T
    refine one_reg ?_
    refine op_move (ev_hit hN2 rfl) ?_
    refine op_add (ev_hit hN2 rfl) rfl (add64 (by omega)) ?_
    refine op_assign (ev_hit hN2 rfl) ?_
    refine reg_nil ?_
    refine hK7 _ _ ?_
    refine seq_any fun K17 hK17 => ?_
    refine seq_any fun K18 hK18 => ?_
    refine reg_still mixed (by kernel_rfl) ?_
    intro w20 E19
    have z_w20 := E19.size
    have hO3 := hO3.keep0 E19
    have hb := grow_step0 hb E19
    refine st_step rfl (fun _ h9 => op_move (ev_base hN2 rfl s2_0) h9) ?_
    refine st_step rfl (fun _ h9 => op_move (ev_base hN2 rfl s2_3) h9) ?_
    refine st_step rfl (fun _ h9 => op_move (ev_base hN2 rfl s2_8) h9) ?_
    refine st_step rfl (fun _ h9 => op_add (ev_hit hN2 rfl) (ev_hit hN2 rfl) (add64 (by omega)) h9) ?_
    refine st_index_rd slt45 (ev_hit hN2 rfl) hO3.rdw (ev_hit hN2 rfl) (by omega) (by omega) ?_
    intro b21 o22 h0b21 h1b21 hc23
    refine st_step rfl (fun _ h9 => op_load1 (v := (Value.int .u16 (dk[(fi + rt)]!.toNat : Int))) one46 (ev_hit hN2 rfl) (by have := hc23 0 (Value.int .u16 (dk[(fi + rt)]!.toNat : Int)) (by decide) (el_arr (i := (fi + rt)) (by omega) (by first | omega | (simp only [Array.size_setIfInBounds, swp_sz, siftDown_size]; omega))); simpa using this) h9) ?_
    refine st_step rfl (fun _ h9 => op_move (ev_base hN2 rfl s2_0) h9) ?_
    refine st_step rfl (fun _ h9 => op_move (ev_base hN2 rfl s2_3) h9) ?_
    refine st_step rfl (fun _ h9 => op_move (ev_hit hN2 rfl) h9) ?_
    refine st_step rfl (fun _ h9 => op_add (ev_hit hN2 rfl) (ev_hit hN2 rfl) (add64 (by omega)) h9) ?_
    refine st_index_rd slt45 (ev_hit hN2 rfl) hO3.rdw (ev_hit hN2 rfl) (by omega) (by omega) ?_
    intro b24 o25 h0b24 h1b24 hc26
    refine st_step rfl (fun _ h9 => op_load1 (v := (Value.int .u16 (dk[(fi + (((2 * rt) + 1) + 1))]!.toNat : Int))) one46 (ev_hit hN2 rfl) (by have := hc26 0 (Value.int .u16 (dk[(fi + (((2 * rt) + 1) + 1))]!.toNat : Int)) (by decide) (el_arr (i := (fi + (((2 * rt) + 1) + 1))) (by omega) (by first | omega | (simp only [Array.size_setIfInBounds, swp_sz, siftDown_size]; omega))); simpa using this) h9) ?_
    refine st_fn (vs := [(Value.int .u16 (dk[(fi + rt)]!.toNat : Int)), (Value.int .u16 (dk[(fi + (((2 * rt) + 1) + 1))]!.toNat : Int))]) ok159 (⟨(ev_hit hN2 rfl), ⟨(ev_hit hN2 rfl), trivial⟩⟩) (Less16_ret dk[(fi + rt)]! dk[(fi + (((2 * rt) + 1) + 1))]! _) ?_
    refine st_step rfl (fun _ h9 => op_not (ev_hit hN2 rfl) h9) ?_
    refine st_nil ?_
    refine hK18 _ _ ?_
    refine wp_cond_split (ev_hit hN2 rfl) (fun c52 => ?_) (fun c52 => ?_)
    · -- 52T
     refine wp_ret (then_ret (blk_ret (then_ret (blk_ret ( ?_)))))
     refine ret0 rfl hd2  ⟨_, rfl, ?_⟩
     -- path 16F 20T 36T 52T
     have hch : childS hi fi rt dk = 2 * rt + 2 := childS_t (by omega) c36
     exact ⟨hb, rfl, hO3.cast rfl (by rw [hs, siftDown_ret (by omega) (by rw [hch]; simpa [Nat.add_assoc] using c52)])⟩
    · -- 52F
     refine wp_skip ?_
     refine hK17 _ _ ?_
     refine seq_any fun K27 hK27 => ?_
     refine reg_mid (e := 46) (sz := 1) (base := base) (n := n) (v := v) (Φ := phiL [(fun uz _ => uz = v), (fun uz _ => uz = (Value.int .i64 ((fi : Nat) : Int))), (fun uz _ => uz = (Value.int .i64 ((rt : Nat) : Int))), (fun uz _ => uz = (Value.int .i64 (((fi : Nat) : Int) + ((rt : Nat) : Int)))), (fun uz _ => uz = v), (fun uz _ => uz = (Value.int .i64 ((fi : Nat) : Int))), (fun uz _ => uz = (Value.int .i64 (((2 * ((rt : Nat) : Int)) + 1) + 1))), (fun uz _ => uz = (Value.int .i64 (((fi : Nat) : Int) + (((2 * ((rt : Nat) : Int)) + 1) + 1)))), (fun uz _ => uz = v), (fun uz _ => uz = (Value.int .i64 ((fi : Nat) : Int))), (fun uz _ => uz = (Value.int .i64 (((2 * ((rt : Nat) : Int)) + 1) + 1))), (fun uz _ => uz = (Value.int .i64 (((fi : Nat) : Int) + (((2 * ((rt : Nat) : Int)) + 1) + 1)))), (fun uz _ => ∃ bz oz, uz = ptr bz oz ∧ AtV v (fi + (((2 * rt) + 1) + 1)) bz oz), (fun uz _ => uz = (Value.int .u16 (dk[(fi + (((2 * rt) + 1) + 1))]!.toNat : Int))), (fun uz _ => uz = v), (fun uz _ => uz = (Value.int .i64 ((fi : Nat) : Int))), (fun uz _ => uz = (Value.int .i64 ((rt : Nat) : Int))), (fun uz _ => uz = (Value.int .i64 (((fi : Nat) : Int) + ((rt : Nat) : Int)))), (fun uz _ => ∃ bz oz, uz = ptr bz oz ∧ AtV v (fi + rt) bz oz), (fun uz _ => uz = (Value.int .u16 (dk[(fi + rt)]!.toNat : Int))), (fun uz _ => ∃ bz oz, uz = ptr bz oz ∧ AtV v (fi + rt) bz oz), (fun _ _ => True), (fun uz _ => ∃ bz oz, uz = ptr bz oz ∧ AtV v (fi + (((2 * rt) + 1) + 1)) bz oz), (fun _ _ => True)]) [21, 23] [(dk.toList.map u16v), ((dk.setIfInBounds (fi + rt) dk[(fi + (((2 * rt) + 1) + 1))]!).toList.map u16v), (((dk.setIfInBounds (fi + rt) dk[(fi + (((2 * rt) + 1) + 1))]!).setIfInBounds (fi + (((2 * rt) + 1) + 1)) dk[(fi + rt)]!).toList.map u16v)] mixed (by kernel_rfl) (by kernel_rfl) (by kernel_rfl) (by kernel_rfl) hN2 hO3 (StL.get (StL.eq (StL.eq (StL.eq (StL.eq (StL.eq (StL.eq (StL.eq (StL.eq (StL.eq (StL.eq (StL.eq (StL.eq (StL.at (StL.eq (StL.eq (StL.eq (StL.eq (StL.eq (StL.at (StL.eq (StL.at (StL.cons (fun _ _ _ _ h => h) (StL.at (StL.cons (fun _ _ _ _ h => h) (StL.nil _)))))))))))))))))))))))))) (ObRs.get (ObRs.cons ?_ (ObRs.cons ?_ (ObRs.cons ?_ (ObRs.cons ?_ (ObRs.cons ?_ (ObRs.cons ?_ (ObRs.cons ?_ (ObRs.cons ?_ (ObRs.cons ?_ (ObRs.cons ?_ (ObRs.cons ?_ (ObRs.cons ?_ (ObRs.cons ?_ (ObRs.cons ?_ (ObRs.cons ?_ (ObRs.cons ?_ (ObRs.cons ?_ (ObRs.cons ?_ (ObRs.cons ?_ (ObRs.cons ?_ (ObRs.cons ?_ (ObRs.pass rfl (ObRs.cons ?_ (ObRs.pass rfl (ObRs.nil)))))))))))))))))))))))))) (ObWs.get (ObWs.cons ?_ (ObWs.cons ?_ (ObWs.nil)))) ?_
     ·
      intro aA wA cA hNA hRA hckA hOA hbsA hdpA
      have qA_0 := (hbsA 0 rfl).trans (sl_base hN2 rfl s2_0)
      clear hbsA hdpA
      refine op_move (ev_base hNA rfl qA_0) ?_
      exact obR_end rfl rfl (grown_refl _ _)
     ·
      intro aA wA cA hNA hRA hckA hOA hbsA hdpA
      have qA_3 := (hbsA 3 rfl).trans (sl_base hN2 rfl s2_3)
      clear hbsA hdpA
      refine op_move (ev_base hNA rfl qA_3) ?_
      exact obR_end rfl rfl (grown_refl _ _)
     ·
      intro aA wA cA hNA hRA hckA hOA hbsA hdpA
      have qA_8 := (hbsA 8 rfl).trans (sl_base hN2 rfl s2_8)
      clear hbsA hdpA
      refine op_move (ev_base hNA rfl qA_8) ?_
      exact obR_end rfl rfl (grown_refl _ _)
     ·
      intro aA wA cA hNA hRA hckA hOA hbsA hdpA
      have qA_54 : Sl aA 54 (Value.int .i64 ((fi : Nat) : Int)) := hdpA 1 _ 54 (by kernel_rfl) rfl rfl
      have qA_55 : Sl aA 55 (Value.int .i64 ((rt : Nat) : Int)) := hdpA 2 _ 55 (by kernel_rfl) rfl rfl
      clear hbsA hdpA
      refine op_add (ev_base hNA rfl qA_54) (ev_base hNA rfl qA_55) (add64 (by omega)) ?_
      exact obR_end rfl rfl (grown_refl _ _)
     ·
      intro aA wA cA hNA hRA hckA hOA hbsA hdpA
      have qA_0 := (hbsA 0 rfl).trans (sl_base hN2 rfl s2_0)
      clear hbsA hdpA
      refine op_move (ev_base hNA rfl qA_0) ?_
      exact obR_end rfl rfl (grown_refl _ _)
     ·
      intro aA wA cA hNA hRA hckA hOA hbsA hdpA
      have qA_3 := (hbsA 3 rfl).trans (sl_base hN2 rfl s2_3)
      clear hbsA hdpA
      refine op_move (ev_base hNA rfl qA_3) ?_
      exact obR_end rfl rfl (grown_refl _ _)
     ·
      intro aA wA cA hNA hRA hckA hOA hbsA hdpA
      have qA_9 := (hbsA 9 rfl).trans (sl_hit hN2 rfl)
      clear hbsA hdpA
      refine op_move (ev_base hNA rfl qA_9) ?_
      exact obR_end rfl rfl (grown_refl _ _)
     ·
      intro aA wA cA hNA hRA hckA hOA hbsA hdpA
      have qA_58 : Sl aA 58 (Value.int .i64 ((fi : Nat) : Int)) := hdpA 5 _ 58 (by kernel_rfl) rfl rfl
      have qA_59 : Sl aA 59 (Value.int .i64 (((2 * ((rt : Nat) : Int)) + 1) + 1)) := hdpA 6 _ 59 (by kernel_rfl) rfl rfl
      clear hbsA hdpA
      refine op_add (ev_base hNA rfl qA_58) (ev_base hNA rfl qA_59) (add64 (by omega)) ?_
      exact obR_end rfl rfl (grown_refl _ _)
     ·
      intro aA wA cA hNA hRA hckA hOA hbsA hdpA
      have qA_0 := (hbsA 0 rfl).trans (sl_base hN2 rfl s2_0)
      clear hbsA hdpA
      refine op_move (ev_base hNA rfl qA_0) ?_
      exact obR_end rfl rfl (grown_refl _ _)
     ·
      intro aA wA cA hNA hRA hckA hOA hbsA hdpA
      have qA_3 := (hbsA 3 rfl).trans (sl_base hN2 rfl s2_3)
      clear hbsA hdpA
      refine op_move (ev_base hNA rfl qA_3) ?_
      exact obR_end rfl rfl (grown_refl _ _)
     ·
      intro aA wA cA hNA hRA hckA hOA hbsA hdpA
      have qA_9 := (hbsA 9 rfl).trans (sl_hit hN2 rfl)
      clear hbsA hdpA
      refine op_move (ev_base hNA rfl qA_9) ?_
      exact obR_end rfl rfl (grown_refl _ _)
     ·
      intro aA wA cA hNA hRA hckA hOA hbsA hdpA
      have qA_62 : Sl aA 62 (Value.int .i64 ((fi : Nat) : Int)) := hdpA 9 _ 62 (by kernel_rfl) rfl rfl
      have qA_63 : Sl aA 63 (Value.int .i64 (((2 * ((rt : Nat) : Int)) + 1) + 1)) := hdpA 10 _ 63 (by kernel_rfl) rfl rfl
      clear hbsA hdpA
      refine op_add (ev_base hNA rfl qA_62) (ev_base hNA rfl qA_63) (add64 (by omega)) ?_
      exact obR_end rfl rfl (grown_refl _ _)
     ·
      intro aA wA cA hNA hRA hckA hOA hbsA hdpA
      have qA_61 : Sl aA 61 v := hdpA 8 _ 61 (by kernel_rfl) rfl rfl
      have qA_64 : Sl aA 64 (Value.int .i64 (((fi : Nat) : Int) + (((2 * ((rt : Nat) : Int)) + 1) + 1))) := hdpA 11 _ 64 (by kernel_rfl) rfl rfl
      clear hbsA hdpA
      refine op_index_own (i := (fi + (((2 * rt) + 1) + 1))) slt45 (ev_base hNA rfl qA_61) hOA (ev_base hNA rfl qA_64) (by omega) (by omega) ?_
      intro b_ o_ _ hA_
      exact obR_end rfl ⟨b_, o_, rfl, by simpa using hA_⟩ (grown_refl _ _)
     ·
      intro aA wA cA hNA hRA hckA hOA hbsA hdpA
      obtain ⟨bA_65, oA_65, qA_65, hAA_65⟩ := hdpA 12 _ 65 (by kernel_rfl) rfl rfl
      clear hbsA hdpA
      obtain rfl : cA = 0 := Nat.le_zero.1 (hckA 0 21 rfl (by kernel_rfl))
      have hOA : Own wA base 46 1 v n (dk.toList.map u16v) := hOA
      refine op_load1 (v := (Value.int .u16 (dk[(fi + (((2 * rt) + 1) + 1))]!.toNat : Int))) one46 (ev_base hNA rfl qA_65) (by have := hOA.cellAt hAA_65 0 _ (el_at (i := (fi + (((2 * rt) + 1) + 1))) (by first | omega | (simp only [Array.size_setIfInBounds, swp_sz, siftDown_size]; omega))); simpa using this) ?_
      exact obR_end rfl rfl (grown_refl _ _)
     ·
      intro aA wA cA hNA hRA hckA hOA hbsA hdpA
      have qA_0 := (hbsA 0 rfl).trans (sl_base hN2 rfl s2_0)
      clear hbsA hdpA
      refine op_move (ev_base hNA rfl qA_0) ?_
      exact obR_end rfl rfl (grown_refl _ _)
     ·
      intro aA wA cA hNA hRA hckA hOA hbsA hdpA
      have qA_3 := (hbsA 3 rfl).trans (sl_base hN2 rfl s2_3)
      clear hbsA hdpA
      refine op_move (ev_base hNA rfl qA_3) ?_
      exact obR_end rfl rfl (grown_refl _ _)
     ·
      intro aA wA cA hNA hRA hckA hOA hbsA hdpA
      have qA_8 := (hbsA 8 rfl).trans (sl_base hN2 rfl s2_8)
      clear hbsA hdpA
      refine op_move (ev_base hNA rfl qA_8) ?_
      exact obR_end rfl rfl (grown_refl _ _)
     ·
      intro aA wA cA hNA hRA hckA hOA hbsA hdpA
      have qA_68 : Sl aA 68 (Value.int .i64 ((fi : Nat) : Int)) := hdpA 15 _ 68 (by kernel_rfl) rfl rfl
      have qA_69 : Sl aA 69 (Value.int .i64 ((rt : Nat) : Int)) := hdpA 16 _ 69 (by kernel_rfl) rfl rfl
      clear hbsA hdpA
      refine op_add (ev_base hNA rfl qA_68) (ev_base hNA rfl qA_69) (add64 (by omega)) ?_
      exact obR_end rfl rfl (grown_refl _ _)
     ·
      intro aA wA cA hNA hRA hckA hOA hbsA hdpA
      have qA_67 : Sl aA 67 v := hdpA 14 _ 67 (by kernel_rfl) rfl rfl
      have qA_70 : Sl aA 70 (Value.int .i64 (((fi : Nat) : Int) + ((rt : Nat) : Int))) := hdpA 17 _ 70 (by kernel_rfl) rfl rfl
      clear hbsA hdpA
      refine op_index_own (i := (fi + rt)) slt45 (ev_base hNA rfl qA_67) hOA (ev_base hNA rfl qA_70) (by omega) (by omega) ?_
      intro b_ o_ _ hA_
      exact obR_end rfl ⟨b_, o_, rfl, by simpa using hA_⟩ (grown_refl _ _)
     ·
      intro aA wA cA hNA hRA hckA hOA hbsA hdpA
      obtain ⟨bA_71, oA_71, qA_71, hAA_71⟩ := hdpA 18 _ 71 (by kernel_rfl) rfl rfl
      clear hbsA hdpA
      obtain rfl : cA = 0 := Nat.le_zero.1 (hckA 0 21 rfl (by kernel_rfl))
      have hOA : Own wA base 46 1 v n (dk.toList.map u16v) := hOA
      refine op_load1 (v := (Value.int .u16 (dk[(fi + rt)]!.toNat : Int))) one46 (ev_base hNA rfl qA_71) (by have := hOA.cellAt hAA_71 0 _ (el_at (i := (fi + rt)) (by first | omega | (simp only [Array.size_setIfInBounds, swp_sz, siftDown_size]; omega))); simpa using this) ?_
      exact obR_end rfl rfl (grown_refl _ _)
     ·
      intro aA wA cA hNA hRA hckA hOA hbsA hdpA
      have qA_53 : Sl aA 53 v := hdpA 0 _ 53 (by kernel_rfl) rfl rfl
      have qA_56 : Sl aA 56 (Value.int .i64 (((fi : Nat) : Int) + ((rt : Nat) : Int))) := hdpA 3 _ 56 (by kernel_rfl) rfl rfl
      clear hbsA hdpA
      refine op_index_own (i := (fi + rt)) slt45 (ev_base hNA rfl qA_53) hOA (ev_base hNA rfl qA_56) (by omega) (by omega) ?_
      intro b_ o_ _ hA_
      exact obR_end rfl ⟨b_, o_, rfl, by simpa using hA_⟩ (grown_refl _ _)
     ·
      intro aA wA cA hNA hRA hckA hOA hbsA hdpA
      have qA_57 : Sl aA 57 v := hdpA 4 _ 57 (by kernel_rfl) rfl rfl
      have qA_60 : Sl aA 60 (Value.int .i64 (((fi : Nat) : Int) + (((2 * ((rt : Nat) : Int)) + 1) + 1))) := hdpA 7 _ 60 (by kernel_rfl) rfl rfl
      clear hbsA hdpA
      refine op_index_own (i := (fi + (((2 * rt) + 1) + 1))) slt45 (ev_base hNA rfl qA_57) hOA (ev_base hNA rfl qA_60) (by omega) (by omega) ?_
      intro b_ o_ _ hA_
      exact obR_end rfl ⟨b_, o_, rfl, by simpa using hA_⟩ (grown_refl _ _)
     ·
      intro o_ ho_; obtain rfl := Option.some.inj ho_; intro aA wA hNA hRA hbsA hdpA hOA
      obtain ⟨bA_73, oA_73, qA_73, hAA_73⟩ := hdpA 20 _ 73 (by kernel_rfl) rfl rfl
      have qA_66 : Sl aA 66 (Value.int .u16 (dk[(fi + (((2 * rt) + 1) + 1))]!.toNat : Int)) := hdpA 13 _ 66 (by kernel_rfl) rfl rfl
      clear hbsA hdpA
      have hOA : Own wA base 46 1 v n (dk.toList.map u16v) := hOA
      refine op_store_own (vs := [(Value.int .u16 (dk[(fi + (((2 * rt) + 1) + 1))]!.toNat : Int))]) size46 (ev_base hNA rfl qA_73) (ev_base hNA rfl qA_66) rfl rfl rfl hOA hAA_73 (by have := hOA.1; simp at this ⊢; omega) ?_
      intro w_ hO_ E_
      exact obW_end rfl (hO_.cast rfl (set_arr (by first | omega | (simp only [Array.size_setIfInBounds, swp_sz, siftDown_size]; omega)))) E_
     ·
      intro o_ ho_; obtain rfl := Option.some.inj ho_; intro aA wA hNA hRA hbsA hdpA hOA
      obtain ⟨bA_74, oA_74, qA_74, hAA_74⟩ := hdpA 22 _ 74 (by kernel_rfl) rfl rfl
      have qA_72 : Sl aA 72 (Value.int .u16 (dk[(fi + rt)]!.toNat : Int)) := hdpA 19 _ 72 (by kernel_rfl) rfl rfl
      clear hbsA hdpA
      have hOA : Own wA base 46 1 v n ((dk.setIfInBounds (fi + rt) dk[(fi + (((2 * rt) + 1) + 1))]!).toList.map u16v) := hOA
      refine op_store_own (vs := [(Value.int .u16 (dk[(fi + rt)]!.toNat : Int))]) size46 (ev_base hNA rfl qA_74) (ev_base hNA rfl qA_72) rfl rfl rfl hOA hAA_74 (by have := hOA.1; simp at this ⊢; omega) ?_
      intro w_ hO_ E_
      exact obW_end rfl (hO_.cast rfl (set_arr (by first | omega | (simp only [Array.size_setIfInBounds, swp_sz, siftDown_size]; omega)))) E_
     ·
      intro a28 w28 hN28 hd28 hbs28 hph28 hO28 E28
      have hd28 := hd28.trans hd2
      have s28_0 := (hbs28 0 rfl).trans (sl_base hN2 rfl s2_0)
      have s28_2 := (hbs28 2 rfl).trans (sl_base hN2 rfl s2_2)
      have s28_3 := (hbs28 3 rfl).trans (sl_base hN2 rfl s2_3)
      have s28_8 := (hbs28 8 rfl).trans (sl_base hN2 rfl s2_8)
      have s28_9 := (hbs28 9 rfl).trans (sl_hit hN2 rfl)
      clear hbs28 hph28
      have hO28 : Own w28 base 46 1 v n (((dk.setIfInBounds (fi + rt) dk[(fi + (((2 * rt) + 1) + 1))]!).setIfInBounds (fi + (((2 * rt) + 1) + 1)) dk[(fi + rt)]!).toList.map u16v) := hO28
      have z_w28 := E28.size
      have hb := grow_stepX hb E28 rfl
      refine hK27 _ _ ?_
      refine one_reg ?_
      refine op_move (ev_base hN28 rfl s28_9) ?_
      refine op_assign (ev_hit hN28 rfl) ?_
      refine reg_nil ?_
      refine blk_normal ?_
      -- round 16F 20T 36T 52F
      have hch : childS hi fi rt dk = 2 * rt + 2 := childS_t (by omega) c36
      exact loop_next _ hN28 hd28 ⟨(2 * rt + 2), _, rfl, (sl_base hN28 rfl s28_0), (sl_base hN28 rfl s28_2), (sl_base hN28 rfl s28_3), (sl_hit hN28 rfl).trans (congrArg (Value.int .i64) (by omega)), (by first | assumption | (simp only [Array.size_setIfInBounds, swp_sz, siftDown_size]; assumption)), (by omega), (hs.trans ((siftDown_go (by omega) (by rw [hch]; simpa [Nat.add_assoc] using c52)).trans (by rw [hch]; rfl))), hb, (by omega), hO28⟩ (by omega)
   · -- 36F
    refine wp_skip ?_
    refine hK7 _ _ ?_
    refine seq_any fun K29 hK29 => ?_
    refine seq_any fun K30 hK30 => ?_
    refine reg_still mixed (by kernel_rfl) ?_
    intro w32 E31
    have z_w32 := E31.size
    have hO3 := hO3.keep0 E31
    have hb := grow_step0 hb E31
    refine st_step rfl (fun _ h9 => op_move (ev_base hN2 rfl s2_0) h9) ?_
    refine st_step rfl (fun _ h9 => op_move (ev_base hN2 rfl s2_3) h9) ?_
    refine st_step rfl (fun _ h9 => op_move (ev_base hN2 rfl s2_8) h9) ?_
    refine st_step rfl (fun _ h9 => op_add (ev_hit hN2 rfl) (ev_hit hN2 rfl) (add64 (by omega)) h9) ?_
    refine st_index_rd slt45 (ev_hit hN2 rfl) hO3.rdw (ev_hit hN2 rfl) (by omega) (by omega) ?_
    intro b33 o34 h0b33 h1b33 hc35
    refine st_step rfl (fun _ h9 => op_load1 (v := (Value.int .u16 (dk[(fi + rt)]!.toNat : Int))) one46 (ev_hit hN2 rfl) (by have := hc35 0 (Value.int .u16 (dk[(fi + rt)]!.toNat : Int)) (by decide) (el_arr (i := (fi + rt)) (by omega) (by first | omega | (simp only [Array.size_setIfInBounds, swp_sz, siftDown_size]; omega))); simpa using this) h9) ?_
    refine st_step rfl (fun _ h9 => op_move (ev_base hN2 rfl s2_0) h9) ?_
    refine st_step rfl (fun _ h9 => op_move (ev_base hN2 rfl s2_3) h9) ?_
    refine st_step rfl (fun _ h9 => op_move (ev_hit hN2 rfl) h9) ?_
    refine st_step rfl (fun _ h9 => op_add (ev_hit hN2 rfl) (ev_hit hN2 rfl) (add64 (by omega)) h9) ?_
    refine st_index_rd slt45 (ev_hit hN2 rfl) hO3.rdw (ev_hit hN2 rfl) (by omega) (by omega) ?_
    intro b36 o37 h0b36 h1b36 hc38
    refine st_step rfl (fun _ h9 => op_load1 (v := (Value.int .u16 (dk[(fi + ((2 * rt) + 1))]!.toNat : Int))) one46 (ev_hit hN2 rfl) (by have := hc38 0 (Value.int .u16 (dk[(fi + ((2 * rt) + 1))]!.toNat : Int)) (by decide) (el_arr (i := (fi + ((2 * rt) + 1))) (by omega) (by first | omega | (simp only [Array.size_setIfInBounds, swp_sz, siftDown_size]; omega))); simpa using this) h9) ?_
    refine st_fn (vs := [(Value.int .u16 (dk[(fi + rt)]!.toNat : Int)), (Value.int .u16 (dk[(fi + ((2 * rt) + 1))]!.toNat : Int))]) ok159 (⟨(ev_hit hN2 rfl), ⟨(ev_hit hN2 rfl), trivial⟩⟩) (Less16_ret dk[(fi + rt)]! dk[(fi + ((2 * rt) + 1))]! _) ?_
    refine st_step rfl (fun _ h9 => op_not (ev_hit hN2 rfl) h9) ?_
    refine st_nil ?_
    refine hK30 _ _ ?_
    refine wp_cond_split (ev_hit hN2 rfl) (fun c52 => ?_) (fun c52 => ?_)
    · -- 52T
     refine wp_ret (then_ret (blk_ret (then_ret (blk_ret ( ?_)))))
     refine ret0 rfl hd2  ⟨_, rfl, ?_⟩
     -- path 16F 20T 36F 52T
     have hch : childS hi fi rt dk = 2 * rt + 1 := childS_f (.inr c36)
     exact ⟨hb, rfl, hO3.cast rfl (by rw [hs, siftDown_ret (by omega) (by rw [hch]; simpa [Nat.add_assoc] using c52)])⟩
    · -- 52F
     refine wp_skip ?_
     refine hK29 _ _ ?_
     refine seq_any fun K39 hK39 => ?_
     refine reg_mid (e := 46) (sz := 1) (base := base) (n := n) (v := v) (Φ := phiL [(fun uz _ => uz = v), (fun uz _ => uz = (Value.int .i64 ((fi : Nat) : Int))), (fun uz _ => uz = (Value.int .i64 ((rt : Nat) : Int))), (fun uz _ => uz = (Value.int .i64 (((fi : Nat) : Int) + ((rt : Nat) : Int)))), (fun uz _ => uz = v), (fun uz _ => uz = (Value.int .i64 ((fi : Nat) : Int))), (fun uz _ => uz = (Value.int .i64 ((2 * ((rt : Nat) : Int)) + 1))), (fun uz _ => uz = (Value.int .i64 (((fi : Nat) : Int) + ((2 * ((rt : Nat) : Int)) + 1)))), (fun uz _ => uz = v), (fun uz _ => uz = (Value.int .i64 ((fi : Nat) : Int))), (fun uz _ => uz = (Value.int .i64 ((2 * ((rt : Nat) : Int)) + 1))), (fun uz _ => uz = (Value.int .i64 (((fi : Nat) : Int) + ((2 * ((rt : Nat) : Int)) + 1)))), (fun uz _ => ∃ bz oz, uz = ptr bz oz ∧ AtV v (fi + ((2 * rt) + 1)) bz oz), (fun uz _ => uz = (Value.int .u16 (dk[(fi + ((2 * rt) + 1))]!.toNat : Int))), (fun uz _ => uz = v), (fun uz _ => uz = (Value.int .i64 ((fi : Nat) : Int))), (fun uz _ => uz = (Value.int .i64 ((rt : Nat) : Int))), (fun uz _ => uz = (Value.int .i64 (((fi : Nat) : Int) + ((rt : Nat) : Int)))), (fun uz _ => ∃ bz oz, uz = ptr bz oz ∧ AtV v (fi + rt) bz oz), (fun uz _ => uz = (Value.int .u16 (dk[(fi + rt)]!.toNat : Int))), (fun uz _ => ∃ bz oz, uz = ptr bz oz ∧ AtV v (fi + rt) bz oz), (fun _ _ => True), (fun uz _ => ∃ bz oz, uz = ptr bz oz ∧ AtV v (fi + ((2 * rt) + 1)) bz oz), (fun _ _ => True)]) [21, 23] [(dk.toList.map u16v), ((dk.setIfInBounds (fi + rt) dk[(fi + ((2 * rt) + 1))]!).toList.map u16v), (((dk.setIfInBounds (fi + rt) dk[(fi + ((2 * rt) + 1))]!).setIfInBounds (fi + ((2 * rt) + 1)) dk[(fi + rt)]!).toList.map u16v)] mixed (by kernel_rfl) (by kernel_rfl) (by kernel_rfl) (by kernel_rfl) hN2 hO3 (StL.get (StL.eq (StL.eq (StL.eq (StL.eq (StL.eq (StL.eq (StL.eq (StL.eq (StL.eq (StL.eq (StL.eq (StL.eq (StL.at (StL.eq (StL.eq (StL.eq (StL.eq (StL.eq (StL.at (StL.eq (StL.at (StL.cons (fun _ _ _ _ h => h) (StL.at (StL.cons (fun _ _ _ _ h => h) (StL.nil _)))))))))))))))))))))))))) (ObRs.get (ObRs.cons ?_ (ObRs.cons ?_ (ObRs.cons ?_ (ObRs.cons ?_ (ObRs.cons ?_ (ObRs.cons ?_ (ObRs.cons ?_ (ObRs.cons ?_ (ObRs.cons ?_ (ObRs.cons ?_ (ObRs.cons ?_ (ObRs.cons ?_ (ObRs.cons ?_ (ObRs.cons ?_ (ObRs.cons ?_ (ObRs.cons ?_ (ObRs.cons ?_ (ObRs.cons ?_ (ObRs.cons ?_ (ObRs.cons ?_ (ObRs.cons ?_ (ObRs.pass rfl (ObRs.cons ?_ (ObRs.pass rfl (ObRs.nil)))))))))))))))))))))))))) (ObWs.get (ObWs.cons ?_ (ObWs.cons ?_ (ObWs.nil)))) ?_
     ·
      intro aA wA cA hNA hRA hckA hOA hbsA hdpA
      have qA_0 := (hbsA 0 rfl).trans (sl_base hN2 rfl s2_0)
      clear hbsA hdpA
      refine op_move (ev_base hNA rfl qA_0) ?_
      exact obR_end rfl rfl (grown_refl _ _)
     ·
      intro aA wA cA hNA hRA hckA hOA hbsA hdpA
      have qA_3 := (hbsA 3 rfl).trans (sl_base hN2 rfl s2_3)
      clear hbsA hdpA
      refine op_move (ev_base hNA rfl qA_3) ?_
      exact obR_end rfl rfl (grown_refl _ _)
     ·
      intro aA wA cA hNA hRA hckA hOA hbsA hdpA
      have qA_8 := (hbsA 8 rfl).trans (sl_base hN2 rfl s2_8)
      clear hbsA hdpA
      refine op_move (ev_base hNA rfl qA_8) ?_
      exact obR_end rfl rfl (grown_refl _ _)
     ·
      intro aA wA cA hNA hRA hckA hOA hbsA hdpA
      have qA_54 : Sl aA 54 (Value.int .i64 ((fi : Nat) : Int)) := hdpA 1 _ 54 (by kernel_rfl) rfl rfl
      have qA_55 : Sl aA 55 (Value.int .i64 ((rt : Nat) : Int)) := hdpA 2 _ 55 (by kernel_rfl) rfl rfl
      clear hbsA hdpA
      refine op_add (ev_base hNA rfl qA_54) (ev_base hNA rfl qA_55) (add64 (by omega)) ?_
      exact obR_end rfl rfl (grown_refl _ _)
     ·
      intro aA wA cA hNA hRA hckA hOA hbsA hdpA
      have qA_0 := (hbsA 0 rfl).trans (sl_base hN2 rfl s2_0)
      clear hbsA hdpA
      refine op_move (ev_base hNA rfl qA_0) ?_
      exact obR_end rfl rfl (grown_refl _ _)
     ·
      intro aA wA cA hNA hRA hckA hOA hbsA hdpA
      have qA_3 := (hbsA 3 rfl).trans (sl_base hN2 rfl s2_3)
      clear hbsA hdpA
      refine op_move (ev_base hNA rfl qA_3) ?_
      exact obR_end rfl rfl (grown_refl _ _)
     ·
      intro aA wA cA hNA hRA hckA hOA hbsA hdpA
      have qA_9 := (hbsA 9 rfl).trans (sl_hit hN2 rfl)
      clear hbsA hdpA
      refine op_move (ev_base hNA rfl qA_9) ?_
      exact obR_end rfl rfl (grown_refl _ _)
     ·
      intro aA wA cA hNA hRA hckA hOA hbsA hdpA
      have qA_58 : Sl aA 58 (Value.int .i64 ((fi : Nat) : Int)) := hdpA 5 _ 58 (by kernel_rfl) rfl rfl
      have qA_59 : Sl aA 59 (Value.int .i64 ((2 * ((rt : Nat) : Int)) + 1)) := hdpA 6 _ 59 (by kernel_rfl) rfl rfl
      clear hbsA hdpA
      refine op_add (ev_base hNA rfl qA_58) (ev_base hNA rfl qA_59) (add64 (by omega)) ?_
      exact obR_end rfl rfl (grown_refl _ _)
     ·
      intro aA wA cA hNA hRA hckA hOA hbsA hdpA
      have qA_0 := (hbsA 0 rfl).trans (sl_base hN2 rfl s2_0)
      clear hbsA hdpA
      refine op_move (ev_base hNA rfl qA_0) ?_
      exact obR_end rfl rfl (grown_refl _ _)
     ·
      intro aA wA cA hNA hRA hckA hOA hbsA hdpA
      have qA_3 := (hbsA 3 rfl).trans (sl_base hN2 rfl s2_3)
      clear hbsA hdpA
      refine op_move (ev_base hNA rfl qA_3) ?_
      exact obR_end rfl rfl (grown_refl _ _)
     ·
      intro aA wA cA hNA hRA hckA hOA hbsA hdpA
      have qA_9 := (hbsA 9 rfl).trans (sl_hit hN2 rfl)
      clear hbsA hdpA
      refine op_move (ev_base hNA rfl qA_9) ?_
      exact obR_end rfl rfl (grown_refl _ _)
     ·
      intro aA wA cA hNA hRA hckA hOA hbsA hdpA
      have qA_62 : Sl aA 62 (Value.int .i64 ((fi : Nat) : Int)) := hdpA 9 _ 62 (by kernel_rfl) rfl rfl
      have qA_63 : Sl aA 63 (Value.int .i64 ((2 * ((rt : Nat) : Int)) + 1)) := hdpA 10 _ 63 (by kernel_rfl) rfl rfl
      clear hbsA hdpA
      refine op_add (ev_base hNA rfl qA_62) (ev_base hNA rfl qA_63) (add64 (by omega)) ?_
      exact obR_end rfl rfl (grown_refl _ _)
     ·
      intro aA wA cA hNA hRA hckA hOA hbsA hdpA
      have qA_61 : Sl aA 61 v := hdpA 8 _ 61 (by kernel_rfl) rfl rfl
      have qA_64 : Sl aA 64 (Value.int .i64 (((fi : Nat) : Int) + ((2 * ((rt : Nat) : Int)) + 1))) := hdpA 11 _ 64 (by kernel_rfl) rfl rfl
      clear hbsA hdpA
      refine op_index_own (i := (fi + ((2 * rt) + 1))) slt45 (ev_base hNA rfl qA_61) hOA (ev_base hNA rfl qA_64) (by omega) (by omega) ?_
      intro b_ o_ _ hA_
      exact obR_end rfl ⟨b_, o_, rfl, by simpa using hA_⟩ (grown_refl _ _)
     ·
      intro aA wA cA hNA hRA hckA hOA hbsA hdpA
      obtain ⟨bA_65, oA_65, qA_65, hAA_65⟩ := hdpA 12 _ 65 (by kernel_rfl) rfl rfl
      clear hbsA hdpA
      obtain rfl : cA = 0 := Nat.le_zero.1 (hckA 0 21 rfl (by kernel_rfl))
      have hOA : Own wA base 46 1 v n (dk.toList.map u16v) := hOA
      refine op_load1 (v := (Value.int .u16 (dk[(fi + ((2 * rt) + 1))]!.toNat : Int))) one46 (ev_base hNA rfl qA_65) (by have := hOA.cellAt hAA_65 0 _ (el_at (i := (fi + ((2 * rt) + 1))) (by first | omega | (simp only [Array.size_setIfInBounds, swp_sz, siftDown_size]; omega))); simpa using this) ?_
      exact obR_end rfl rfl (grown_refl _ _)
     ·
      intro aA wA cA hNA hRA hckA hOA hbsA hdpA
      have qA_0 := (hbsA 0 rfl).trans (sl_base hN2 rfl s2_0)
      clear hbsA hdpA
      refine op_move (ev_base hNA rfl qA_0) ?_
      exact obR_end rfl rfl (grown_refl _ _)
     ·
      intro aA wA cA hNA hRA hckA hOA hbsA hdpA
      have qA_3 := (hbsA 3 rfl).trans (sl_base hN2 rfl s2_3)
      clear hbsA hdpA
      refine op_move (ev_base hNA rfl qA_3) ?_
      exact obR_end rfl rfl (grown_refl _ _)
     ·
      intro aA wA cA hNA hRA hckA hOA hbsA hdpA
      have qA_8 := (hbsA 8 rfl).trans (sl_base hN2 rfl s2_8)
      clear hbsA hdpA
      refine op_move (ev_base hNA rfl qA_8) ?_
      exact obR_end rfl rfl (grown_refl _ _)
     ·
      intro aA wA cA hNA hRA hckA hOA hbsA hdpA
      have qA_68 : Sl aA 68 (Value.int .i64 ((fi : Nat) : Int)) := hdpA 15 _ 68 (by kernel_rfl) rfl rfl
      have qA_69 : Sl aA 69 (Value.int .i64 ((rt : Nat) : Int)) := hdpA 16 _ 69 (by kernel_rfl) rfl rfl
      clear hbsA hdpA
      refine op_add (ev_base hNA rfl qA_68) (ev_base hNA rfl qA_69) (add64 (by omega)) ?_
      exact obR_end rfl rfl (grown_refl _ _)
     ·
      intro aA wA cA hNA hRA hckA hOA hbsA hdpA
      have qA_67 : Sl aA 67 v := hdpA 14 _ 67 (by kernel_rfl) rfl rfl
      have qA_70 : Sl aA 70 (Value.int .i64 (((fi : Nat) : Int) + ((rt : Nat) : Int))) := hdpA 17 _ 70 (by kernel_rfl) rfl rfl
      clear hbsA hdpA
      refine op_index_own (i := (fi + rt)) slt45 (ev_base hNA rfl qA_67) hOA (ev_base hNA rfl qA_70) (by omega) (by omega) ?_
      intro b_ o_ _ hA_
      exact obR_end rfl ⟨b_, o_, rfl, by simpa using hA_⟩ (grown_refl _ _)
     ·
      intro aA wA cA hNA hRA hckA hOA hbsA hdpA
      obtain ⟨bA_71, oA_71, qA_71, hAA_71⟩ := hdpA 18 _ 71 (by kernel_rfl) rfl rfl
      clear hbsA hdpA
      obtain rfl : cA = 0 := Nat.le_zero.1 (hckA 0 21 rfl (by kernel_rfl))
      have hOA : Own wA base 46 1 v n (dk.toList.map u16v) := hOA
      refine op_load1 (v := (Value.int .u16 (dk[(fi + rt)]!.toNat : Int))) one46 (ev_base hNA rfl qA_71) (by have := hOA.cellAt hAA_71 0 _ (el_at (i := (fi + rt)) (by first | omega | (simp only [Array.size_setIfInBounds, swp_sz, siftDown_size]; omega))); simpa using this) ?_
      exact obR_end rfl rfl (grown_refl _ _)
     ·
      intro aA wA cA hNA hRA hckA hOA hbsA hdpA
      have qA_53 : Sl aA 53 v := hdpA 0 _ 53 (by kernel_rfl) rfl rfl
      have qA_56 : Sl aA 56 (Value.int .i64 (((fi : Nat) : Int) + ((rt : Nat) : Int))) := hdpA 3 _ 56 (by kernel_rfl) rfl rfl
      clear hbsA hdpA
      refine op_index_own (i := (fi + rt)) slt45 (ev_base hNA rfl qA_53) hOA (ev_base hNA rfl qA_56) (by omega) (by omega) ?_
      intro b_ o_ _ hA_
      exact obR_end rfl ⟨b_, o_, rfl, by simpa using hA_⟩ (grown_refl _ _)
     ·
      intro aA wA cA hNA hRA hckA hOA hbsA hdpA
      have qA_57 : Sl aA 57 v := hdpA 4 _ 57 (by kernel_rfl) rfl rfl
      have qA_60 : Sl aA 60 (Value.int .i64 (((fi : Nat) : Int) + ((2 * ((rt : Nat) : Int)) + 1))) := hdpA 7 _ 60 (by kernel_rfl) rfl rfl
      clear hbsA hdpA
      refine op_index_own (i := (fi + ((2 * rt) + 1))) slt45 (ev_base hNA rfl qA_57) hOA (ev_base hNA rfl qA_60) (by omega) (by omega) ?_
      intro b_ o_ _ hA_
      exact obR_end rfl ⟨b_, o_, rfl, by simpa using hA_⟩ (grown_refl _ _)
     ·
      intro o_ ho_; obtain rfl := Option.some.inj ho_; intro aA wA hNA hRA hbsA hdpA hOA
      obtain ⟨bA_73, oA_73, qA_73, hAA_73⟩ := hdpA 20 _ 73 (by kernel_rfl) rfl rfl
      have qA_66 : Sl aA 66 (Value.int .u16 (dk[(fi + ((2 * rt) + 1))]!.toNat : Int)) := hdpA 13 _ 66 (by kernel_rfl) rfl rfl
      clear hbsA hdpA
      have hOA : Own wA base 46 1 v n (dk.toList.map u16v) := hOA
      refine op_store_own (vs := [(Value.int .u16 (dk[(fi + ((2 * rt) + 1))]!.toNat : Int))]) size46 (ev_base hNA rfl qA_73) (ev_base hNA rfl qA_66) rfl rfl rfl hOA hAA_73 (by have := hOA.1; simp at this ⊢; omega) ?_
      intro w_ hO_ E_
      exact obW_end rfl (hO_.cast rfl (set_arr (by first | omega | (simp only [Array.size_setIfInBounds, swp_sz, siftDown_size]; omega)))) E_
     ·
      intro o_ ho_; obtain rfl := Option.some.inj ho_; intro aA wA hNA hRA hbsA hdpA hOA
      obtain ⟨bA_74, oA_74, qA_74, hAA_74⟩ := hdpA 22 _ 74 (by kernel_rfl) rfl rfl
      have qA_72 : Sl aA 72 (Value.int .u16 (dk[(fi + rt)]!.toNat : Int)) := hdpA 19 _ 72 (by kernel_rfl) rfl rfl
      clear hbsA hdpA
      have hOA : Own wA base 46 1 v n ((dk.setIfInBounds (fi + rt) dk[(fi + ((2 * rt) + 1))]!).toList.map u16v) := hOA
      refine op_store_own (vs := [(Value.int .u16 (dk[(fi + rt)]!.toNat : Int))]) size46 (ev_base hNA rfl qA_74) (ev_base hNA rfl qA_72) rfl rfl rfl hOA hAA_74 (by have := hOA.1; simp at this ⊢; omega) ?_
      intro w_ hO_ E_
      exact obW_end rfl (hO_.cast rfl (set_arr (by first | omega | (simp only [Array.size_setIfInBounds, swp_sz, siftDown_size]; omega)))) E_
     ·
      intro a40 w40 hN40 hd40 hbs40 hph40 hO40 E40
      have hd40 := hd40.trans hd2
      have s40_0 := (hbs40 0 rfl).trans (sl_base hN2 rfl s2_0)
      have s40_2 := (hbs40 2 rfl).trans (sl_base hN2 rfl s2_2)
      have s40_3 := (hbs40 3 rfl).trans (sl_base hN2 rfl s2_3)
      have s40_8 := (hbs40 8 rfl).trans (sl_base hN2 rfl s2_8)
      have s40_9 := (hbs40 9 rfl).trans (sl_hit hN2 rfl)
      clear hbs40 hph40
      have hO40 : Own w40 base 46 1 v n (((dk.setIfInBounds (fi + rt) dk[(fi + ((2 * rt) + 1))]!).setIfInBounds (fi + ((2 * rt) + 1)) dk[(fi + rt)]!).toList.map u16v) := hO40
      have z_w40 := E40.size
      have hb := grow_stepX hb E40 rfl
      refine hK39 _ _ ?_
      refine one_reg ?_
      refine op_move (ev_base hN40 rfl s40_9) ?_
      refine op_assign (ev_hit hN40 rfl) ?_
      refine reg_nil ?_
      refine blk_normal ?_
      -- round 16F 20T 36F 52F
      have hch : childS hi fi rt dk = 2 * rt + 1 := childS_f (.inr c36)
      exact loop_next _ hN40 hd40 ⟨(2 * rt + 1), _, rfl, (sl_base hN40 rfl s40_0), (sl_base hN40 rfl s40_2), (sl_base hN40 rfl s40_3), (sl_hit hN40 rfl).trans (congrArg (Value.int .i64) (by omega)), (by first | assumption | (simp only [Array.size_setIfInBounds, swp_sz, siftDown_size]; assumption)), (by omega), (hs.trans ((siftDown_go (by omega) (by rw [hch]; simpa [Nat.add_assoc] using c52)).trans (by rw [hch]; rfl))), hb, (by omega), hO40⟩ (by omega)
  · -- 20F
   refine st_step rfl (fun _ h9 => op_cmp (b := false) (ev_hit hN2 rfl) (ev_hit hN2 rfl) (b_lss (decide_eq_false g20)) h9) ?_
   refine st_step rfl (fun _ h9 => op_move (ev_hit hN2 rfl) h9) ?_
   refine st_g_false (j := 4) (dj := 21) (b := true) rfl rfl rfl (ev_hit hN2 rfl) rfl rfl ?_
   refine st_g_false (j := 4) (dj := 21) (b := true) rfl rfl rfl (ev_hit hN2 rfl) rfl rfl ?_
   refine st_g_false (j := 4) (dj := 21) (b := true) rfl rfl rfl (ev_hit hN2 rfl) rfl rfl ?_
   refine st_g_false (j := 4) (dj := 21) (b := true) rfl rfl rfl (ev_hit hN2 rfl) rfl rfl ?_
   refine st_g_false (j := 4) (dj := 21) (b := true) rfl rfl rfl (ev_hit hN2 rfl) rfl rfl ?_
   refine st_g_false (j := 4) (dj := 21) (b := true) rfl rfl rfl (ev_hit hN2 rfl) rfl rfl ?_
   refine st_g_false (j := 4) (dj := 21) (b := true) rfl rfl rfl (ev_hit hN2 rfl) rfl rfl ?_
   refine st_g_false (j := 4) (dj := 21) (b := true) rfl rfl rfl (ev_hit hN2 rfl) rfl rfl ?_
   refine st_g_false (j := 4) (dj := 21) (b := true) rfl rfl rfl (ev_hit hN2 rfl) rfl rfl ?_
   refine st_g_false (j := 4) (dj := 21) (b := true) rfl rfl rfl (ev_hit hN2 rfl) rfl rfl ?_
   refine st_g_false (j := 4) (dj := 21) (b := true) rfl rfl rfl (ev_hit hN2 rfl) rfl rfl ?_
   refine st_g_false (j := 4) (dj := 21) (b := true) rfl rfl rfl (ev_hit hN2 rfl) rfl rfl ?_
   refine st_g_false (j := 4) (dj := 21) (b := true) rfl rfl rfl (ev_hit hN2 rfl) rfl rfl ?_
   refine st_g_false (j := 4) (dj := 21) (b := true) rfl rfl rfl (ev_hit hN2 rfl) rfl rfl ?_
   refine st_step rfl (fun _ h9 => op_pick_f (ev_hit hN2 rfl) rfl h9) ?_
   refine st_nil ?_
   refine hK8 _ _ ?_
   refine wp_cond_false (ev_hit hN2 rfl) ?_
   refine wp_skip ?_
   refine hK7 _ _ ?_
   refine seq_any fun K41 hK41 => ?_
   refine seq_any fun K42 hK42 => ?_
   refine reg_still mixed (by kernel_rfl) ?_
   intro w44 E43
   have z_w44 := E43.size
   have hO3 := hO3.keep0 E43
   have hb := grow_step0 hb E43
   refine st_step rfl (fun _ h9 => op_move (ev_base hN2 rfl s2_0) h9) ?_
   refine st_step rfl (fun _ h9 => op_move (ev_base hN2 rfl s2_3) h9) ?_
   refine st_step rfl (fun _ h9 => op_move (ev_base hN2 rfl s2_8) h9) ?_
   refine st_step rfl (fun _ h9 => op_add (ev_hit hN2 rfl) (ev_hit hN2 rfl) (add64 (by omega)) h9) ?_
   refine st_index_rd slt45 (ev_hit hN2 rfl) hO3.rdw (ev_hit hN2 rfl) (by omega) (by omega) ?_
   intro b45 o46 h0b45 h1b45 hc47
   refine st_step rfl (fun _ h9 => op_load1 (v := (Value.int .u16 (dk[(fi + rt)]!.toNat : Int))) one46 (ev_hit hN2 rfl) (by have := hc47 0 (Value.int .u16 (dk[(fi + rt)]!.toNat : Int)) (by decide) (el_arr (i := (fi + rt)) (by omega) (by first | omega | (simp only [Array.size_setIfInBounds, swp_sz, siftDown_size]; omega))); simpa using this) h9) ?_
   refine st_step rfl (fun _ h9 => op_move (ev_base hN2 rfl s2_0) h9) ?_
   refine st_step rfl (fun _ h9 => op_move (ev_base hN2 rfl s2_3) h9) ?_
   refine st_step rfl (fun _ h9 => op_move (ev_hit hN2 rfl) h9) ?_
   refine st_step rfl (fun _ h9 => op_add (ev_hit hN2 rfl) (ev_hit hN2 rfl) (add64 (by omega)) h9) ?_
   refine st_index_rd slt45 (ev_hit hN2 rfl) hO3.rdw (ev_hit hN2 rfl) (by omega) (by omega) ?_
   intro b48 o49 h0b48 h1b48 hc50
   refine st_step rfl (fun _ h9 => op_load1 (v := (Value.int .u16 (dk[(fi + ((2 * rt) + 1))]!.toNat : Int))) one46 (ev_hit hN2 rfl) (by have := hc50 0 (Value.int .u16 (dk[(fi + ((2 * rt) + 1))]!.toNat : Int)) (by decide) (el_arr (i := (fi + ((2 * rt) + 1))) (by omega) (by first | omega | (simp only [Array.size_setIfInBounds, swp_sz, siftDown_size]; omega))); simpa using this) h9) ?_
   refine st_fn (vs := [(Value.int .u16 (dk[(fi + rt)]!.toNat : Int)), (Value.int .u16 (dk[(fi + ((2 * rt) + 1))]!.toNat : Int))]) ok159 (⟨(ev_hit hN2 rfl), ⟨(ev_hit hN2 rfl), trivial⟩⟩) (Less16_ret dk[(fi + rt)]! dk[(fi + ((2 * rt) + 1))]! _) ?_
   refine st_step rfl (fun _ h9 => op_not (ev_hit hN2 rfl) h9) ?_
   refine st_nil ?_
   refine hK42 _ _ ?_
   refine wp_cond_split (ev_hit hN2 rfl) (fun c52 => ?_) (fun c52 => ?_)
   · -- 52T
    refine wp_ret (then_ret (blk_ret (then_ret (blk_ret ( ?_)))))
    refine ret0 rfl hd2  ⟨_, rfl, ?_⟩
    -- path 16F 20F 52T
    have hch : childS hi fi rt dk = 2 * rt + 1 := childS_f (.inl (by omega))
    exact ⟨hb, rfl, hO3.cast rfl (by rw [hs, siftDown_ret (by omega) (by rw [hch]; simpa [Nat.add_assoc] using c52)])⟩
   · -- 52F
    refine wp_skip ?_
    refine hK41 _ _ ?_
    refine seq_any fun K51 hK51 => ?_
    refine reg_mid (e := 46) (sz := 1) (base := base) (n := n) (v := v) (Φ := phiL [(fun uz _ => uz = v), (fun uz _ => uz = (Value.int .i64 ((fi : Nat) : Int))), (fun uz _ => uz = (Value.int .i64 ((rt : Nat) : Int))), (fun uz _ => uz = (Value.int .i64 (((fi : Nat) : Int) + ((rt : Nat) : Int)))), (fun uz _ => uz = v), (fun uz _ => uz = (Value.int .i64 ((fi : Nat) : Int))), (fun uz _ => uz = (Value.int .i64 ((2 * ((rt : Nat) : Int)) + 1))), (fun uz _ => uz = (Value.int .i64 (((fi : Nat) : Int) + ((2 * ((rt : Nat) : Int)) + 1)))), (fun uz _ => uz = v), (fun uz _ => uz = (Value.int .i64 ((fi : Nat) : Int))), (fun uz _ => uz = (Value.int .i64 ((2 * ((rt : Nat) : Int)) + 1))), (fun uz _ => uz = (Value.int .i64 (((fi : Nat) : Int) + ((2 * ((rt : Nat) : Int)) + 1)))), (fun uz _ => ∃ bz oz, uz = ptr bz oz ∧ AtV v (fi + ((2 * rt) + 1)) bz oz), (fun uz _ => uz = (Value.int .u16 (dk[(fi + ((2 * rt) + 1))]!.toNat : Int))), (fun uz _ => uz = v), (fun uz _ => uz = (Value.int .i64 ((fi : Nat) : Int))), (fun uz _ => uz = (Value.int .i64 ((rt : Nat) : Int))), (fun uz _ => uz = (Value.int .i64 (((fi : Nat) : Int) + ((rt : Nat) : Int)))), (fun uz _ => ∃ bz oz, uz = ptr bz oz ∧ AtV v (fi + rt) bz oz), (fun uz _ => uz = (Value.int .u16 (dk[(fi + rt)]!.toNat : Int))), (fun uz _ => ∃ bz oz, uz = ptr bz oz ∧ AtV v (fi + rt) bz oz), (fun _ _ => True), (fun uz _ => ∃ bz oz, uz = ptr bz oz ∧ AtV v (fi + ((2 * rt) + 1)) bz oz), (fun _ _ => True)]) [21, 23] [(dk.toList.map u16v), ((dk.setIfInBounds (fi + rt) dk[(fi + ((2 * rt) + 1))]!).toList.map u16v), (((dk.setIfInBounds (fi + rt) dk[(fi + ((2 * rt) + 1))]!).setIfInBounds (fi + ((2 * rt) + 1)) dk[(fi + rt)]!).toList.map u16v)] mixed (by kernel_rfl) (by kernel_rfl) (by kernel_rfl) (by kernel_rfl) hN2 hO3 (StL.get (StL.eq (StL.eq (StL.eq (StL.eq (StL.eq (StL.eq (StL.eq (StL.eq (StL.eq (StL.eq (StL.eq (StL.eq (StL.at (StL.eq (StL.eq (StL.eq (StL.eq (StL.eq (StL.at (StL.eq (StL.at (StL.cons (fun _ _ _ _ h => h) (StL.at (StL.cons (fun _ _ _ _ h => h) (StL.nil _)))))))))))))))))))))))))) (ObRs.get (ObRs.cons ?_ (ObRs.cons ?_ (ObRs.cons ?_ (ObRs.cons ?_ (ObRs.cons ?_ (ObRs.cons ?_ (ObRs.cons ?_ (ObRs.cons ?_ (ObRs.cons ?_ (ObRs.cons ?_ (ObRs.cons ?_ (ObRs.cons ?_ (ObRs.cons ?_ (ObRs.cons ?_ (ObRs.cons ?_ (ObRs.cons ?_ (ObRs.cons ?_ (ObRs.cons ?_ (ObRs.cons ?_ (ObRs.cons ?_ (ObRs.cons ?_ (ObRs.pass rfl (ObRs.cons ?_ (ObRs.pass rfl (ObRs.nil)))))))))))))))))))))))))) (ObWs.get (ObWs.cons ?_ (ObWs.cons ?_ (ObWs.nil)))) ?_
    ·
     intro aA wA cA hNA hRA hckA hOA hbsA hdpA
     have qA_0 := (hbsA 0 rfl).trans (sl_base hN2 rfl s2_0)
     clear hbsA hdpA
     refine op_move (ev_base hNA rfl qA_0) ?_
     exact obR_end rfl rfl (grown_refl _ _)
    ·
     intro aA wA cA hNA hRA hckA hOA hbsA hdpA
     have qA_3 := (hbsA 3 rfl).trans (sl_base hN2 rfl s2_3)
     clear hbsA hdpA
     refine op_move (ev_base hNA rfl qA_3) ?_
     exact obR_end rfl rfl (grown_refl _ _)
    ·
     intro aA wA cA hNA hRA hckA hOA hbsA hdpA
     have qA_8 := (hbsA 8 rfl).trans (sl_base hN2 rfl s2_8)
     clear hbsA hdpA
     refine op_move (ev_base hNA rfl qA_8) ?_
     exact obR_end rfl rfl (grown_refl _ _)
    ·
     intro aA wA cA hNA hRA hckA hOA hbsA hdpA
     have qA_54 : Sl aA 54 (Value.int .i64 ((fi : Nat) : Int)) := hdpA 1 _ 54 (by kernel_rfl) rfl rfl
     have qA_55 : Sl aA 55 (Value.int .i64 ((rt : Nat) : Int)) := hdpA 2 _ 55 (by kernel_rfl) rfl rfl
     clear hbsA hdpA
     refine op_add (ev_base hNA rfl qA_54) (ev_base hNA rfl qA_55) (add64 (by omega)) ?_
     exact obR_end rfl rfl (grown_refl _ _)
    ·
     intro aA wA cA hNA hRA hckA hOA hbsA hdpA
     have qA_0 := (hbsA 0 rfl).trans (sl_base hN2 rfl s2_0)
     clear hbsA hdpA
     refine op_move (ev_base hNA rfl qA_0) ?_
     exact obR_end rfl rfl (grown_refl _ _)
    ·
     intro aA wA cA hNA hRA hckA hOA hbsA hdpA
     have qA_3 := (hbsA 3 rfl).trans (sl_base hN2 rfl s2_3)
     clear hbsA hdpA
     refine op_move (ev_base hNA rfl qA_3) ?_
     exact obR_end rfl rfl (grown_refl _ _)
    ·
     intro aA wA cA hNA hRA hckA hOA hbsA hdpA
     have qA_9 := (hbsA 9 rfl).trans (sl_hit hN2 rfl)
     clear hbsA hdpA
     refine op_move (ev_base hNA rfl qA_9) ?_
     exact obR_end rfl rfl (grown_refl _ _)
    ·
     intro aA wA cA hNA hRA hckA hOA hbsA hdpA
     have qA_58 : Sl aA 58 (Value.int .i64 ((fi : Nat) : Int)) := hdpA 5 _ 58 (by kernel_rfl) rfl rfl
     have qA_59 : Sl aA 59 (Value.int .i64 ((2 * ((rt : Nat) : Int)) + 1)) := hdpA 6 _ 59 (by kernel_rfl) rfl rfl
     clear hbsA hdpA
     refine op_add (ev_base hNA rfl qA_58) (ev_base hNA rfl qA_59) (add64 (by omega)) ?_
     exact obR_end rfl rfl (grown_refl _ _)
    ·
     intro aA wA cA hNA hRA hckA hOA hbsA hdpA
     have qA_0 := (hbsA 0 rfl).trans (sl_base hN2 rfl s2_0)
     clear hbsA hdpA
     refine op_move (ev_base hNA rfl qA_0) ?_
     exact obR_end rfl rfl (grown_refl _ _)
    ·
     intro aA wA cA hNA hRA hckA hOA hbsA hdpA
     have qA_3 := (hbsA 3 rfl).trans (sl_base hN2 rfl s2_3)
     clear hbsA hdpA
     refine op_move (ev_base hNA rfl qA_3) ?_
     exact obR_end rfl rfl (grown_refl _ _)
    ·
     intro aA wA cA hNA hRA hckA hOA hbsA hdpA
     have qA_9 := (hbsA 9 rfl).trans (sl_hit hN2 rfl)
     clear hbsA hdpA
     refine op_move (ev_base hNA rfl qA_9) ?_
     exact obR_end rfl rfl (grown_refl _ _)
    ·
     intro aA wA cA hNA hRA hckA hOA hbsA hdpA
     have qA_62 : Sl aA 62 (Value.int .i64 ((fi : Nat) : Int)) := hdpA 9 _ 62 (by kernel_rfl) rfl rfl
     have qA_63 : Sl aA 63 (Value.int .i64 ((2 * ((rt : Nat) : Int)) + 1)) := hdpA 10 _ 63 (by kernel_rfl) rfl rfl
     clear hbsA hdpA
     refine op_add (ev_base hNA rfl qA_62) (ev_base hNA rfl qA_63) (add64 (by omega)) ?_
     exact obR_end rfl rfl (grown_refl _ _)
    ·
     intro aA wA cA hNA hRA hckA hOA hbsA hdpA
     have qA_61 : Sl aA 61 v := hdpA 8 _ 61 (by kernel_rfl) rfl rfl
     have qA_64 : Sl aA 64 (Value.int .i64 (((fi : Nat) : Int) + ((2 * ((rt : Nat) : Int)) + 1))) := hdpA 11 _ 64 (by kernel_rfl) rfl rfl
     clear hbsA hdpA
     refine op_index_own (i := (fi + ((2 * rt) + 1))) slt45 (ev_base hNA rfl qA_61) hOA (ev_base hNA rfl qA_64) (by omega) (by omega) ?_
     intro b_ o_ _ hA_
     exact obR_end rfl ⟨b_, o_, rfl, by simpa using hA_⟩ (grown_refl _ _)
    ·
     intro aA wA cA hNA hRA hckA hOA hbsA hdpA
     obtain ⟨bA_65, oA_65, qA_65, hAA_65⟩ := hdpA 12 _ 65 (by kernel_rfl) rfl rfl
     clear hbsA hdpA
     obtain rfl : cA = 0 := Nat.le_zero.1 (hckA 0 21 rfl (by kernel_rfl))
     have hOA : Own wA base 46 1 v n (dk.toList.map u16v) := hOA
     refine op_load1 (v := (Value.int .u16 (dk[(fi + ((2 * rt) + 1))]!.toNat : Int))) one46 (ev_base hNA rfl qA_65) (by have := hOA.cellAt hAA_65 0 _ (el_at (i := (fi + ((2 * rt) + 1))) (by first | omega | (simp only [Array.size_setIfInBounds, swp_sz, siftDown_size]; omega))); simpa using this) ?_
     exact obR_end rfl rfl (grown_refl _ _)
    ·
     intro aA wA cA hNA hRA hckA hOA hbsA hdpA
     have qA_0 := (hbsA 0 rfl).trans (sl_base hN2 rfl s2_0)
     clear hbsA hdpA
     refine op_move (ev_base hNA rfl qA_0) ?_
     exact obR_end rfl rfl (grown_refl _ _)
    ·
     intro aA wA cA hNA hRA hckA hOA hbsA hdpA
     have qA_3 := (hbsA 3 rfl).trans (sl_base hN2 rfl s2_3)
     clear hbsA hdpA
     refine op_move (ev_base hNA rfl qA_3) ?_
     exact obR_end rfl rfl (grown_refl _ _)
    ·
     intro aA wA cA hNA hRA hckA hOA hbsA hdpA
     have qA_8 := (hbsA 8 rfl).trans (sl_base hN2 rfl s2_8)
     clear hbsA hdpA
     refine op_move (ev_base hNA rfl qA_8) ?_
     exact obR_end rfl rfl (grown_refl _ _)
    ·
     intro aA wA cA hNA hRA hckA hOA hbsA hdpA
     have qA_68 : Sl aA 68 (Value.int .i64 ((fi : Nat) : Int)) := hdpA 15 _ 68 (by kernel_rfl) rfl rfl
     have qA_69 : Sl aA 69 (Value.int .i64 ((rt : Nat) : Int)) := hdpA 16 _ 69 (by kernel_rfl) rfl rfl
     clear hbsA hdpA
     refine op_add (ev_base hNA rfl qA_68) (ev_base hNA rfl qA_69) (add64 (by omega)) ?_
     exact obR_end rfl rfl (grown_refl _ _)
    ·
     intro aA wA cA hNA hRA hckA hOA hbsA hdpA
     have qA_67 : Sl aA 67 v := hdpA 14 _ 67 (by kernel_rfl) rfl rfl
     have qA_70 : Sl aA 70 (Value.int .i64 (((fi : Nat) : Int) + ((rt : Nat) : Int))) := hdpA 17 _ 70 (by kernel_rfl) rfl rfl
     clear hbsA hdpA
     refine op_index_own (i := (fi + rt)) slt45 (ev_base hNA rfl qA_67) hOA (ev_base hNA rfl qA_70) (by omega) (by omega) ?_
     intro b_ o_ _ hA_
     exact obR_end rfl ⟨b_, o_, rfl, by simpa using hA_⟩ (grown_refl _ _)
    ·
     intro aA wA cA hNA hRA hckA hOA hbsA hdpA
     obtain ⟨bA_71, oA_71, qA_71, hAA_71⟩ := hdpA 18 _ 71 (by kernel_rfl) rfl rfl
     clear hbsA hdpA
     obtain rfl : cA = 0 := Nat.le_zero.1 (hckA 0 21 rfl (by kernel_rfl))
     have hOA : Own wA base 46 1 v n (dk.toList.map u16v) := hOA
     refine op_load1 (v := (Value.int .u16 (dk[(fi + rt)]!.toNat : Int))) one46 (ev_base hNA rfl qA_71) (by have := hOA.cellAt hAA_71 0 _ (el_at (i := (fi + rt)) (by first | omega | (simp only [Array.size_setIfInBounds, swp_sz, siftDown_size]; omega))); simpa using this) ?_
     exact obR_end rfl rfl (grown_refl _ _)
    ·
     intro aA wA cA hNA hRA hckA hOA hbsA hdpA
     have qA_53 : Sl aA 53 v := hdpA 0 _ 53 (by kernel_rfl) rfl rfl
     have qA_56 : Sl aA 56 (Value.int .i64 (((fi : Nat) : Int) + ((rt : Nat) : Int))) := hdpA 3 _ 56 (by kernel_rfl) rfl rfl
     clear hbsA hdpA
     refine op_index_own (i := (fi + rt)) slt45 (ev_base hNA rfl qA_53) hOA (ev_base hNA rfl qA_56) (by omega) (by omega) ?_
     intro b_ o_ _ hA_
     exact obR_end rfl ⟨b_, o_, rfl, by simpa using hA_⟩ (grown_refl _ _)
    ·
     intro aA wA cA hNA hRA hckA hOA hbsA hdpA
     have qA_57 : Sl aA 57 v := hdpA 4 _ 57 (by kernel_rfl) rfl rfl
     have qA_60 : Sl aA 60 (Value.int .i64 (((fi : Nat) : Int) + ((2 * ((rt : Nat) : Int)) + 1))) := hdpA 7 _ 60 (by kernel_rfl) rfl rfl
     clear hbsA hdpA
     refine op_index_own (i := (fi + ((2 * rt) + 1))) slt45 (ev_base hNA rfl qA_57) hOA (ev_base hNA rfl qA_60) (by omega) (by omega) ?_
     intro b_ o_ _ hA_
     exact obR_end rfl ⟨b_, o_, rfl, by simpa using hA_⟩ (grown_refl _ _)
    ·
     intro o_ ho_; obtain rfl := Option.some.inj ho_; intro aA wA hNA hRA hbsA hdpA hOA
     obtain ⟨bA_73, oA_73, qA_73, hAA_73⟩ := hdpA 20 _ 73 (by kernel_rfl) rfl rfl
     have qA_66 : Sl aA 66 (Value.int .u16 (dk[(fi + ((2 * rt) + 1))]!.toNat : Int)) := hdpA 13 _ 66 (by kernel_rfl) rfl rfl
     clear hbsA hdpA
     have hOA : Own wA base 46 1 v n (dk.toList.map u16v) := hOA
     refine op_store_own (vs := [(Value.int .u16 (dk[(fi + ((2 * rt) + 1))]!.toNat : Int))]) size46 (ev_base hNA rfl qA_73) (ev_base hNA rfl qA_66) rfl rfl rfl hOA hAA_73 (by have := hOA.1; simp at this ⊢; omega) ?_
     intro w_ hO_ E_
     exact obW_end rfl (hO_.cast rfl (set_arr (by first | omega | (simp only [Array.size_setIfInBounds, swp_sz, siftDown_size]; omega)))) E_
    ·
     intro o_ ho_; obtain rfl := Option.some.inj ho_; intro aA wA hNA hRA hbsA hdpA hOA
     obtain ⟨bA_74, oA_74, qA_74, hAA_74⟩ := hdpA 22 _ 74 (by kernel_rfl) rfl rfl
     have qA_72 : Sl aA 72 (Value.int .u16 (dk[(fi + rt)]!.toNat : Int)) := hdpA 19 _ 72 (by kernel_rfl) rfl rfl
     clear hbsA hdpA
     have hOA : Own wA base 46 1 v n ((dk.setIfInBounds (fi + rt) dk[(fi + ((2 * rt) + 1))]!).toList.map u16v) := hOA
     refine op_store_own (vs := [(Value.int .u16 (dk[(fi + rt)]!.toNat : Int))]) size46 (ev_base hNA rfl qA_74) (ev_base hNA rfl qA_72) rfl rfl rfl hOA hAA_74 (by have := hOA.1; simp at this ⊢; omega) ?_
     intro w_ hO_ E_
     exact obW_end rfl (hO_.cast rfl (set_arr (by first | omega | (simp only [Array.size_setIfInBounds, swp_sz, siftDown_size]; omega)))) E_
    ·
     intro a52 w52 hN52 hd52 hbs52 hph52 hO52 E52
     have hd52 := hd52.trans hd2
     have s52_0 := (hbs52 0 rfl).trans (sl_base hN2 rfl s2_0)
     have s52_2 := (hbs52 2 rfl).trans (sl_base hN2 rfl s2_2)
     have s52_3 := (hbs52 3 rfl).trans (sl_base hN2 rfl s2_3)
     have s52_8 := (hbs52 8 rfl).trans (sl_base hN2 rfl s2_8)
     have s52_9 := (hbs52 9 rfl).trans (sl_hit hN2 rfl)
     clear hbs52 hph52
     have hO52 : Own w52 base 46 1 v n (((dk.setIfInBounds (fi + rt) dk[(fi + ((2 * rt) + 1))]!).setIfInBounds (fi + ((2 * rt) + 1)) dk[(fi + rt)]!).toList.map u16v) := hO52
     have z_w52 := E52.size
     have hb := grow_stepX hb E52 rfl
     refine hK51 _ _ ?_
     refine one_reg ?_
     refine op_move (ev_base hN52 rfl s52_9) ?_
     refine op_assign (ev_hit hN52 rfl) ?_
     refine reg_nil ?_
     refine blk_normal ?_
     -- round 16F 20F 52F
     have hch : childS hi fi rt dk = 2 * rt + 1 := childS_f (.inl (by omega))
     exact loop_next _ hN52 hd52 ⟨(2 * rt + 1), _, rfl, (sl_base hN52 rfl s52_0), (sl_base hN52 rfl s52_2), (sl_base hN52 rfl s52_3), (sl_hit hN52 rfl).trans (congrArg (Value.int .i64) (by omega)), (by first | assumption | (simp only [Array.size_setIfInBounds, swp_sz, siftDown_size]; assumption)), (by omega), (hs.trans ((siftDown_go (by omega) (by rw [hch]; simpa [Nat.add_assoc] using c52)).trans (by rw [hch]; rfl))), hb, (by omega), hO52⟩ (by omega)

end Go.Proofs.Ytmhdbphpmgjpcaa

/- Walks, written by a program: what each function of the translation hands back. -/
namespace Go.Proofs.Ytmhdbphpmgjpcaa
open Go.Gx Go.RowKit
attribute [local irreducible] wpList wpStill Code.wp Calls
open Go.Sort (insertionSort insOuter insInner swp siftDown heapSort heapBuild heapPop scanUp scanDown partition partLoop partitionEqual partEqLoop scanSorted partialIns bitsLen partialInsertionSort shiftDown shiftUp SortedIn reverseRange reverseLoop fixDown fixUp)
theorem heapW_ret (d : Ar) (v : Value) (n base : Nat) (a b : Nat) (w : World) (hd : d.size = n) (hn : n ≤ 4000000000000000000) (O : Own w base 46 1 v n (d.toList.map u16v)) (hab : a ≤ b) (hbn : b ≤ n) : Ret Try.prog 154 #[v, (Value.int .i64 ((a : Nat) : Int)), (Value.int .i64 ((b : Nat) : Int))] w (fun v' w' => w.grownBy w' v.ownBlock ∧ v' = .tuple #[] ∧ Own w' base 46 1 v n ((heapSort ltT d a b).toList.map u16v)) := by
 have hb := grown_refl w v.ownBlock
 refine enter (N := 56) Try.func154 rfl rfl (by simp) fun a0 hN hd hA => ?_
 have s0 : a0.tmps.getD 0 undef = v := hA 0 (by simp)
 have s1 : a0.tmps.getD 1 undef = (Value.int .i64 ((a : Nat) : Int)) := hA 1 (by simp)
 have s2 : a0.tmps.getD 2 undef = (Value.int .i64 ((b : Nat) : Int)) := hA 2 (by simp)
 clear hA
 refine seq_any fun K1 hK1 => ?_
 refine one_reg ?_
 refine op_move (ev_base hN rfl s1) ?_
 refine op_assign (ev_hit hN rfl) ?_
 refine reg_nil ?_
 refine hK1 _ _ ?_
 refine seq_any fun K2 hK2 => ?_
 refine one_reg ?_
 refine op_assign rfl ?_
 refine reg_nil ?_
 refine hK2 _ _ ?_
 refine seq_any fun K3 hK3 => ?_
 refine one_reg ?_
 refine op_move (ev_base hN rfl s2) ?_
 refine op_move (ev_base hN rfl s1) ?_
 refine op_sub (r := ((b - a : Nat) : Int)) (ev_hit hN rfl) (ev_hit hN rfl) (by rw [IntKind.wrap_i64]; omega) ?_
 refine op_assign (ev_hit hN rfl) ?_
 refine reg_nil ?_
 refine hK3 _ _ ?_
 refine seq_any fun K4 hK4 => ?_
 refine seq_any fun K5 hK5 => ?_
 refine one_reg ?_
 refine op_move (ev_hit hN rfl) ?_
 refine op_sub (ev_hit hN rfl) rfl (sub64 (by omega)) ?_
 refine op_quo (r := (((b - a - 1) / 2 : Nat) : Int)) (ev_hit hN rfl) rfl (by decide) (by rw [tdiv2, IntKind.wrap_i64]; omega) ?_
 refine op_assign (ev_hit hN rfl) ?_
 refine reg_nil ?_
 refine hK5 _ _ ?_
 refine wp_block ?_
 refine loop_m (fun mz_ az_ w' => ∃ (k : Nat) (dk : Ar), mz_ = (k + 1) ∧ (az_.tmps.getD 0 undef = v) ∧ (az_.tmps.getD 6 undef = (Value.int .i64 ((a : Nat) : Int))) ∧ (az_.tmps.getD 7 undef = (Value.int .i64 0)) ∧ (az_.tmps.getD 8 undef = (Value.int .i64 ((b - a : Nat) : Int))) ∧ (az_.tmps.getD 9 undef = (Value.int .i64 (((k : Nat) : Int) - 1))) ∧ (dk.size = n) ∧ (k ≤ (b - a - 1) / 2 + 1) ∧ (heapBuild ltT (b - a) a ((b - a - 1) / 2 + 1) d = heapBuild ltT (b - a) a k dk) ∧ (w.grownBy w' v.ownBlock) ∧ (w.heap.size ≤ w'.heap.size) ∧ (Own w' base 46 1 v n (dk.toList.map u16v))) _ hN hd ⟨((b - a - 1) / 2 + 1), _, rfl, (sl_base hN rfl s0), (sl_hit hN rfl), (sl_hit hN rfl), (sl_hit hN rfl), (sl_hit hN rfl).trans (congrArg (Value.int .i64) (by omega)), (by first | assumption | (simp only [Array.size_setIfInBounds, swp_sz, siftDown_size]; assumption)), Nat.le_refl _, rfl, hb, (Nat.le_refl _), O⟩ ?_
 rintro _ a6 w6 hN6 hd6 ⟨k, dk, rfl, s6_0, s6_6, s6_7, s6_8, s6_9, hdk, hk, hs, hb, zl_w6, hO7⟩
 have z_w6 := hb.size
 refine seq_any fun K8 hK8 => ?_
 refine seq_any fun K9 hK9 => ?_
 refine one_reg ?_
 refine op_move (ev_base hN6 rfl s6_9) ?_
 refine op_geq (ev_hit hN6 rfl) rfl (fun c19 => ?_) (fun c19 => ?_)
 · -- 19T
  refine reg_nil ?_
  refine hK9 _ _ ?_
  refine wp_cond_true (ev_hit hN6 rfl) ?_
  refine wp_skip ?_
  refine hK8 _ _ ?_
  refine seq_any fun K10 hK10 => ?_
  refine wp_block ?_
  refine one_reg ?_
  refine op_move (ev_base hN6 rfl s6_0) ?_
  refine op_move ((ev_base hN6 rfl s6_9).trans (congrArg (Value.int .i64) (show _ = ((k - 1 : Nat) : Int) by omega))) ?_
  refine op_move (ev_base hN6 rfl s6_8) ?_
  refine op_move (ev_base hN6 rfl s6_6) ?_
  refine op_fn (vs := [v, (Value.int .i64 ((k - 1 : Nat) : Int)), (Value.int .i64 ((b - a : Nat) : Int)), (Value.int .i64 ((a : Nat) : Int))]) ok173 ⟨(ev_hit hN6 rfl), ⟨(ev_hit hN6 rfl), ⟨(ev_hit hN6 rfl), ⟨(ev_hit hN6 rfl), trivial⟩⟩⟩⟩ (siftDownW_ret dk _ _ _ (k - 1) (b - a) a _ (by first | assumption | (simp only [Array.size_setIfInBounds, swp_sz, siftDown_size]; assumption)) (by omega) hO7 (by omega) (by omega)) ?_
  rintro _ w12 ⟨E13, rfl, hO11⟩
  have z_w12 := E13.size
  have hb := grow_stepX hb E13 rfl
  refine reg_nil ?_
  refine hK10 _ _ ?_
  refine one_reg ?_
  refine op_move (ev_base hN6 rfl s6_9) ?_
  refine op_sub (ev_hit hN6 rfl) rfl (sub64 (by omega)) ?_
  refine op_assign (ev_hit hN6 rfl) ?_
  refine reg_nil ?_
  -- round 19T
  exact loop_next _ hN6 hd6 ⟨(k - 1), _, rfl, (sl_base hN6 rfl s6_0), (sl_base hN6 rfl s6_6), (sl_base hN6 rfl s6_7), (sl_base hN6 rfl s6_8), (sl_hit hN6 rfl).trans (congrArg (Value.int .i64) (by omega)), (by first | assumption | (simp only [Array.size_setIfInBounds, swp_sz, siftDown_size]; assumption)), (by omega), (hs.trans (heapBuild_go' (by omega))), hb, (by omega), hO11⟩ (by omega)
 · -- 19F
  refine reg_nil ?_
  refine hK9 _ _ ?_
  refine wp_cond_false (ev_hit hN6 rfl) ?_
  refine wp_exit (then_exit (then_exit (blk_hit ?_)))
  refine hK4 _ _ ?_
  refine seq_any fun K14 hK14 => ?_
  refine one_reg ?_
  refine op_move (ev_base hN6 rfl s6_8) ?_
  refine op_sub (ev_hit hN6 rfl) rfl (sub64 (by omega)) ?_
  refine op_assign (ev_hit hN6 rfl) ?_
  refine reg_nil ?_
  refine hK14 _ _ ?_
  refine wp_block ?_
  refine loop_m (fun mz_ az_ w' => ∃ (q : Nat) (dj : Ar), mz_ = (q + 1) ∧ (az_.tmps.getD 0 undef = v) ∧ (az_.tmps.getD 6 undef = (Value.int .i64 ((a : Nat) : Int))) ∧ (az_.tmps.getD 7 undef = (Value.int .i64 0)) ∧ (az_.tmps.getD 10 undef = (Value.int .i64 (((q : Nat) : Int) - 1))) ∧ (dj.size = n) ∧ (q ≤ b - a) ∧ (heapPop ltT a (b - a) (heapBuild ltT (b - a) a ((b - a - 1) / 2 + 1) d) = heapPop ltT a q dj) ∧ (w.grownBy w' v.ownBlock) ∧ (w6.heap.size ≤ w'.heap.size) ∧ (Own w' base 46 1 v n (dj.toList.map u16v))) _ hN6 hd6 ⟨(b - a), _, rfl, (sl_base hN6 rfl s6_0), (sl_base hN6 rfl s6_6), (sl_base hN6 rfl s6_7), (sl_hit hN6 rfl).trans (congrArg (Value.int .i64) (by omega)), (by first | assumption | (simp only [Array.size_setIfInBounds, swp_sz, siftDown_size]; assumption)), Nat.le_refl _, (congrArg (heapPop ltT a (b - a)) (hs.trans (by rw [show k = 0 by omega]; rfl))), hb, (Nat.le_refl _), hO7⟩ ?_
  rintro _ a15 w15 hN15 hd15 ⟨q, dj, rfl, s15_0, s15_6, s15_7, s15_10, hdj, hk, hs2, hb, zl_w15, hO16⟩
  have z_w15 := hb.size
  refine seq_any fun K17 hK17 => ?_
  refine seq_any fun K18 hK18 => ?_
  refine one_reg ?_
  refine op_move (ev_base hN15 rfl s15_10) ?_
  refine op_geq (ev_hit hN15 rfl) rfl (fun c30 => ?_) (fun c30 => ?_)
  · -- 30T
   refine reg_nil ?_
   refine hK18 _ _ ?_
   refine wp_cond_true (ev_hit hN15 rfl) ?_
   refine wp_skip ?_
   refine hK17 _ _ ?_
   refine seq_any fun K19 hK19 => ?_
   refine wp_block ?_
   refine seq_any fun K20 hK20 => ?_
   refine reg_mid (e := 46) (sz := 1) (base := base) (n := n) (v := v) (Φ := phiL [(fun uz _ => uz = v), (fun uz _ => uz = (Value.int .i64 ((a : Nat) : Int))), (fun uz _ => uz = v), (fun uz _ => uz = (Value.int .i64 ((a : Nat) : Int))), (fun uz _ => uz = (Value.int .i64 ((q - 1 : Nat) : Int))), (fun uz _ => uz = (Value.int .i64 (((a : Nat) : Int) + ((q - 1 : Nat) : Int)))), (fun uz _ => uz = v), (fun uz _ => uz = (Value.int .i64 ((a : Nat) : Int))), (fun uz _ => uz = (Value.int .i64 ((q - 1 : Nat) : Int))), (fun uz _ => uz = (Value.int .i64 (((a : Nat) : Int) + ((q - 1 : Nat) : Int)))), (fun uz _ => ∃ bz oz, uz = ptr bz oz ∧ AtV v (a + (q - 1)) bz oz), (fun uz _ => uz = (Value.int .u16 (dj[(a + (q - 1))]!.toNat : Int))), (fun uz _ => uz = v), (fun uz _ => uz = (Value.int .i64 ((a : Nat) : Int))), (fun uz _ => ∃ bz oz, uz = ptr bz oz ∧ AtV v a bz oz), (fun uz _ => uz = (Value.int .u16 (dj[a]!.toNat : Int))), (fun uz _ => ∃ bz oz, uz = ptr bz oz ∧ AtV v a bz oz), (fun _ _ => True), (fun uz _ => ∃ bz oz, uz = ptr bz oz ∧ AtV v (a + (q - 1)) bz oz), (fun _ _ => True)]) [17, 19] [(dj.toList.map u16v), ((dj.setIfInBounds a dj[(a + (q - 1))]!).toList.map u16v), (((dj.setIfInBounds a dj[(a + (q - 1))]!).setIfInBounds (a + (q - 1)) dj[a]!).toList.map u16v)] mixed (by kernel_rfl) (by kernel_rfl) (by kernel_rfl) (by kernel_rfl) hN15 hO16 (StL.get (StL.eq (StL.eq (StL.eq (StL.eq (StL.eq (StL.eq (StL.eq (StL.eq (StL.eq (StL.eq (StL.at (StL.eq (StL.eq (StL.eq (StL.at (StL.eq (StL.at (StL.cons (fun _ _ _ _ h => h) (StL.at (StL.cons (fun _ _ _ _ h => h) (StL.nil _)))))))))))))))))))))) (ObRs.get (ObRs.cons ?_ (ObRs.cons ?_ (ObRs.cons ?_ (ObRs.cons ?_ (ObRs.cons ?_ (ObRs.cons ?_ (ObRs.cons ?_ (ObRs.cons ?_ (ObRs.cons ?_ (ObRs.cons ?_ (ObRs.cons ?_ (ObRs.cons ?_ (ObRs.cons ?_ (ObRs.cons ?_ (ObRs.cons ?_ (ObRs.cons ?_ (ObRs.cons ?_ (ObRs.pass rfl (ObRs.cons ?_ (ObRs.pass rfl (ObRs.nil)))))))))))))))))))))) (ObWs.get (ObWs.cons ?_ (ObWs.cons ?_ (ObWs.nil)))) ?_
   ·
    intro aA wA cA hNA hRA hckA hOA hbsA hdpA
    have qA_0 := (hbsA 0 rfl).trans (sl_base hN15 rfl s15_0)
    clear hbsA hdpA
    refine op_move (ev_base hNA rfl qA_0) ?_
    exact obR_end rfl rfl (grown_refl _ _)
   ·
    intro aA wA cA hNA hRA hckA hOA hbsA hdpA
    have qA_6 := (hbsA 6 rfl).trans (sl_base hN15 rfl s15_6)
    clear hbsA hdpA
    refine op_move (ev_base hNA rfl qA_6) ?_
    exact obR_end rfl rfl (grown_refl _ _)
   ·
    intro aA wA cA hNA hRA hckA hOA hbsA hdpA
    have qA_0 := (hbsA 0 rfl).trans (sl_base hN15 rfl s15_0)
    clear hbsA hdpA
    refine op_move (ev_base hNA rfl qA_0) ?_
    exact obR_end rfl rfl (grown_refl _ _)
   ·
    intro aA wA cA hNA hRA hckA hOA hbsA hdpA
    have qA_6 := (hbsA 6 rfl).trans (sl_base hN15 rfl s15_6)
    clear hbsA hdpA
    refine op_move (ev_base hNA rfl qA_6) ?_
    exact obR_end rfl rfl (grown_refl _ _)
   ·
    intro aA wA cA hNA hRA hckA hOA hbsA hdpA
    have qA_10 := (hbsA 10 rfl).trans (sl_base hN15 rfl s15_10)
    clear hbsA hdpA
    refine op_move ((ev_base hNA rfl qA_10).trans (congrArg (Value.int .i64) (show _ = ((q - 1 : Nat) : Int) by omega))) ?_
    exact obR_end rfl rfl (grown_refl _ _)
   ·
    intro aA wA cA hNA hRA hckA hOA hbsA hdpA
    have qA_36 : Sl aA 36 (Value.int .i64 ((a : Nat) : Int)) := hdpA 3 _ 36 (by kernel_rfl) rfl rfl
    have qA_37 : Sl aA 37 (Value.int .i64 ((q - 1 : Nat) : Int)) := hdpA 4 _ 37 (by kernel_rfl) rfl rfl
    clear hbsA hdpA
    refine op_add (ev_base hNA rfl qA_36) (ev_base hNA rfl qA_37) (add64 (by omega)) ?_
    exact obR_end rfl rfl (grown_refl _ _)
   ·
    intro aA wA cA hNA hRA hckA hOA hbsA hdpA
    have qA_0 := (hbsA 0 rfl).trans (sl_base hN15 rfl s15_0)
    clear hbsA hdpA
    refine op_move (ev_base hNA rfl qA_0) ?_
    exact obR_end rfl rfl (grown_refl _ _)
   ·
    intro aA wA cA hNA hRA hckA hOA hbsA hdpA
    have qA_6 := (hbsA 6 rfl).trans (sl_base hN15 rfl s15_6)
    clear hbsA hdpA
    refine op_move (ev_base hNA rfl qA_6) ?_
    exact obR_end rfl rfl (grown_refl _ _)
   ·
    intro aA wA cA hNA hRA hckA hOA hbsA hdpA
    have qA_10 := (hbsA 10 rfl).trans (sl_base hN15 rfl s15_10)
    clear hbsA hdpA
    refine op_move ((ev_base hNA rfl qA_10).trans (congrArg (Value.int .i64) (show _ = ((q - 1 : Nat) : Int) by omega))) ?_
    exact obR_end rfl rfl (grown_refl _ _)
   ·
    intro aA wA cA hNA hRA hckA hOA hbsA hdpA
    have qA_40 : Sl aA 40 (Value.int .i64 ((a : Nat) : Int)) := hdpA 7 _ 40 (by kernel_rfl) rfl rfl
    have qA_41 : Sl aA 41 (Value.int .i64 ((q - 1 : Nat) : Int)) := hdpA 8 _ 41 (by kernel_rfl) rfl rfl
    clear hbsA hdpA
    refine op_add (ev_base hNA rfl qA_40) (ev_base hNA rfl qA_41) (add64 (by omega)) ?_
    exact obR_end rfl rfl (grown_refl _ _)
   ·
    intro aA wA cA hNA hRA hckA hOA hbsA hdpA
    have qA_39 : Sl aA 39 v := hdpA 6 _ 39 (by kernel_rfl) rfl rfl
    have qA_42 : Sl aA 42 (Value.int .i64 (((a : Nat) : Int) + ((q - 1 : Nat) : Int))) := hdpA 9 _ 42 (by kernel_rfl) rfl rfl
    clear hbsA hdpA
    refine op_index_own (i := (a + (q - 1))) slt45 (ev_base hNA rfl qA_39) hOA (ev_base hNA rfl qA_42) (by omega) (by omega) ?_
    intro b_ o_ _ hA_
    exact obR_end rfl ⟨b_, o_, rfl, by simpa using hA_⟩ (grown_refl _ _)
   ·
    intro aA wA cA hNA hRA hckA hOA hbsA hdpA
    obtain ⟨bA_43, oA_43, qA_43, hAA_43⟩ := hdpA 10 _ 43 (by kernel_rfl) rfl rfl
    clear hbsA hdpA
    obtain rfl : cA = 0 := Nat.le_zero.1 (hckA 0 17 rfl (by kernel_rfl))
    have hOA : Own wA base 46 1 v n (dj.toList.map u16v) := hOA
    refine op_load1 (v := (Value.int .u16 (dj[(a + (q - 1))]!.toNat : Int))) one46 (ev_base hNA rfl qA_43) (by have := hOA.cellAt hAA_43 0 _ (el_at (i := (a + (q - 1))) (by first | omega | (simp only [Array.size_setIfInBounds, swp_sz, siftDown_size]; omega))); simpa using this) ?_
    exact obR_end rfl rfl (grown_refl _ _)
   ·
    intro aA wA cA hNA hRA hckA hOA hbsA hdpA
    have qA_0 := (hbsA 0 rfl).trans (sl_base hN15 rfl s15_0)
    clear hbsA hdpA
    refine op_move (ev_base hNA rfl qA_0) ?_
    exact obR_end rfl rfl (grown_refl _ _)
   ·
    intro aA wA cA hNA hRA hckA hOA hbsA hdpA
    have qA_6 := (hbsA 6 rfl).trans (sl_base hN15 rfl s15_6)
    clear hbsA hdpA
    refine op_move (ev_base hNA rfl qA_6) ?_
    exact obR_end rfl rfl (grown_refl _ _)
   ·
    intro aA wA cA hNA hRA hckA hOA hbsA hdpA
    have qA_45 : Sl aA 45 v := hdpA 12 _ 45 (by kernel_rfl) rfl rfl
    have qA_46 : Sl aA 46 (Value.int .i64 ((a : Nat) : Int)) := hdpA 13 _ 46 (by kernel_rfl) rfl rfl
    clear hbsA hdpA
    refine op_index_own (i := a) slt45 (ev_base hNA rfl qA_45) hOA (ev_base hNA rfl qA_46) (by omega) (by omega) ?_
    intro b_ o_ _ hA_
    exact obR_end rfl ⟨b_, o_, rfl, by simpa using hA_⟩ (grown_refl _ _)
   ·
    intro aA wA cA hNA hRA hckA hOA hbsA hdpA
    obtain ⟨bA_47, oA_47, qA_47, hAA_47⟩ := hdpA 14 _ 47 (by kernel_rfl) rfl rfl
    clear hbsA hdpA
    obtain rfl : cA = 0 := Nat.le_zero.1 (hckA 0 17 rfl (by kernel_rfl))
    have hOA : Own wA base 46 1 v n (dj.toList.map u16v) := hOA
    refine op_load1 (v := (Value.int .u16 (dj[a]!.toNat : Int))) one46 (ev_base hNA rfl qA_47) (by have := hOA.cellAt hAA_47 0 _ (el_at (i := a) (by first | omega | (simp only [Array.size_setIfInBounds, swp_sz, siftDown_size]; omega))); simpa using this) ?_
    exact obR_end rfl rfl (grown_refl _ _)
   ·
    intro aA wA cA hNA hRA hckA hOA hbsA hdpA
    have qA_33 : Sl aA 33 v := hdpA 0 _ 33 (by kernel_rfl) rfl rfl
    have qA_34 : Sl aA 34 (Value.int .i64 ((a : Nat) : Int)) := hdpA 1 _ 34 (by kernel_rfl) rfl rfl
    clear hbsA hdpA
    refine op_index_own (i := a) slt45 (ev_base hNA rfl qA_33) hOA (ev_base hNA rfl qA_34) (by omega) (by omega) ?_
    intro b_ o_ _ hA_
    exact obR_end rfl ⟨b_, o_, rfl, by simpa using hA_⟩ (grown_refl _ _)
   ·
    intro aA wA cA hNA hRA hckA hOA hbsA hdpA
    have qA_35 : Sl aA 35 v := hdpA 2 _ 35 (by kernel_rfl) rfl rfl
    have qA_38 : Sl aA 38 (Value.int .i64 (((a : Nat) : Int) + ((q - 1 : Nat) : Int))) := hdpA 5 _ 38 (by kernel_rfl) rfl rfl
    clear hbsA hdpA
    refine op_index_own (i := (a + (q - 1))) slt45 (ev_base hNA rfl qA_35) hOA (ev_base hNA rfl qA_38) (by omega) (by omega) ?_
    intro b_ o_ _ hA_
    exact obR_end rfl ⟨b_, o_, rfl, by simpa using hA_⟩ (grown_refl _ _)
   ·
    intro o_ ho_; obtain rfl := Option.some.inj ho_; intro aA wA hNA hRA hbsA hdpA hOA
    obtain ⟨bA_49, oA_49, qA_49, hAA_49⟩ := hdpA 16 _ 49 (by kernel_rfl) rfl rfl
    have qA_44 : Sl aA 44 (Value.int .u16 (dj[(a + (q - 1))]!.toNat : Int)) := hdpA 11 _ 44 (by kernel_rfl) rfl rfl
    clear hbsA hdpA
    have hOA : Own wA base 46 1 v n (dj.toList.map u16v) := hOA
    refine op_store_own (vs := [(Value.int .u16 (dj[(a + (q - 1))]!.toNat : Int))]) size46 (ev_base hNA rfl qA_49) (ev_base hNA rfl qA_44) rfl rfl rfl hOA hAA_49 (by have := hOA.1; simp at this ⊢; omega) ?_
    intro w_ hO_ E_
    exact obW_end rfl (hO_.cast rfl (set_arr (by first | omega | (simp only [Array.size_setIfInBounds, swp_sz, siftDown_size]; omega)))) E_
   ·
    intro o_ ho_; obtain rfl := Option.some.inj ho_; intro aA wA hNA hRA hbsA hdpA hOA
    obtain ⟨bA_50, oA_50, qA_50, hAA_50⟩ := hdpA 18 _ 50 (by kernel_rfl) rfl rfl
    have qA_48 : Sl aA 48 (Value.int .u16 (dj[a]!.toNat : Int)) := hdpA 15 _ 48 (by kernel_rfl) rfl rfl
    clear hbsA hdpA
    have hOA : Own wA base 46 1 v n ((dj.setIfInBounds a dj[(a + (q - 1))]!).toList.map u16v) := hOA
    refine op_store_own (vs := [(Value.int .u16 (dj[a]!.toNat : Int))]) size46 (ev_base hNA rfl qA_50) (ev_base hNA rfl qA_48) rfl rfl rfl hOA hAA_50 (by have := hOA.1; simp at this ⊢; omega) ?_
    intro w_ hO_ E_
    exact obW_end rfl (hO_.cast rfl (set_arr (by first | omega | (simp only [Array.size_setIfInBounds, swp_sz, siftDown_size]; omega)))) E_
   ·
    intro a21 w21 hN21 hd21 hbs21 hph21 hO21 E21
    have hd21 := hd21.trans hd15
    have s21_0 := (hbs21 0 rfl).trans (sl_base hN15 rfl s15_0)
    have s21_6 := (hbs21 6 rfl).trans (sl_base hN15 rfl s15_6)
    have s21_7 := (hbs21 7 rfl).trans (sl_base hN15 rfl s15_7)
    have s21_10 := (hbs21 10 rfl).trans (sl_base hN15 rfl s15_10)
    clear hbs21 hph21
    have hO21 : Own w21 base 46 1 v n (((dj.setIfInBounds a dj[(a + (q - 1))]!).setIfInBounds (a + (q - 1)) dj[a]!).toList.map u16v) := hO21
    have z_w21 := E21.size
    have hb := grow_stepX hb E21 rfl
    refine hK20 _ _ ?_
    refine one_reg ?_
    refine op_move (ev_base hN21 rfl s21_0) ?_
    refine op_move (ev_base hN21 rfl s21_7) ?_
    refine op_move ((ev_base hN21 rfl s21_10).trans (congrArg (Value.int .i64) (show _ = ((q - 1 : Nat) : Int) by omega))) ?_
    refine op_move (ev_base hN21 rfl s21_6) ?_
    refine op_fn (vs := [v, (Value.int .i64 0), (Value.int .i64 ((q - 1 : Nat) : Int)), (Value.int .i64 ((a : Nat) : Int))]) ok173 ⟨(ev_hit hN21 rfl), ⟨(ev_hit hN21 rfl), ⟨(ev_hit hN21 rfl), ⟨(ev_hit hN21 rfl), trivial⟩⟩⟩⟩ (siftDownW_ret ((dj.setIfInBounds a dj[(a + (q - 1))]!).setIfInBounds (a + (q - 1)) dj[a]!) _ _ _ 0 (q - 1) a _ (by first | assumption | (simp only [Array.size_setIfInBounds, swp_sz, siftDown_size]; assumption)) (by omega) hO21 (by omega) (by omega)) ?_
    rintro _ w23 ⟨E24, rfl, hO22⟩
    have z_w23 := E24.size
    have hb := grow_stepX hb E24 rfl
    refine reg_nil ?_
    refine hK19 _ _ ?_
    refine one_reg ?_
    refine op_move (ev_base hN21 rfl s21_10) ?_
    refine op_sub (ev_hit hN21 rfl) rfl (sub64 (by omega)) ?_
    refine op_assign (ev_hit hN21 rfl) ?_
    refine reg_nil ?_
    -- round 19F 30T
    exact loop_next _ hN21 hd21 ⟨(q - 1), _, rfl, (sl_base hN21 rfl s21_0), (sl_base hN21 rfl s21_6), (sl_base hN21 rfl s21_7), (sl_hit hN21 rfl).trans (congrArg (Value.int .i64) (by omega)), (by first | assumption | (simp only [Array.size_setIfInBounds, swp_sz, siftDown_size]; assumption)), (by omega), (hs2.trans (heapPop_go' (by omega))), hb, (by omega), hO22⟩ (by omega)
  · -- 30F
   refine reg_nil ?_
   refine hK18 _ _ ?_
   refine wp_cond_false (ev_hit hN15 rfl) ?_
   refine wp_exit (then_exit (then_exit (blk_hit ?_)))
   refine end_ret ?_
   refine ret0 rfl hd15  ⟨_, rfl, ?_⟩
   -- path 19F 30F
   exact ⟨hb, rfl, hO16.cast rfl (by rw [show heapSort ltT d a b = heapPop ltT a (b - a) (heapBuild ltT (b - a) a ((b - a - 1) / 2 + 1) d) from rfl, hs2, show q = 0 by omega]; rfl)⟩

end Go.Proofs.Ytmhdbphpmgjpcaa

/- Walks, written by a program: what each function of the translation hands back. -/
namespace Go.Proofs.Ytmhdbphpmgjpcaa
open Go.Gx Go.RowKit
attribute [local irreducible] wpList wpStill Code.wp Calls
open Go.Sort (insertionSort insOuter insInner swp siftDown heapSort heapBuild heapPop scanUp scanDown partition partLoop partitionEqual partEqLoop scanSorted partialIns bitsLen partialInsertionSort shiftDown shiftUp SortedIn reverseRange reverseLoop fixDown fixUp)
theorem revW_ret (d : Ar) (v : Value) (n base : Nat) (a b : Nat) (w : World) (hd : d.size = n) (hn : n ≤ 4000000000000000000) (O : Own w base 46 1 v n (d.toList.map u16v)) (hab : a < b) (hbn : b ≤ n) : Ret Try.prog 157 #[v, (Value.int .i64 ((a : Nat) : Int)), (Value.int .i64 ((b : Nat) : Int))] w (fun v' w' => w.grownBy w' v.ownBlock ∧ v' = .tuple #[] ∧ Own w' base 46 1 v n ((reverseRange d a b).toList.map u16v)) := by
 have hb := grown_refl w v.ownBlock
 refine enter (N := 32) Try.func157 rfl rfl (by simp) fun a0 hN hd hA => ?_
 have s0 : a0.tmps.getD 0 undef = v := hA 0 (by simp)
 have s1 : a0.tmps.getD 1 undef = (Value.int .i64 ((a : Nat) : Int)) := hA 1 (by simp)
 have s2 : a0.tmps.getD 2 undef = (Value.int .i64 ((b : Nat) : Int)) := hA 2 (by simp)
 clear hA
 refine seq_any fun K1 hK1 => ?_
 refine one_reg ?_
 refine op_move (ev_base hN rfl s1) ?_
 refine op_assign (ev_hit hN rfl) ?_
 refine reg_nil ?_
 refine hK1 _ _ ?_
 refine seq_any fun K2 hK2 => ?_
 refine one_reg ?_
 refine op_move (ev_base hN rfl s2) ?_
 refine op_sub (r := ((b - 1 : Nat) : Int)) (ev_hit hN rfl) rfl (by rw [IntKind.wrap_i64]; omega) ?_
 refine op_assign (ev_hit hN rfl) ?_
 refine reg_nil ?_
 refine hK2 _ _ ?_
 refine wp_block ?_
 refine loop_m (fun mz_ az_ w' => ∃ (ix jx : Nat) (dk : Ar), mz_ = (jx + 1 - ix) ∧ (az_.tmps.getD 0 undef = v) ∧ (az_.tmps.getD 6 undef = (Value.int .i64 ((ix : Nat) : Int))) ∧ (az_.tmps.getD 7 undef = (Value.int .i64 ((jx : Nat) : Int))) ∧ (dk.size = n) ∧ (a ≤ ix ∧ jx < b) ∧ (reverseLoop a (b - 1) d = reverseLoop ix jx dk) ∧ (w.grownBy w' v.ownBlock) ∧ (w.heap.size ≤ w'.heap.size) ∧ (Own w' base 46 1 v n (dk.toList.map u16v))) _ hN hd ⟨a, (b - 1), _, rfl, (sl_base hN rfl s0), (sl_hit hN rfl).trans (congrArg (Value.int .i64) (by omega)), (sl_hit hN rfl).trans (congrArg (Value.int .i64) (by omega)), (by first | assumption | (simp only [Array.size_setIfInBounds, swp_sz, siftDown_size]; assumption)), (by omega), rfl, hb, (Nat.le_refl _), O⟩ ?_
 rintro _ a3 w3 hN3 hd3 ⟨ix, jx, dk, rfl, s3_0, s3_6, s3_7, hdk, hrng, hs, hb, zl_w3, hO4⟩
 have z_w3 := hb.size
 refine seq_any fun K5 hK5 => ?_
 refine seq_any fun K6 hK6 => ?_
 refine one_reg ?_
 refine op_move (ev_base hN3 rfl s3_6) ?_
 refine op_move (ev_base hN3 rfl s3_7) ?_
 refine op_lss (ev_hit hN3 rfl) (ev_hit hN3 rfl) (fun c13 => ?_) (fun c13 => ?_)
 · -- 13T
  refine reg_nil ?_
  refine hK6 _ _ ?_
  refine wp_cond_true (ev_hit hN3 rfl) ?_
  refine wp_skip ?_
  refine hK5 _ _ ?_
  refine wp_block ?_
  refine seq_any fun K7 hK7 => ?_
  refine reg_mid (e := 46) (sz := 1) (base := base) (n := n) (v := v) (Φ := phiL [(fun uz _ => uz = v), (fun uz _ => uz = (Value.int .i64 ((ix : Nat) : Int))), (fun uz _ => uz = v), (fun uz _ => uz = (Value.int .i64 ((jx : Nat) : Int))), (fun uz _ => uz = v), (fun uz _ => uz = (Value.int .i64 ((jx : Nat) : Int))), (fun uz _ => ∃ bz oz, uz = ptr bz oz ∧ AtV v jx bz oz), (fun uz _ => uz = (Value.int .u16 (dk[jx]!.toNat : Int))), (fun uz _ => uz = v), (fun uz _ => uz = (Value.int .i64 ((ix : Nat) : Int))), (fun uz _ => ∃ bz oz, uz = ptr bz oz ∧ AtV v ix bz oz), (fun uz _ => uz = (Value.int .u16 (dk[ix]!.toNat : Int))), (fun uz _ => ∃ bz oz, uz = ptr bz oz ∧ AtV v ix bz oz), (fun _ _ => True), (fun uz _ => ∃ bz oz, uz = ptr bz oz ∧ AtV v jx bz oz), (fun _ _ => True)]) [13, 15] [(dk.toList.map u16v), ((dk.setIfInBounds ix dk[jx]!).toList.map u16v), (((dk.setIfInBounds ix dk[jx]!).setIfInBounds jx dk[ix]!).toList.map u16v)] mixed (by kernel_rfl) (by kernel_rfl) (by kernel_rfl) (by kernel_rfl) hN3 hO4 (StL.get (StL.eq (StL.eq (StL.eq (StL.eq (StL.eq (StL.eq (StL.at (StL.eq (StL.eq (StL.eq (StL.at (StL.eq (StL.at (StL.cons (fun _ _ _ _ h => h) (StL.at (StL.cons (fun _ _ _ _ h => h) (StL.nil _)))))))))))))))))) (ObRs.get (ObRs.cons ?_ (ObRs.cons ?_ (ObRs.cons ?_ (ObRs.cons ?_ (ObRs.cons ?_ (ObRs.cons ?_ (ObRs.cons ?_ (ObRs.cons ?_ (ObRs.cons ?_ (ObRs.cons ?_ (ObRs.cons ?_ (ObRs.cons ?_ (ObRs.cons ?_ (ObRs.pass rfl (ObRs.cons ?_ (ObRs.pass rfl (ObRs.nil)))))))))))))))))) (ObWs.get (ObWs.cons ?_ (ObWs.cons ?_ (ObWs.nil)))) ?_
  ·
   intro aA wA cA hNA hRA hckA hOA hbsA hdpA
   have qA_0 := (hbsA 0 rfl).trans (sl_base hN3 rfl s3_0)
   clear hbsA hdpA
   refine op_move (ev_base hNA rfl qA_0) ?_
   exact obR_end rfl rfl (grown_refl _ _)
  ·
   intro aA wA cA hNA hRA hckA hOA hbsA hdpA
   have qA_6 := (hbsA 6 rfl).trans (sl_base hN3 rfl s3_6)
   clear hbsA hdpA
   refine op_move (ev_base hNA rfl qA_6) ?_
   exact obR_end rfl rfl (grown_refl _ _)
  ·
   intro aA wA cA hNA hRA hckA hOA hbsA hdpA
   have qA_0 := (hbsA 0 rfl).trans (sl_base hN3 rfl s3_0)
   clear hbsA hdpA
   refine op_move (ev_base hNA rfl qA_0) ?_
   exact obR_end rfl rfl (grown_refl _ _)
  ·
   intro aA wA cA hNA hRA hckA hOA hbsA hdpA
   have qA_7 := (hbsA 7 rfl).trans (sl_base hN3 rfl s3_7)
   clear hbsA hdpA
   refine op_move (ev_base hNA rfl qA_7) ?_
   exact obR_end rfl rfl (grown_refl _ _)
  ·
   intro aA wA cA hNA hRA hckA hOA hbsA hdpA
   have qA_0 := (hbsA 0 rfl).trans (sl_base hN3 rfl s3_0)
   clear hbsA hdpA
   refine op_move (ev_base hNA rfl qA_0) ?_
   exact obR_end rfl rfl (grown_refl _ _)
  ·
   intro aA wA cA hNA hRA hckA hOA hbsA hdpA
   have qA_7 := (hbsA 7 rfl).trans (sl_base hN3 rfl s3_7)
   clear hbsA hdpA
   refine op_move (ev_base hNA rfl qA_7) ?_
   exact obR_end rfl rfl (grown_refl _ _)
  ·
   intro aA wA cA hNA hRA hckA hOA hbsA hdpA
   have qA_18 : Sl aA 18 v := hdpA 4 _ 18 (by kernel_rfl) rfl rfl
   have qA_19 : Sl aA 19 (Value.int .i64 ((jx : Nat) : Int)) := hdpA 5 _ 19 (by kernel_rfl) rfl rfl
   clear hbsA hdpA
   refine op_index_own (i := jx) slt45 (ev_base hNA rfl qA_18) hOA (ev_base hNA rfl qA_19) (by omega) (by omega) ?_
   intro b_ o_ _ hA_
   exact obR_end rfl ⟨b_, o_, rfl, by simpa using hA_⟩ (grown_refl _ _)
  ·
   intro aA wA cA hNA hRA hckA hOA hbsA hdpA
   obtain ⟨bA_20, oA_20, qA_20, hAA_20⟩ := hdpA 6 _ 20 (by kernel_rfl) rfl rfl
   clear hbsA hdpA
   obtain rfl : cA = 0 := Nat.le_zero.1 (hckA 0 13 rfl (by kernel_rfl))
   have hOA : Own wA base 46 1 v n (dk.toList.map u16v) := hOA
   refine op_load1 (v := (Value.int .u16 (dk[jx]!.toNat : Int))) one46 (ev_base hNA rfl qA_20) (by have := hOA.cellAt hAA_20 0 _ (el_at (i := jx) (by first | omega | (simp only [Array.size_setIfInBounds, swp_sz, siftDown_size]; omega))); simpa using this) ?_
   exact obR_end rfl rfl (grown_refl _ _)
  ·
   intro aA wA cA hNA hRA hckA hOA hbsA hdpA
   have qA_0 := (hbsA 0 rfl).trans (sl_base hN3 rfl s3_0)
   clear hbsA hdpA
   refine op_move (ev_base hNA rfl qA_0) ?_
   exact obR_end rfl rfl (grown_refl _ _)
  ·
   intro aA wA cA hNA hRA hckA hOA hbsA hdpA
   have qA_6 := (hbsA 6 rfl).trans (sl_base hN3 rfl s3_6)
   clear hbsA hdpA
   refine op_move (ev_base hNA rfl qA_6) ?_
   exact obR_end rfl rfl (grown_refl _ _)
  ·
   intro aA wA cA hNA hRA hckA hOA hbsA hdpA
   have qA_22 : Sl aA 22 v := hdpA 8 _ 22 (by kernel_rfl) rfl rfl
   have qA_23 : Sl aA 23 (Value.int .i64 ((ix : Nat) : Int)) := hdpA 9 _ 23 (by kernel_rfl) rfl rfl
   clear hbsA hdpA
   refine op_index_own (i := ix) slt45 (ev_base hNA rfl qA_22) hOA (ev_base hNA rfl qA_23) (by omega) (by omega) ?_
   intro b_ o_ _ hA_
   exact obR_end rfl ⟨b_, o_, rfl, by simpa using hA_⟩ (grown_refl _ _)
  ·
   intro aA wA cA hNA hRA hckA hOA hbsA hdpA
   obtain ⟨bA_24, oA_24, qA_24, hAA_24⟩ := hdpA 10 _ 24 (by kernel_rfl) rfl rfl
   clear hbsA hdpA
   obtain rfl : cA = 0 := Nat.le_zero.1 (hckA 0 13 rfl (by kernel_rfl))
   have hOA : Own wA base 46 1 v n (dk.toList.map u16v) := hOA
   refine op_load1 (v := (Value.int .u16 (dk[ix]!.toNat : Int))) one46 (ev_base hNA rfl qA_24) (by have := hOA.cellAt hAA_24 0 _ (el_at (i := ix) (by first | omega | (simp only [Array.size_setIfInBounds, swp_sz, siftDown_size]; omega))); simpa using this) ?_
   exact obR_end rfl rfl (grown_refl _ _)
  ·
   intro aA wA cA hNA hRA hckA hOA hbsA hdpA
   have qA_14 : Sl aA 14 v := hdpA 0 _ 14 (by kernel_rfl) rfl rfl
   have qA_15 : Sl aA 15 (Value.int .i64 ((ix : Nat) : Int)) := hdpA 1 _ 15 (by kernel_rfl) rfl rfl
   clear hbsA hdpA
   refine op_index_own (i := ix) slt45 (ev_base hNA rfl qA_14) hOA (ev_base hNA rfl qA_15) (by omega) (by omega) ?_
   intro b_ o_ _ hA_
   exact obR_end rfl ⟨b_, o_, rfl, by simpa using hA_⟩ (grown_refl _ _)
  ·
   intro aA wA cA hNA hRA hckA hOA hbsA hdpA
   have qA_16 : Sl aA 16 v := hdpA 2 _ 16 (by kernel_rfl) rfl rfl
   have qA_17 : Sl aA 17 (Value.int .i64 ((jx : Nat) : Int)) := hdpA 3 _ 17 (by kernel_rfl) rfl rfl
   clear hbsA hdpA
   refine op_index_own (i := jx) slt45 (ev_base hNA rfl qA_16) hOA (ev_base hNA rfl qA_17) (by omega) (by omega) ?_
   intro b_ o_ _ hA_
   exact obR_end rfl ⟨b_, o_, rfl, by simpa using hA_⟩ (grown_refl _ _)
  ·
   intro o_ ho_; obtain rfl := Option.some.inj ho_; intro aA wA hNA hRA hbsA hdpA hOA
   obtain ⟨bA_26, oA_26, qA_26, hAA_26⟩ := hdpA 12 _ 26 (by kernel_rfl) rfl rfl
   have qA_21 : Sl aA 21 (Value.int .u16 (dk[jx]!.toNat : Int)) := hdpA 7 _ 21 (by kernel_rfl) rfl rfl
   clear hbsA hdpA
   have hOA : Own wA base 46 1 v n (dk.toList.map u16v) := hOA
   refine op_store_own (vs := [(Value.int .u16 (dk[jx]!.toNat : Int))]) size46 (ev_base hNA rfl qA_26) (ev_base hNA rfl qA_21) rfl rfl rfl hOA hAA_26 (by have := hOA.1; simp at this ⊢; omega) ?_
   intro w_ hO_ E_
   exact obW_end rfl (hO_.cast rfl (set_arr (by first | omega | (simp only [Array.size_setIfInBounds, swp_sz, siftDown_size]; omega)))) E_
  ·
   intro o_ ho_; obtain rfl := Option.some.inj ho_; intro aA wA hNA hRA hbsA hdpA hOA
   obtain ⟨bA_27, oA_27, qA_27, hAA_27⟩ := hdpA 14 _ 27 (by kernel_rfl) rfl rfl
   have qA_25 : Sl aA 25 (Value.int .u16 (dk[ix]!.toNat : Int)) := hdpA 11 _ 25 (by kernel_rfl) rfl rfl
   clear hbsA hdpA
   have hOA : Own wA base 46 1 v n ((dk.setIfInBounds ix dk[jx]!).toList.map u16v) := hOA
   refine op_store_own (vs := [(Value.int .u16 (dk[ix]!.toNat : Int))]) size46 (ev_base hNA rfl qA_27) (ev_base hNA rfl qA_25) rfl rfl rfl hOA hAA_27 (by have := hOA.1; simp at this ⊢; omega) ?_
   intro w_ hO_ E_
   exact obW_end rfl (hO_.cast rfl (set_arr (by first | omega | (simp only [Array.size_setIfInBounds, swp_sz, siftDown_size]; omega)))) E_
  ·
   intro a8 w8 hN8 hd8 hbs8 hph8 hO8 E8
   have hd8 := hd8.trans hd3
   have s8_0 := (hbs8 0 rfl).trans (sl_base hN3 rfl s3_0)
   have s8_6 := (hbs8 6 rfl).trans (sl_base hN3 rfl s3_6)
   have s8_7 := (hbs8 7 rfl).trans (sl_base hN3 rfl s3_7)
   clear hbs8 hph8
   have hO8 : Own w8 base 46 1 v n (((dk.setIfInBounds ix dk[jx]!).setIfInBounds jx dk[ix]!).toList.map u16v) := hO8
   have z_w8 := E8.size
   have hb := grow_stepX hb E8 rfl
   refine hK7 _ _ ?_
   refine seq_any fun K9 hK9 => ?_
   refine one_reg ?_
   refine op_move (ev_base hN8 rfl s8_6) ?_
   refine op_add (ev_hit hN8 rfl) rfl (add64 (by omega)) ?_
   refine op_assign (ev_hit hN8 rfl) ?_
   refine reg_nil ?_
   refine hK9 _ _ ?_
   refine one_reg ?_
   refine op_move (ev_base hN8 rfl s8_7) ?_
   refine op_sub (ev_hit hN8 rfl) rfl (sub64 (by omega)) ?_
   refine op_assign (ev_hit hN8 rfl) ?_
   refine reg_nil ?_
   refine blk_normal ?_
   -- round 13T
   exact loop_next _ hN8 hd8 ⟨(ix + 1), (jx - 1), _, rfl, (sl_base hN8 rfl s8_0), (sl_hit hN8 rfl).trans (congrArg (Value.int .i64) (by omega)), (sl_hit hN8 rfl).trans (congrArg (Value.int .i64) (by omega)), (by first | assumption | (simp only [Array.size_setIfInBounds, swp_sz, siftDown_size]; assumption)), (by omega), (hs.trans (rev_go (by omega))), hb, (by omega), hO8⟩ (by omega)
 · -- 13F
  refine reg_nil ?_
  refine hK6 _ _ ?_
  refine wp_cond_false (ev_hit hN3 rfl) ?_
  refine wp_exit (then_exit (then_exit (blk_hit ?_)))
  refine end_ret ?_
  refine ret0 rfl hd3  ⟨_, rfl, ?_⟩
  -- path 13F
  exact ⟨hb, rfl, hO4.cast rfl (by rw [show reverseRange d a b = reverseLoop a (b - 1) d from rfl, hs, rev_stop (by omega)])⟩

end Go.Proofs.Ytmhdbphpmgjpcaa
