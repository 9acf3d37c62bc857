/- Walks, written by a program: what each function of the translation hands back. -/
import Derived.Test.YtcpfdfejojghbaaB3
namespace Go.Proofs.Ytcpfdfejojghbaa
open Go.Gx Go.RowKit
attribute [local irreducible] wpList wpStill Code.wp Calls
open Go.Bt
def PutI (h : Nat) : Prop := ∀ ⦃k : List UInt8⦄ ⦃yv : Value⦄ ⦃x : Int⦄ ⦃R W : Nat → Prop⦄ ⦃p : Nat⦄ ⦃t : Tr (Int) h⦄ ⦃w : World⦄, TreeR kI R w h p t W → Ok h t → szT h t ≤ 6 → Own w 0 5 1 yv k.length (k.map u8v) → (∀ j, Bl yv j → R j) →
  Ret Try.prog 48 #[ptr p 0, (Value.agg #[yv, (Value.int .i64 x)])] w (fun v' w' => Gr w w' W ∧ ∃ u m, v' = .tuple #[.bool (putT h k x t).1, u, m] ∧ OutR kI R w' w.heap.size W h p (putT h k x t).2 u m)
def PutS (h : Nat) : Prop := ∀ ⦃k : List UInt8⦄ ⦃yv : Value⦄ ⦃x : List UInt8⦄ ⦃R W : Nat → Prop⦄ ⦃p : Nat⦄ ⦃t : Tr (List UInt8) h⦄ ⦃w : World⦄, TreeR kS R w h p t W → Ok h t → szT h t ≤ 6 → Own w 0 5 1 yv k.length (k.map u8v) → (∀ j, Bl yv j → R j) →
  Ret Try.prog 40 #[ptr p 0, (Value.agg #[yv, (Value.string (bs x))])] w (fun v' w' => Gr w w' W ∧ ∃ u m, v' = .tuple #[.bool (putT h k x t).1, u, m] ∧ OutR kS R w' w.heap.size W h p (putT h k x t).2 u m)
theorem putNI {h : Nat} {k : List UInt8} {yv : Value} {x : Int} {R W G : Nat → Prop} {p : Nat} {kv cv : Value} {K : List DK} {P : List Nat} {cs : List (Tr (Int) h)} {w : World} (IH : PutI h) (hNd : NodeR kI R w p kv cv K P G W) (hKs : KidsR kI R w h P cs G) (hO : Nd h (K.map Prod.snd) cs) (hz : ∀ c ∈ cs, okSz h c) (hn : K.length ≤ 6) (hk : Own w 0 5 1 yv k.length (k.map u8v)) (hkr : ∀ j, Bl yv j → R j) : Ret Try.prog 48 #[(ptr p 0), (Value.agg #[yv, (Value.int .i64 x)])] w (fun v' w' => Gr w w' W ∧ ∃ u m, v' = .tuple #[.bool (putT (h + 1) k x ((K.map Prod.snd, cs) : Tr (Int) (h + 1))).1, u, m] ∧ OutR kI R w' w.heap.size W (h + 1) p (putT (h + 1) k x ((K.map Prod.snd, cs) : Tr (Int) (h + 1))).2 u m) := by
 have hx : Bx w p 115 [.slice none 0 0, kv, cv] := hNd.bx
 have ok := hNd.ok
 have oc : Own w 0 69 1 cv P.length (P.flatMap cN) := hNd.oc
 have ks := hNd.ks
 have hs := hO.2.1
 have hi_p := hx.lt
 have hPc : P.length = cs.length := hKs.len
 have hcl : cs.length = K.length + 1 := hO.1.trans (by simp)
 have hPl : P.length = K.length + 1 := hPc.trans hcl
 have hwl : (way (K.map Prod.snd) k) ≤ K.length := by have := way_le (K.map Prod.snd) k; simpa using this
 obtain ⟨c, hc, hcO, hcw⟩ := hO.at (i := (way (K.map Prod.snd) k)) (by simpa using hwl)
 have hic : (way (K.map Prod.snd) k) < cs.length := by omega
 obtain ⟨f, G0, hkid, hrest, hfG, hfs, hGs⟩ := Kids.cutc hKs hc
 have hkid : TreeR kI R w h (P.getD (way (K.map Prod.snd) k) default) c f := hkid
 have hrest : KidsR kI R w h (P.eraseIdx (way (K.map Prod.snd) k)) (cs.eraseIdx (way (K.map Prod.snd) k)) G0 := hrest
 have djpf : ¬ f p := fun q => hNd.np (hfs p q)
 have djpG : ¬ G0 p := fun q => hNd.np (hGs p q)
 have djkf := hNd.nk.mono hfs
 have djkG := hNd.nk.mono hGs
 have djcf := hNd.nc.mono hfs
 have djcG := hNd.nc.mono hGs
 have hb := Gr.refl w W
 refine enter (N := 92) Try.func48 rfl rfl (by simp) fun a0 hN hd hA => ?_
 have s0 : a0.tmps.getD 0 undef = (ptr p 0) := hA 0 (by simp)
 have s1 : a0.tmps.getD 1 undef = (Value.agg #[yv, (Value.int .i64 x)]) := hA 1 (by simp)
 clear hA
 refine seq_any fun K1942 hK1942 => ?_
 refine one_reg ?_
 refine op_box (cs := [yv, (Value.int .i64 x)]) (ev_base hN rfl s1) rfl ?_
 intro w1943 b1944 lo_b1944 hi_b1944 hB1946 E1945
 have dj1947 : ¬ f b1944 := fun hf => by have := (hkid.lt _ hf).2; omega
 have dj1948 : ¬ G0 b1944 := fun hf => by have := (hrest.lt _ hf).2; omega
 have z_w1943 := E1945.size
 have hx := hx.keep0 E1945
 have ok := ok.keep0 E1945
 have oc := oc.keep0 E1945
 have ks : ∀ x9 ∈ K, Own w1943 0 5 1 x9.1 x9.2.length (x9.2.map u8v) := fun x9 hx9 => (ks x9 hx9).keep0 E1945
 have hk := hk.keep0 E1945
 have hkid := hkid.keepG (Gr.of0 E1945 NoB) (fun _ _ h => h) (NoK.no _)
 have hrest := hrest.keepG (Gr.of0 E1945 NoB) (fun _ _ h => h) (NoK.no _)
 have hb := hb.step0 E1945
 refine op_assign rfl ?_
 refine op_assign rfl ?_
 refine op_assign rfl ?_
 refine reg_nil ?_
 refine hK1942 _ _ ?_
 refine seq_any fun K1949 hK1949 => ?_
 refine seq_any fun K1950 hK1950 => ?_
 refine one_reg ?_
 refine op_move (ev_base hN rfl s0) ?_
 refine op_fn (vs := [(ptr p 0)]) ok81 ⟨(ev_hit hN rfl), trivial⟩ (Ret.flip (leafNI hx ok oc (by omega) (by omega))) ?_
 rintro _ _ ⟨rfl, rfl⟩
 refine reg_nil ?_
 refine hK1950 _ _ ?_
 refine wp_cond_false (ev_hit hN rfl) ?_
 refine seq_any fun K1951 hK1951 => ?_
 refine one_reg ?_
 refine op_move (ev_base hN rfl s0) ?_
 refine op_field fld51_0 (ev_hit hN rfl) ?_
 refine op_load1 (v := yv) one27 (ev_hit hN rfl) (hB1946.cell rfl) ?_
 refine op_fn (vs := [(ptr p 0), yv]) ok84 ⟨(ev_hit hN rfl), ⟨(ev_hit hN rfl), trivial⟩⟩ (wayI hx ok oc ks hs (by omega) (hk.rdw.mono (Nat.zero_le _) (by omega))) ?_
 rintro _ w1952 ⟨E1953, rfl⟩
 have E1953 := grown_of_below E1953
 have z_w1952 := E1953.size
 have hx := hx.keep0 E1953
 have ok := ok.keep0 E1953
 have oc := oc.keep0 E1953
 have ks : ∀ x9 ∈ K, Own w1952 0 5 1 x9.1 x9.2.length (x9.2.map u8v) := fun x9 hx9 => (ks x9 hx9).keep0 E1953
 have hk := hk.keep0 E1953
 have hkid := hkid.keepG (Gr.of0 E1953 NoB) (fun _ _ h => h) (NoK.no _)
 have hrest := hrest.keepG (Gr.of0 E1953 NoB) (fun _ _ h => h) (NoK.no _)
 have hB1946 := hB1946.keep0 E1953
 have hb := hb.step0 E1953
 refine op_assign (ev_hit hN rfl) ?_
 refine reg_nil ?_
 refine hK1951 _ _ ?_
 refine seq_any fun K1954 hK1954 => ?_
 refine one_reg ?_
 refine op_assign rfl ?_
 refine reg_nil ?_
 refine hK1954 _ _ ?_
 refine seq_any fun K1955 hK1955 => ?_
 refine one_reg ?_
 refine op_assign rfl ?_
 refine reg_nil ?_
 refine hK1955 _ _ ?_
 refine seq_any fun K1956 hK1956 => ?_
 refine reg_from mixed ?_
 intro w1958 E1957
 have z_w1958 := E1957.size
 have hx := hx.keep0 E1957
 have ok := ok.keep0 E1957
 have oc := oc.keep0 E1957
 have ks : ∀ x9 ∈ K, Own w1958 0 5 1 x9.1 x9.2.length (x9.2.map u8v) := fun x9 hx9 => (ks x9 hx9).keep0 E1957
 have hk := hk.keep0 E1957
 have hkid := hkid.keepG (Gr.of0 E1957 NoB) (fun _ _ h => h) (NoK.no _)
 have hrest := hrest.keepG (Gr.of0 E1957 NoB) (fun _ _ h => h) (NoK.no _)
 have hB1946 := hB1946.keep0 E1957
 have hb := hb.step0 E1957
 refine from_still (m := 8) 8 (hd := [_, _, _, _, _, _, _, _]) (by kernel_rfl) rfl rfl ?_
 refine st_step rfl (fun _ h9 => op_move (ev_base hN rfl s0) h9) ?_
 refine st_step rfl (fun _ h9 => op_nil (ev_hit hN rfl) h9) ?_
 refine st_step rfl (fun _ h9 => op_field fld115_2 (ev_hit hN rfl) h9) ?_
 refine st_step rfl (fun _ h9 => op_load1 (v := cv) one113 (ev_hit hN rfl) (hx.cell rfl) h9) ?_
 refine st_step rfl (fun _ h9 => op_move (ev_hit hN rfl) h9) ?_
 refine st_index_rd slt113 (ev_hit hN rfl) oc.rdw (ev_hit hN rfl) (by omega) (by omega) ?_
 intro b1959 o1960 h0b1959 h1b1959 hc1961
 refine st_step rfl (fun _ h9 => op_load1 (v := (ptr (P.getD ((way (K.map Prod.snd) k)) default) 0)) one69 (ev_hit hN rfl) (by have := hc1961 0 (ptr (P.getD ((way (K.map Prod.snd) k)) default) 0) (by decide) (el_pn (i := ((way (K.map Prod.snd) k))) (by omega) (by first | omega | (simp only [List.length_drop, List.length_take]; omega))); simpa using this) h9) ?_
 refine st_step rfl (fun _ h9 => op_loadA (cs := [yv, (Value.int .i64 x)]) agg51 rfl (ev_hit hN rfl) (fun j u hu => by rw [Nat.zero_add]; exact hB1946.cell hu) h9) ?_
 refine st_nil ?_
 refine from_one (k' := 9) (by kernel_rfl) rfl rfl ?_
 rcases Bool.eq_false_or_eq_true (((putT h k x c).2.2.isSome)) with k55 | k55
 · -- 55T
  refine op_fn (vs := [(ptr (P.getD ((way (K.map Prod.snd) k)) default) 0), (Value.agg #[yv, (Value.int .i64 x)])]) ok48 ⟨(ev_hit hN rfl), ⟨(ev_hit hN rfl), trivial⟩⟩ (IH hkid hcO (by have := (hz c (List.mem_of_getElem? hc)).2; omega) hk hkr) ?_
  rintro _ w1963 ⟨E1964, u1962, m1962, rfl, ho1962⟩
  have bd1965 := hx.lt
  have bd1966 := ok.lt
  have bd1967 := oc.lt
  have bd1968 := hk.lt
  have bd1969 := hrest.lt
  have bd1970 := hB1946.lt
  obtain ⟨y1962, t2_1962, q1962, W1_1962, W2_1962, hr1962, rfl, hu1962, hur1962, hT1962, hT2_1962, hN1_1962, hN2_1962, hd1962⟩ := outR_some k55 ho1962
  have hkid_old := hkid
  have z_w1963 := E1964.size
  have hx := hx.keepG E1964 djpf
  have ok := ok.keepG E1964 djkf
  have oc := oc.keepG E1964 djcf
  have ks : ∀ x9 ∈ K, Own w1963 0 5 1 x9.1 x9.2.length (x9.2.map u8v) := fun x9 hx9 => (ks x9 hx9).keepG E1964 (hkid_old.notOwn (ks x9 hx9) (by decide) (by decide) (by decide) (by decide))
  have hk := hk.keepG E1964 (hkid_old.notOwn hk (by decide) (by decide) (by decide) (by decide))
  have hrest := hrest.keepG E1964 hfG.symm (hkid_old.noK kI_fine)
  have hB1946 := hB1946.keepG E1964 dj1947
  have hb := hb.stepF E1964 (fun k _ h => hNd.wg k (hfs k h))
  have dj1971 : ¬ W1_1962 p := ne_stepF hN1_1962 bd1965 djpf
  have dj1972 : Dj (Bl kv) W1_1962 := Dj.stepF hN1_1962 (fun k hk => (bd1966 k hk).2) djkf
  have dj1973 : Dj (Bl cv) W1_1962 := Dj.stepF hN1_1962 (fun k hk => (bd1967 k hk).2) djcf
  have dj1975 : Dj G0 W1_1962 := Dj.stepF hN1_1962 (fun k hk => (bd1969 k hk).2) hfG.symm
  have dj1976 : ¬ W1_1962 b1944 := ne_stepF hN1_1962 bd1970 dj1947
  have dj1977 : ¬ W2_1962 p := ne_stepF hN2_1962 bd1965 djpf
  have dj1978 : Dj (Bl kv) W2_1962 := Dj.stepF hN2_1962 (fun k hk => (bd1966 k hk).2) djkf
  have dj1979 : Dj (Bl cv) W2_1962 := Dj.stepF hN2_1962 (fun k hk => (bd1967 k hk).2) djcf
  have dj1981 : Dj G0 W2_1962 := Dj.stepF hN2_1962 (fun k hk => (bd1969 k hk).2) hfG.symm
  have dj1982 : ¬ W2_1962 b1944 := ne_stepF hN2_1962 bd1970 dj1947
  have hin1983 := in_newF (hN1_1962.mono (t := w.heap.size) (by omega)) (fun k hk => hNd.wg k (hfs k hk))
  have hin1984 := in_newF (hN2_1962.mono (t := w.heap.size) (by omega)) (fun k hk => hNd.wg k (hfs k hk))
  refine from_next ?_
  refine from_still (m := 16) 7 (hd := [_, _, _, _, _, _, _]) (by kernel_rfl) rfl rfl ?_
  refine st_step rfl (fun _ h9 => op_move (ev_hit hN rfl) h9) ?_
  refine st_step rfl (fun _ h9 => op_extract (ev_hit hN rfl) rfl h9) ?_
  refine st_step rfl (fun _ h9 => op_extract (ev_hit hN rfl) rfl h9) ?_
  refine st_step rfl (fun _ h9 => op_extract (ev_hit hN rfl) rfl h9) ?_
  refine st_step rfl (fun _ h9 => op_assign (ev_hit hN rfl) h9) ?_
  refine st_step rfl (fun _ h9 => op_assign (ev_hit hN rfl) h9) ?_
  refine st_step rfl (fun _ h9 => op_assign (ev_hit hN rfl) h9) ?_
  refine st_nil ?_
  refine from_end ?_ rfl
  refine hK1956 _ _ ?_
  refine seq_any fun K1985 hK1985 => ?_
  refine one_reg ?_
  refine op_move (ev_hit hN rfl) ?_
  refine op_pne_some ptrt69 (ev_hit hN rfl) rfl ?_
  refine reg_nil ?_
  refine hK1985 _ _ ?_
  refine wp_cond_true (ev_hit hN rfl) ?_
  refine reg_split (hd := [_, _, _, _, _, _, _, _, _, _, _, _, _, _, _, _, _, _, _, _, _, _]) (tl := _) 22 mixed (by kernel_rfl) rfl rfl ?_
  refine any_treek (φ := phiV [(fun uz => uz = (ptr p 0)), (fun uz => uz = (ptr p 0)), (fun uz => uz = (ptr p 0)), (fun uz => uz = (ptr p 0)), (fun uz => uz = (ptr p 1)), (fun uz => uz = kv), (fun uz => uz = (Value.int .i64 (((way (K.map Prod.snd) k) : Nat) : Int))), (fun uz => uz = u1962), (fun _ => True), (fun _ => True), (fun uz => uz = (ptr p 0)), (fun uz => uz = (ptr p 0)), (fun uz => uz = (ptr p 2)), (fun uz => uz = cv), (fun uz => uz = (Value.int .i64 (((way (K.map Prod.snd) k) : Nat) : Int))), (fun uz => uz = (Value.int .i64 ((((way (K.map Prod.snd) k) : Nat) : Int) + 1))), (fun uz => uz = (ptr q1962 0)), (fun _ => True), (fun _ => True), (fun uz => uz = (ptr p 0)), (fun uz => uz = (ptr p 1)), (fun _ => True)]) (G := fun t9 w' => 21 ∈ t9 → (Bx w' p 115 [(Value.slice none 0 0), kv, cv])) [8, 9, 17, 18, 21] (by kernel_rfl) (by kernel_rfl) (by kernel_rfl) (by kernel_rfl) (by kernel_rfl) hN (fun _ w1 w2 E h hc9 => (h hc9).keep0 E) (fun _ => hx) (ObRk9.cons ?_ (ObRk9.cons ?_ (ObRk9.cons ?_ (ObRk9.cons ?_ (ObRk9.cons ?_ (ObRk9.cons ?_ (ObRk9.cons ?_ (ObRk9.cons ?_ (ObRk9.pass rfl (ObRk9.pass rfl (ObRk9.cons ?_ (ObRk9.cons ?_ (ObRk9.cons ?_ (ObRk9.cons ?_ (ObRk9.cons ?_ (ObRk9.cons ?_ (ObRk9.cons ?_ (ObRk9.pass rfl (ObRk9.pass rfl (ObRk9.cons ?_ (ObRk9.cons ?_ (ObRk9.pass rfl (ObRk9.nil))))))))))))))))))))))) (by simp only [putsL_defers]) ?_
  ·
   intro eA tA aA wA hNA hckA hGA hbsA hdpA
   have qA_0 := (hbsA 0 rfl).trans (sl_base hN rfl s0)
   refine op_move (ev_base hNA rfl qA_0) ?_
   exact obTk_end rfl rfl
  ·
   intro eA tA aA wA hNA hckA hGA hbsA hdpA
   have qA_0 := (hbsA 0 rfl).trans (sl_base hN rfl s0)
   refine op_move (ev_base hNA rfl qA_0) ?_
   exact obTk_end rfl rfl
  ·
   intro eA tA aA wA hNA hckA hGA hbsA hdpA
   have qA_0 := (hbsA 0 rfl).trans (sl_base hN rfl s0)
   refine op_move (ev_base hNA rfl qA_0) ?_
   exact obTk_end rfl rfl
  ·
   intro eA tA aA wA hNA hckA hGA hbsA hdpA
   have qA_63 : Sl aA 63 (ptr p 0) := (hdpA 2 _ 63 (by kernel_rfl) rfl rfl).2 rfl
   refine op_nil (ev_base hNA rfl qA_63) ?_
   exact obTk_end rfl rfl
  ·
   intro eA tA aA wA hNA hckA hGA hbsA hdpA
   have qA_64 : Sl aA 64 (ptr p 0) := (hdpA 3 _ 64 (by kernel_rfl) rfl rfl).2 rfl
   refine op_field fld115_1 (ev_base hNA rfl qA_64) ?_
   exact obTk_end rfl rfl
  ·
   intro eA tA aA wA hNA hckA hGA hbsA hdpA
   have qA_65 : Sl aA 65 (ptr p 1) := (hdpA 4 _ 65 (by kernel_rfl) rfl rfl).2 rfl
   have hGA := hGA (hckA 21 rfl (by kernel_rfl))
   refine op_load1 (v := kv) one90 (ev_base hNA rfl qA_65) (hGA.cell rfl) ?_
   exact obTk_end rfl rfl
  ·
   intro eA tA aA wA hNA hckA hGA hbsA hdpA
   have qA_9 := (hbsA 9 rfl).trans (sl_hit hN rfl)
   refine op_move (ev_base hNA rfl qA_9) ?_
   exact obTk_end rfl rfl
  ·
   intro eA tA aA wA hNA hckA hGA hbsA hdpA
   have qA_10 := (hbsA 10 rfl).trans (sl_hit hN rfl)
   refine op_move (ev_base hNA rfl qA_10) ?_
   exact obTk_end rfl rfl
  ·
   intro eA tA aA wA hNA hckA hGA hbsA hdpA
   have qA_0 := (hbsA 0 rfl).trans (sl_base hN rfl s0)
   refine op_move (ev_base hNA rfl qA_0) ?_
   exact obTk_end rfl rfl
  ·
   intro eA tA aA wA hNA hckA hGA hbsA hdpA
   have qA_71 : Sl aA 71 (ptr p 0) := (hdpA 10 _ 71 (by kernel_rfl) rfl rfl).2 rfl
   refine op_nil (ev_base hNA rfl qA_71) ?_
   exact obTk_end rfl rfl
  ·
   intro eA tA aA wA hNA hckA hGA hbsA hdpA
   have qA_72 : Sl aA 72 (ptr p 0) := (hdpA 11 _ 72 (by kernel_rfl) rfl rfl).2 rfl
   refine op_field fld115_2 (ev_base hNA rfl qA_72) ?_
   exact obTk_end rfl rfl
  ·
   intro eA tA aA wA hNA hckA hGA hbsA hdpA
   have qA_73 : Sl aA 73 (ptr p 2) := (hdpA 12 _ 73 (by kernel_rfl) rfl rfl).2 rfl
   have hGA := hGA (hckA 21 rfl (by kernel_rfl))
   refine op_load1 (v := cv) one113 (ev_base hNA rfl qA_73) (hGA.cell rfl) ?_
   exact obTk_end rfl rfl
  ·
   intro eA tA aA wA hNA hckA hGA hbsA hdpA
   have qA_9 := (hbsA 9 rfl).trans (sl_hit hN rfl)
   refine op_move (ev_base hNA rfl qA_9) ?_
   exact obTk_end rfl rfl
  ·
   intro eA tA aA wA hNA hckA hGA hbsA hdpA
   have qA_75 : Sl aA 75 (Value.int .i64 (((way (K.map Prod.snd) k) : Nat) : Int)) := (hdpA 14 _ 75 (by kernel_rfl) rfl rfl).2 rfl
   refine op_add (ev_base hNA rfl qA_75) rfl (add64 (by omega)) ?_
   exact obTk_end rfl rfl
  ·
   intro eA tA aA wA hNA hckA hGA hbsA hdpA
   have qA_11 := (hbsA 11 rfl).trans (sl_hit hN rfl)
   refine op_move (ev_base hNA rfl qA_11) ?_
   exact obTk_end rfl rfl
  ·
   intro eA tA aA wA hNA hckA hGA hbsA hdpA
   have qA_61 : Sl aA 61 (ptr p 0) := (hdpA 0 _ 61 (by kernel_rfl) rfl rfl).2 rfl
   refine op_nil (ev_base hNA rfl qA_61) ?_
   exact obTk_end rfl rfl
  ·
   intro eA tA aA wA hNA hckA hGA hbsA hdpA
   have qA_80 : Sl aA 80 (ptr p 0) := (hdpA 19 _ 80 (by kernel_rfl) rfl rfl).2 rfl
   refine op_field fld115_1 (ev_base hNA rfl qA_80) ?_
   exact obTk_end rfl rfl
  ·
   refine ktk_step (rs := [8, 17]) (by kernel_rfl) ?_
   refine more_mem ?_ ?_
   · -- first 8
    intro w1987 E1987 _ a1987 hN1987 hbs1987 hdp1987 o_ ho_; obtain rfl := Option.some.inj ho_
    have z_w1987 := E1987.size
    have hx := hx.keep0 E1987
    have ok := ok.keep0 E1987
    have oc := oc.keep0 E1987
    have ks : ∀ x9 ∈ K, Own w1987 0 5 1 x9.1 x9.2.length (x9.2.map u8v) := fun x9 hx9 => (ks x9 hx9).keep0 E1987
    have hk := hk.keep0 E1987
    have hrest := hrest.keepG (Gr.of0 E1987 NoB) (fun _ _ h => h) (NoK.no _)
    have hB1946 := hB1946.keep0 E1987
    have hT1962 := hT1962.keepG (Gr.of0 E1987 NoB) (fun _ _ h => h) (NoK.no _)
    have hT2_1962 := hT2_1962.keepG (Gr.of0 E1987 NoB) (fun _ _ h => h) (NoK.no _)
    have hu1962 := hu1962.keep0 E1987
    have hb := hb.step0 E1987
    have q1987_68 : Sl a1987 68 u1962 := (hdp1987 7 _ 68 (by kernel_rfl) rfl rfl).2 rfl
    refine op_bslice (e := 27) (pv := [(0, u1962)]) (cs := [u1962]) ⟨rfl, (ev_base hN1987 rfl q1987_68), trivial⟩ (by obtain ⟨_, _, _, rfl⟩ := hu1962.sl; kernel_rfl) ?_
    intro w1988 b1989 lo_b1989 hi_b1989 hB1991 E1990
    have dj1992 : ¬ G0 b1989 := fun hf => by have := (hrest.lt _ hf).2; omega
    have dj1993 : ¬ W1_1962 b1989 := fun hf => by have := (hT1962.lt _ hf).2; omega
    have dj1994 : ¬ W2_1962 b1989 := fun hf => by have := (hT2_1962.lt _ hf).2; omega
    have ne_b1989_kv : kv.ownBlock ≠ some b1989 := fun hh => by have := (ok.lt _ hh).2; omega
    have z_w1988 := E1990.size
    have hx := hx.keep0 E1990
    have ok := ok.keep0 E1990
    have oc := oc.keep0 E1990
    have ks : ∀ x9 ∈ K, Own w1988 0 5 1 x9.1 x9.2.length (x9.2.map u8v) := fun x9 hx9 => (ks x9 hx9).keep0 E1990
    have hk := hk.keep0 E1990
    have hrest := hrest.keepG (Gr.of0 E1990 NoB) (fun _ _ h => h) (NoK.no _)
    have hB1946 := hB1946.keep0 E1990
    have hT1962 := hT1962.keepG (Gr.of0 E1990 NoB) (fun _ _ h => h) (NoK.no _)
    have hT2_1962 := hT2_1962.keepG (Gr.of0 E1990 NoB) (fun _ _ h => h) (NoK.no _)
    have hu1962 := hu1962.keep0 E1990
    have hb := hb.step0 E1990
    refine ktk_end (G := fun t9 w' => 21 ∈ t9 → (Bx w' p 115 [(Value.slice none 0 0), kv, cv])) (todo := [8, 9, 17, 18, 21]) (i := 8) rfl (fun _ => hx) ?_
    refine ktk_step (rs := [9, 17]) (by kernel_rfl) ?_
    refine more_mem ?_ ?_
    · -- first 9
     intro w1996 E1996 _ a1996 hN1996 hbs1996 hdp1996 o_ ho_; obtain rfl := Option.some.inj ho_
     have z_w1996 := E1996.size
     have hx := hx.keep0 E1996
     have ok := ok.keep0 E1996
     have oc := oc.keep0 E1996
     have ks : ∀ x9 ∈ K, Own w1996 0 5 1 x9.1 x9.2.length (x9.2.map u8v) := fun x9 hx9 => (ks x9 hx9).keep0 E1996
     have hk := hk.keep0 E1996
     have hrest := hrest.keepG (Gr.of0 E1996 NoB) (fun _ _ h => h) (NoK.no _)
     have hB1946 := hB1946.keep0 E1996
     have hT1962 := hT1962.keepG (Gr.of0 E1996 NoB) (fun _ _ h => h) (NoK.no _)
     have hT2_1962 := hT2_1962.keepG (Gr.of0 E1996 NoB) (fun _ _ h => h) (NoK.no _)
     have hu1962 := hu1962.keep0 E1996
     have hB1991 := hB1991.keep0 E1996
     have hb := hb.step0 E1996
     have q1996_66 : Sl a1996 66 kv := (hdp1996 5 _ 66 (by kernel_rfl) rfl rfl).2 rfl
     have q1996_67 : Sl a1996 67 (Value.int .i64 (((way (K.map Prod.snd) k) : Nat) : Int)) := (hdp1996 6 _ 67 (by kernel_rfl) rfl rfl).2 rfl
     have q1996_69 : Sl a1996 69 (Value.slice (some ⟨b1989, 0, none⟩) 1 1) := (Option.some.inj ((hdp1996 8 _ 69 (by kernel_rfl) rfl rfl).1 rfl)).symm
     refine op_fn (vs := [kv, (Value.int .i64 (((way (K.map Prod.snd) k) : Nat) : Int)), (Value.slice (some ⟨b1989, 0, none⟩) 1 1)]) ok67 ⟨(ev_base hN1996 rfl q1996_66), ⟨(ev_base hN1996 rfl q1996_67), ⟨(ev_base hN1996 rfl q1996_69), trivial⟩⟩⟩ (InsK ok hB1991 (one_kd ks (fun _ h => h)) (by simp only [List.all_cons, List.all_nil, Bool.true_and, Bool.and_true, hu1962.one]; try rfl) (by first | omega | (simp only [List.length_insertIdx, List.length_set, List.length_drop, List.length_take]; omega) | (simp; omega)) (by first | omega | (simp only [List.length_insertIdx, List.length_set, List.length_drop, List.length_take]; omega) | (simp; omega)) ne_b1989_kv) ?_
     rintro v1997 w1998 ⟨E1999, hO1997, hm1997⟩
     have dj2000 : Dj G0 (Bl v1997) := Dj.step hm1997 (fun k hk => (hrest.lt k hk).2) djkG.symm
     have dj2001 : Dj W1_1962 (Bl v1997) := Dj.step hm1997 (fun k hk => (hT1962.lt k hk).2) dj1972.symm
     have dj2002 : Dj W2_1962 (Bl v1997) := Dj.step hm1997 (fun k hk => (hT2_1962.lt k hk).2) dj1978.symm
     have hin2003 := inF_step (n := w.heap.size) hm1997 (by omega) (fun k _ h => hNd.wk k h)
     have z_w1998 := E1999.size
     have hx := hx.keepO ok E1999 (by decide)
     have oc := oc.keepT ok E1999 (by decide)
     have ks : ∀ x9 ∈ K, Own w1998 0 5 1 x9.1 x9.2.length (x9.2.map u8v) := fun x9 hx9 => (ks x9 hx9).keepT ok E1999 (by decide)
     have hk := hk.keepT ok E1999 (by decide)
     have hrest := hrest.keepG (Gr.of E1999) djkG.symm (NoK.ofOwn ok (by decide))
     have hB1946 := hB1946.keepO ok E1999 (by decide)
     have hT1962 := hT1962.keepG (Gr.of E1999) dj1972.symm (NoK.ofOwn ok (by decide))
     have hT2_1962 := hT2_1962.keepG (Gr.of E1999) dj1978.symm (NoK.ofOwn ok (by decide))
     have hu1962 := hu1962.keepT ok E1999 (by decide)
     have hB1991 := hB1991.keep E1999 (fun hh => ne_b1989_kv hh.symm)
     have hb := hb.stepL E1999 (fun k _ h => hNd.wk k h)
     have hO1997 : Own w1998 0 27 1 v1997 (K.insertIdx (way (K.map Prod.snd) k) (u1962, y1962)).length ((K.insertIdx (way (K.map Prod.snd) k) (u1962, y1962)).flatMap cK) := hO1997.cast (by rw [List.length_insertIdx, if_pos (by first | omega | (simp only [List.length_insertIdx, List.length_set, List.length_drop, List.length_take]; omega) | (simp; omega))]) (flat_ins cK_len (u1962, y1962) (by first | omega | (simp only [List.length_insertIdx, List.length_set, List.length_drop, List.length_take]; omega) | (simp; omega)))
     refine ktk_end (G := fun t9 w' => 21 ∈ t9 → (Bx w' p 115 [(Value.slice none 0 0), kv, cv])) (todo := [9, 17, 18, 21]) (i := 9) rfl (fun _ => hx) ?_
     refine ktk_step (rs := [17]) (by kernel_rfl) ?_
     refine one_mem ?_
     intro w2005 E2005 _ a2005 hN2005 hbs2005 hdp2005 o_ ho_; obtain rfl := Option.some.inj ho_
     have z_w2005 := E2005.size
     have hx := hx.keep0 E2005
     have oc := oc.keep0 E2005
     have ks : ∀ x9 ∈ K, Own w2005 0 5 1 x9.1 x9.2.length (x9.2.map u8v) := fun x9 hx9 => (ks x9 hx9).keep0 E2005
     have hk := hk.keep0 E2005
     have hrest := hrest.keepG (Gr.of0 E2005 NoB) (fun _ _ h => h) (NoK.no _)
     have hB1946 := hB1946.keep0 E2005
     have hT1962 := hT1962.keepG (Gr.of0 E2005 NoB) (fun _ _ h => h) (NoK.no _)
     have hT2_1962 := hT2_1962.keepG (Gr.of0 E2005 NoB) (fun _ _ h => h) (NoK.no _)
     have hu1962 := hu1962.keep0 E2005
     have hB1991 := hB1991.keep0 E2005
     have hO1997 := hO1997.keep0 E2005
     have hb := hb.step0 E2005
     have q2005_77 : Sl a2005 77 (ptr q1962 0) := (hdp2005 16 _ 77 (by kernel_rfl) rfl rfl).2 rfl
     refine op_bslice (e := 69) (pv := [(0, (ptr q1962 0))]) (cs := [(ptr q1962 0)]) ⟨rfl, (ev_base hN2005 rfl q2005_77), trivial⟩ (by kernel_rfl) ?_
     intro w2006 b2007 lo_b2007 hi_b2007 hB2009 E2008
     have dj2010 : ¬ G0 b2007 := fun hf => by have := (hrest.lt _ hf).2; omega
     have dj2011 : ¬ W1_1962 b2007 := fun hf => by have := (hT1962.lt _ hf).2; omega
     have dj2012 : ¬ W2_1962 b2007 := fun hf => by have := (hT2_1962.lt _ hf).2; omega
     have ne_b2007_cv : cv.ownBlock ≠ some b2007 := fun hh => by have := (oc.lt _ hh).2; omega
     have z_w2006 := E2008.size
     have hx := hx.keep0 E2008
     have oc := oc.keep0 E2008
     have ks : ∀ x9 ∈ K, Own w2006 0 5 1 x9.1 x9.2.length (x9.2.map u8v) := fun x9 hx9 => (ks x9 hx9).keep0 E2008
     have hk := hk.keep0 E2008
     have hrest := hrest.keepG (Gr.of0 E2008 NoB) (fun _ _ h => h) (NoK.no _)
     have hB1946 := hB1946.keep0 E2008
     have hT1962 := hT1962.keepG (Gr.of0 E2008 NoB) (fun _ _ h => h) (NoK.no _)
     have hT2_1962 := hT2_1962.keepG (Gr.of0 E2008 NoB) (fun _ _ h => h) (NoK.no _)
     have hu1962 := hu1962.keep0 E2008
     have hB1991 := hB1991.keep0 E2008
     have hO1997 := hO1997.keep0 E2008
     have hb := hb.step0 E2008
     refine ktk_end (G := fun t9 w' => 21 ∈ t9 → (Bx w' p 115 [(Value.slice none 0 0), kv, cv])) (todo := [17, 18, 21]) (i := 17) rfl (fun _ => hx) ?_
     refine ktk_step (rs := [18]) (by kernel_rfl) ?_
     refine one_mem ?_
     intro w2014 E2014 _ a2014 hN2014 hbs2014 hdp2014 o_ ho_; obtain rfl := Option.some.inj ho_
     have z_w2014 := E2014.size
     have hx := hx.keep0 E2014
     have oc := oc.keep0 E2014
     have ks : ∀ x9 ∈ K, Own w2014 0 5 1 x9.1 x9.2.length (x9.2.map u8v) := fun x9 hx9 => (ks x9 hx9).keep0 E2014
     have hk := hk.keep0 E2014
     have hrest := hrest.keepG (Gr.of0 E2014 NoB) (fun _ _ h => h) (NoK.no _)
     have hB1946 := hB1946.keep0 E2014
     have hT1962 := hT1962.keepG (Gr.of0 E2014 NoB) (fun _ _ h => h) (NoK.no _)
     have hT2_1962 := hT2_1962.keepG (Gr.of0 E2014 NoB) (fun _ _ h => h) (NoK.no _)
     have hu1962 := hu1962.keep0 E2014
     have hB1991 := hB1991.keep0 E2014
     have hO1997 := hO1997.keep0 E2014
     have hB2009 := hB2009.keep0 E2014
     have hb := hb.step0 E2014
     have q2014_74 : Sl a2014 74 cv := (hdp2014 13 _ 74 (by kernel_rfl) rfl rfl).2 rfl
     have q2014_76 : Sl a2014 76 (Value.int .i64 ((((way (K.map Prod.snd) k) : Nat) : Int) + 1)) := (hdp2014 15 _ 76 (by kernel_rfl) rfl rfl).2 rfl
     have q2014_78 : Sl a2014 78 (Value.slice (some ⟨b2007, 0, none⟩) 1 1) := (Option.some.inj ((hdp2014 17 _ 78 (by kernel_rfl) rfl rfl).1 rfl)).symm
     refine op_fn (vs := [cv, (Value.int .i64 ((((way (K.map Prod.snd) k) : Nat) : Int) + 1)), (Value.slice (some ⟨b2007, 0, none⟩) 1 1)]) ok85 ⟨(ev_base hN2014 rfl q2014_74), ⟨(ev_base hN2014 rfl q2014_76), ⟨(ev_base hN2014 rfl q2014_78), trivial⟩⟩⟩ (InsNI oc hB2009 (one_pn _) rfl (by first | omega | (simp only [List.length_insertIdx, List.length_set, List.length_drop, List.length_take]; omega) | (simp; omega)) (by first | omega | (simp only [List.length_insertIdx, List.length_set, List.length_drop, List.length_take]; omega) | (simp; omega)) ne_b2007_cv) ?_
     rintro v2015 w2016 ⟨E2017, hO2015, hm2015⟩
     have dj2018 : Dj G0 (Bl v2015) := Dj.step hm2015 (fun k hk => (hrest.lt k hk).2) djcG.symm
     have dj2019 : Dj W1_1962 (Bl v2015) := Dj.step hm2015 (fun k hk => (hT1962.lt k hk).2) dj1973.symm
     have dj2020 : Dj W2_1962 (Bl v2015) := Dj.step hm2015 (fun k hk => (hT2_1962.lt k hk).2) dj1979.symm
     have hin2021 := inF_step (n := w.heap.size) hm2015 (by omega) (fun k _ h => hNd.wc k h)
     have z_w2016 := E2017.size
     have hx := hx.keepO oc E2017 (by decide)
     have ks : ∀ x9 ∈ K, Own w2016 0 5 1 x9.1 x9.2.length (x9.2.map u8v) := fun x9 hx9 => (ks x9 hx9).keepT oc E2017 (by decide)
     have hk := hk.keepT oc E2017 (by decide)
     have hrest := hrest.keepG (Gr.of E2017) djcG.symm (NoK.ofOwn oc (by decide))
     have hB1946 := hB1946.keepO oc E2017 (by decide)
     have hT1962 := hT1962.keepG (Gr.of E2017) dj1973.symm (NoK.ofOwn oc (by decide))
     have hT2_1962 := hT2_1962.keepG (Gr.of E2017) dj1979.symm (NoK.ofOwn oc (by decide))
     have hu1962 := hu1962.keepT oc E2017 (by decide)
     have hB1991 := hB1991.keepO oc E2017 (by decide)
     have hO1997 := hO1997.keepT oc E2017 (by decide)
     have hB2009 := hB2009.keep E2017 (fun hh => ne_b2007_cv hh.symm)
     have hb := hb.stepL E2017 (fun k _ h => hNd.wc k h)
     have hO2015 : Own w2016 0 69 1 v2015 (P.insertIdx (((way (K.map Prod.snd) k)) + 1) q1962).length ((P.insertIdx (((way (K.map Prod.snd) k)) + 1) q1962).flatMap cN) := hO2015.cast (by rw [List.length_insertIdx, if_pos (by first | omega | (simp only [List.length_insertIdx, List.length_set, List.length_drop, List.length_take]; omega) | (simp; omega))]) (flat_ins cN_len q1962 (by first | omega | (simp only [List.length_insertIdx, List.length_set, List.length_drop, List.length_take]; omega) | (simp; omega)))
     refine ktk_end (G := fun t9 w' => 21 ∈ t9 → (Bx w' p 115 [(Value.slice none 0 0), kv, cv])) (todo := [18, 21]) (i := 18) rfl (fun _ => hx) ?_
     refine ktk_step (rs := [21]) (by kernel_rfl) ?_
     refine one_mem ?_
     intro w2023 E2023 _ a2023 hN2023 hbs2023 hdp2023 o_ ho_; obtain rfl := Option.some.inj ho_
     have z_w2023 := E2023.size
     have hx := hx.keep0 E2023
     have ks : ∀ x9 ∈ K, Own w2023 0 5 1 x9.1 x9.2.length (x9.2.map u8v) := fun x9 hx9 => (ks x9 hx9).keep0 E2023
     have hk := hk.keep0 E2023
     have hrest := hrest.keepG (Gr.of0 E2023 NoB) (fun _ _ h => h) (NoK.no _)
     have hB1946 := hB1946.keep0 E2023
     have hT1962 := hT1962.keepG (Gr.of0 E2023 NoB) (fun _ _ h => h) (NoK.no _)
     have hT2_1962 := hT2_1962.keepG (Gr.of0 E2023 NoB) (fun _ _ h => h) (NoK.no _)
     have hu1962 := hu1962.keep0 E2023
     have hB1991 := hB1991.keep0 E2023
     have hO1997 := hO1997.keep0 E2023
     have hB2009 := hB2009.keep0 E2023
     have hO2015 := hO2015.keep0 E2023
     have hb := hb.step0 E2023
     have q2023_81 : Sl a2023 81 (ptr p 1) := (hdp2023 20 _ 81 (by kernel_rfl) rfl rfl).2 rfl
     have q2023_70 : Sl a2023 70 v1997 := (Option.some.inj ((hdp2023 9 _ 70 (by kernel_rfl) rfl rfl).1 rfl)).symm
     have hx_old := hx
     refine op_store (vs := [v1997]) (cs' := [(Value.slice none 0 0), v1997, cv]) size90 (ev_base hN2023 rfl q2023_81) (ev_base hN2023 rfl q2023_70) hO1997.cl rfl (by simp only [List.all_cons, List.all_nil, Bool.true_and, Bool.and_true, hO1997.one]; try rfl) hx (Nat.le_of_ble_eq_true rfl) rfl ?_
     intro w2026 hx E2027
     have z_w2026 := E2027.size
     have ks : ∀ x9 ∈ K, Own w2026 0 5 1 x9.1 x9.2.length (x9.2.map u8v) := fun x9 hx9 => (ks x9 hx9).keepX hx_old E2027 (by decide)
     have hk := hk.keepX hx_old E2027 (by decide)
     have hrest := hrest.keepG (Gr.of E2027) (Dj.one djpG) (NoK.ofBx hx_old (by decide))
     have hB1946 := hB1946.keep E2027 (fun hh => hB1946.ne hx_old (by decide) (Option.some.inj hh))
     have hT1962 := hT1962.keepG (Gr.of E2027) (Dj.one dj1971) (NoK.ofBx hx_old (by decide))
     have hT2_1962 := hT2_1962.keepG (Gr.of E2027) (Dj.one dj1977) (NoK.ofBx hx_old (by decide))
     have hu1962 := hu1962.keepX hx_old E2027 (by decide)
     have hB1991 := hB1991.keep E2027 (fun hh => hB1991.ne hx_old (by decide) (Option.some.inj hh))
     have hO1997 := hO1997.keepX hx_old E2027 (by decide)
     have hB2009 := hB2009.keep E2027 (fun hh => hB2009.ne hx_old (by decide) (Option.some.inj hh))
     have hO2015 := hO2015.keepX hx_old E2027 (by decide)
     have hb := hb.stepB E2027 hNd.wp
     refine ktk_end0 (G := fun t9 w' => 21 ∈ t9 → (Bx w' p 115 [(Value.slice none 0 0), kv, cv])) (todo := [21]) (i := 21) rfl (fun h => absurd h (by decide)) ?_
     intro w2028 E2028 a2028 hN2028 hd2028 hbs2028 hph2028
     have hd2028 := hd2028.trans ((by simp only [putsL_defers] : _ = _).trans hd)
     have z_w2028 := E2028.size
     have ks : ∀ x9 ∈ K, Own w2028 0 5 1 x9.1 x9.2.length (x9.2.map u8v) := fun x9 hx9 => (ks x9 hx9).keep0 E2028
     have hk := hk.keep0 E2028
     have hrest := hrest.keepG (Gr.of0 E2028 NoB) (fun _ _ h => h) (NoK.no _)
     have hB1946 := hB1946.keep0 E2028
     have hT1962 := hT1962.keepG (Gr.of0 E2028 NoB) (fun _ _ h => h) (NoK.no _)
     have hT2_1962 := hT2_1962.keepG (Gr.of0 E2028 NoB) (fun _ _ h => h) (NoK.no _)
     have hu1962 := hu1962.keep0 E2028
     have hB1991 := hB1991.keep0 E2028
     have hO1997 := hO1997.keep0 E2028
     have hB2009 := hB2009.keep0 E2028
     have hO2015 := hO2015.keep0 E2028
     have hx := hx.keep0 E2028
     have hb := hb.step0 E2028
     have s2028_0 := (hbs2028 0 rfl).trans (sl_base hN rfl s0)
     have s2028_4 := (hbs2028 4 rfl).trans (sl_hit hN rfl)
     have s2028_5 := (hbs2028 5 rfl).trans (sl_hit hN rfl)
     have s2028_6 := (hbs2028 6 rfl).trans (sl_hit hN rfl)
     have s2028_62 : Sl a2028 62 (ptr p 0) := (hph2028 1 _ 62 rfl rfl).2 rfl
     have s2028_79 : Sl a2028 79 v2015 := (Option.some.inj ((hph2028 18 _ 79 rfl rfl).1 rfl)).symm
     refine split_end ?_
     refine from_seq (tl := [_, _, _]) (by decide) (by kernel_rfl) rfl ?_
     refine op_nil (ev_base hN2028 rfl s2028_62) ?_
     refine op_field fld115_2 (ev_hit hN2028 rfl) ?_
     have hx_old := hx
     refine op_store (vs := [v2015]) (cs' := [(Value.slice none 0 0), v1997, v2015]) size113 (ev_hit hN2028 rfl) (ev_base hN2028 rfl s2028_79) hO2015.cl rfl (by simp only [List.all_cons, List.all_nil, Bool.true_and, Bool.and_true, hO2015.one]; try rfl) hx (Nat.le_of_ble_eq_true rfl) rfl ?_
     intro w2031 hx E2032
     have z_w2031 := E2032.size
     have ks : ∀ x9 ∈ K, Own w2031 0 5 1 x9.1 x9.2.length (x9.2.map u8v) := fun x9 hx9 => (ks x9 hx9).keepX hx_old E2032 (by decide)
     have hk := hk.keepX hx_old E2032 (by decide)
     have hrest := hrest.keepG (Gr.of E2032) (Dj.one djpG) (NoK.ofBx hx_old (by decide))
     have hB1946 := hB1946.keep E2032 (fun hh => hB1946.ne hx_old (by decide) (Option.some.inj hh))
     have hT1962 := hT1962.keepG (Gr.of E2032) (Dj.one dj1971) (NoK.ofBx hx_old (by decide))
     have hT2_1962 := hT2_1962.keepG (Gr.of E2032) (Dj.one dj1977) (NoK.ofBx hx_old (by decide))
     have hu1962 := hu1962.keepX hx_old E2032 (by decide)
     have hB1991 := hB1991.keep E2032 (fun hh => hB1991.ne hx_old (by decide) (Option.some.inj hh))
     have hO1997 := hO1997.keepX hx_old E2032 (by decide)
     have hB2009 := hB2009.keep E2032 (fun hh => hB2009.ne hx_old (by decide) (Option.some.inj hh))
     have hO2015 := hO2015.keepX hx_old E2032 (by decide)
     have hb := hb.stepB E2032 hNd.wp
     refine reg_nil ?_
     refine hK1949 _ _ ?_
     refine seq_any fun K2033 hK2033 => ?_
     refine one_reg ?_
     have hl1 : (K.insertIdx (way (K.map Prod.snd) k) (u1962, y1962)).length = K.length + 1 := by rw [List.length_insertIdx, if_pos hwl]
     have hl2 : (P.insertIdx (((way (K.map Prod.snd) k)) + 1) q1962).length = P.length + 1 := by rw [List.length_insertIdx, if_pos (by omega)]
     have ks2034 : ∀ x9 ∈ (K.insertIdx (way (K.map Prod.snd) k) (u1962, y1962)), Own w2031 0 5 1 x9.1 x9.2.length (x9.2.map u8v) := kks_ins ks hu1962 hwl
     refine op_move (ev_base hN2028 rfl s2028_0) ?_
     rcases Bool.eq_false_or_eq_true (decide ((K.insertIdx (way (K.map Prod.snd) k) (u1962, y1962)).length ≤ 6)) with k86 | k86
     · -- 86T
      refine op_fn (vs := [(ptr p 0)]) ok86 ⟨(ev_hit hN2028 rfl), trivial⟩ (Ret.flip (halvesNsI hx hO1997 hO2015 (by first | omega | (simp only [List.length_insertIdx, List.length_set, List.length_drop, List.length_take]; omega) | (simp; omega)) (of_decide_eq_true k86))) ?_
      rintro _ _ ⟨rfl, rfl⟩
      refine op_move (ev_hit hN2028 rfl) ?_
      refine op_extract (ev_hit hN2028 rfl) rfl ?_
      refine op_extract (ev_hit hN2028 rfl) rfl ?_
      refine op_assign (ev_hit hN2028 rfl) ?_
      refine op_assign (ev_hit hN2028 rfl) ?_
      refine reg_nil ?_
      refine hK2033 _ _ ?_
      refine seq_any fun K2035 hK2035 => ?_
      refine one_reg ?_
      refine op_move (ev_base hN2028 rfl s2028_4) ?_
      refine op_move (ev_hit hN2028 rfl) ?_
      refine op_move (ev_hit hN2028 rfl) ?_
      refine op_assign (ev_hit hN2028 rfl) ?_
      refine op_assign (ev_hit hN2028 rfl) ?_
      refine op_assign (ev_hit hN2028 rfl) ?_
      refine reg_nil ?_
      refine hK2035 _ _ ?_
      refine wp_ret ?_
      refine retN (rs := [.tmp 4, .tmp 5, .tmp 6]) (vs := [(Value.bool (putT h k x c).1), (Value.slice none 0 0), (Value.pointer none)]) rfl hd2028 ⟨(ev_hit hN2028 rfl), ⟨(ev_hit hN2028 rfl), ⟨(ev_hit hN2028 rfl), trivial⟩⟩⟩ rfl ⟨_, rfl, ?_⟩
      -- path 55T 86T
      exact ⟨hb, _, _, by rw [(put_some (u := u1962) hc hr1962 hwl)]; rfl, out_node_small (K := (K.insertIdx (way (K.map Prod.snd) k) (u1962, y1962))) (ts := ((cs.set (way (K.map Prod.snd) k) (putT h k x c).2.1).insertIdx ((way (K.map Prod.snd) k) + 1) t2_1962)) ((congrArg Prod.snd (put_some (u := u1962) hc hr1962 hwl)).trans (halves_nsmall (by simpa using of_decide_eq_true k86))) hx hO1997 hO2015 ks2034 (kks_ins hNd.kr hur1962 hwl) (Kids.ins (i := (way (K.map Prod.snd) k) + 1) (Kids.back1 (i := (way (K.map Prod.snd) k)) (A := TreeR kI R w2031 h) hrest hPc hic hT1962 dj1975.symm) (by rw [List.length_set]; omega) hT2_1962 (fun k h1 h2 => h2.elim (hd1962.symm k h1) (dj1981.symm k h1))) (fun h9 => h9.elim (fun h8 => dj1977 h8) (fun h8 => h8.elim (fun h8 => dj1971 h8) (fun h8 => djpG h8))) (fun j hj h9 => h9.elim (fun h8 => dj2002.symm j hj h8) (fun h8 => h8.elim (fun h8 => dj2001.symm j hj h8) (fun h8 => dj2000.symm j hj h8))) (fun j hj h9 => h9.elim (fun h8 => dj2020.symm j hj h8) (fun h8 => h8.elim (fun h8 => dj2019.symm j hj h8) (fun h8 => dj2018.symm j hj h8))) (nodeW_in (fun _ => hNd.wp) hin2003 hin2021 (fun j hj h9 => h9.elim (fun h8 => hin1984 j hj h8) (fun h8 => h8.elim (fun h8 => hin1983 j hj h8) (fun h8 => (fun j _ q => hNd.wg j (hGs j q)) j hj h8))))⟩
     · -- 86F
      refine op_fn (vs := [(ptr p 0)]) ok86 ⟨(ev_hit hN2028 rfl), trivial⟩ (halvesNbI hx hO1997 hO2015 ks2034 (by first | omega | (simp only [List.length_insertIdx, List.length_set, List.length_drop, List.length_take]; omega) | (simp; omega)) (by have := of_decide_eq_false k86; omega) (by first | omega | (simp only [List.length_insertIdx, List.length_set, List.length_drop, List.length_take]; omega) | (simp; omega))) ?_
      rintro _ w2037 ⟨E2038, q2036, qk2036, qc2036, rfl, hx2036, oa2036, ob2036, lo2036, hB2036, oc2036, od2036⟩
      have ht2039 := hx.lt
      have ht2040 := hO1997.lt
      have ht2041 := hO2015.lt
      have ht2042 := hrest.lt
      have ht2043 := hT1962.lt
      have ht2044 := hT2_1962.lt
      have E2038 := E2038.grown (row := some p) (fun k _ h => by rw [h])
      have hx_old := hx
      have z_w2037 := E2038.size
      have ks : ∀ x9 ∈ K, Own w2037 0 5 1 x9.1 x9.2.length (x9.2.map u8v) := fun x9 hx9 => (ks x9 hx9).keepX hx_old E2038 (by decide)
      have hk := hk.keepX hx_old E2038 (by decide)
      have hrest := hrest.keepG (Gr.of E2038) (Dj.one djpG) (NoK.ofBx hx_old (by decide))
      have hB1946 := hB1946.keep E2038 (fun hh => hB1946.ne hx_old (by decide) (Option.some.inj hh))
      have hT1962 := hT1962.keepG (Gr.of E2038) (Dj.one dj1971) (NoK.ofBx hx_old (by decide))
      have hT2_1962 := hT2_1962.keepG (Gr.of E2038) (Dj.one dj1977) (NoK.ofBx hx_old (by decide))
      have hu1962 := hu1962.keepX hx_old E2038 (by decide)
      have hB1991 := hB1991.keep E2038 (fun hh => hB1991.ne hx_old (by decide) (Option.some.inj hh))
      have hB2009 := hB2009.keep E2038 (fun hh => hB2009.ne hx_old (by decide) (Option.some.inj hh))
      have ks2034 : ∀ x9 ∈ (K.insertIdx (way (K.map Prod.snd) k) (u1962, y1962)), Own w2037 0 5 1 x9.1 x9.2.length (x9.2.map u8v) := fun x9 hx9 => (ks2034 x9 hx9).keepX hx_old E2038 (by decide)
      have hb := hb.stepB E2038 hNd.wp
      refine op_move (ev_hit hN2028 rfl) ?_
      refine op_extract (ev_hit hN2028 rfl) rfl ?_
      refine op_extract (ev_hit hN2028 rfl) rfl ?_
      refine op_assign (ev_hit hN2028 rfl) ?_
      refine op_assign (ev_hit hN2028 rfl) ?_
      refine reg_nil ?_
      refine hK2033 _ _ ?_
      refine seq_any fun K2045 hK2045 => ?_
      refine one_reg ?_
      refine op_move (ev_base hN2028 rfl s2028_4) ?_
      refine op_move (ev_hit hN2028 rfl) ?_
      refine op_move (ev_hit hN2028 rfl) ?_
      refine op_assign (ev_hit hN2028 rfl) ?_
      refine op_assign (ev_hit hN2028 rfl) ?_
      refine op_assign (ev_hit hN2028 rfl) ?_
      refine reg_nil ?_
      refine hK2045 _ _ ?_
      refine wp_ret ?_
      refine retN (rs := [.tmp 4, .tmp 5, .tmp 6]) (vs := [(Value.bool (putT h k x c).1), ((K.insertIdx (way (K.map Prod.snd) k) (u1962, y1962)).getD ((K.insertIdx (way (K.map Prod.snd) k) (u1962, y1962)).length / 2) default).1, (ptr q2036 0)]) rfl hd2028 ⟨(ev_hit hN2028 rfl), ⟨(ev_hit hN2028 rfl), ⟨(ev_hit hN2028 rfl), trivial⟩⟩⟩ rfl ⟨_, rfl, ?_⟩
      -- path 55T 86F
      exact ⟨hb, _, _, by rw [(put_some (u := u1962) hc hr1962 hwl)]; rfl, out_node_big (K := (K.insertIdx (way (K.map Prod.snd) k) (u1962, y1962))) (ts := ((cs.set (way (K.map Prod.snd) k) (putT h k x c).2.1).insertIdx ((way (K.map Prod.snd) k) + 1) t2_1962)) ((congrArg Prod.snd (put_some (u := u1962) hc hr1962 hwl)).trans (halves_nbig (by have := of_decide_eq_false k86; omega))) (by have := of_decide_eq_false k86; omega) hx2036 oa2036 ob2036 hB2036 oc2036 od2036 lo2036 (by omega) ks2034 (kks_ins hNd.kr hur1962 hwl) (Kids.ins (i := (way (K.map Prod.snd) k) + 1) (Kids.back1 (i := (way (K.map Prod.snd) k)) (A := TreeR kI R w2037 h) hrest hPc hic hT1962 dj1975.symm) (by rw [List.length_set]; omega) hT2_1962 (fun k h1 h2 => h2.elim (hd1962.symm k h1) (dj1981.symm k h1))) (fun h9 => h9.elim (fun h8 => dj1977 h8) (fun h8 => h8.elim (fun h8 => dj1971 h8) (fun h8 => djpG h8))) (fun j hj h9 => h9.elim (fun h8 => dj2002.symm j ((hiV_ob _ _).symm.trans hj) h8) (fun h8 => h8.elim (fun h8 => dj2001.symm j ((hiV_ob _ _).symm.trans hj) h8) (fun h8 => dj2000.symm j ((hiV_ob _ _).symm.trans hj) h8))) (fun j hj h9 => h9.elim (fun h8 => dj2020.symm j ((hiV_ob _ _).symm.trans hj) h8) (fun h8 => h8.elim (fun h8 => dj2019.symm j ((hiV_ob _ _).symm.trans hj) h8) (fun h8 => dj2018.symm j ((hiV_ob _ _).symm.trans hj) h8))) (nodeW_in (fun _ => hNd.wp) (inF_step (n := w.heap.size) (.inl (hiV_ob _ _)) (Nat.le_refl _) hin2003) (inF_step (n := w.heap.size) (.inl (hiV_ob _ _)) (Nat.le_refl _) hin2021) (fun j hj h9 => h9.elim (fun h8 => hin1984 j hj h8) (fun h8 => h8.elim (fun h8 => hin1983 j hj h8) (fun h8 => (fun j _ q => hNd.wg j (hGs j q)) j hj h8)))) (nodeW_lt ht2039 (fun j h9 => (ht2040 j ((hiV_ob _ _).symm.trans h9)).2) (fun j h9 => (ht2041 j ((hiV_ob _ _).symm.trans h9)).2) (fun j h9 => h9.elim (fun h8 => (ht2044 j h8).2) (fun h8 => h8.elim (fun h8 => (ht2043 j h8).2) (fun h8 => (ht2042 j h8).2))))⟩
    refine one_mem ?_
    intro w2046 E2046 _ a2046 hN2046 hbs2046 hdp2046 o_ ho_; obtain rfl := Option.some.inj ho_
    have z_w2046 := E2046.size
    have hx := hx.keep0 E2046
    have ok := ok.keep0 E2046
    have oc := oc.keep0 E2046
    have ks : ∀ x9 ∈ K, Own w2046 0 5 1 x9.1 x9.2.length (x9.2.map u8v) := fun x9 hx9 => (ks x9 hx9).keep0 E2046
    have hk := hk.keep0 E2046
    have hrest := hrest.keepG (Gr.of0 E2046 NoB) (fun _ _ h => h) (NoK.no _)
    have hB1946 := hB1946.keep0 E2046
    have hT1962 := hT1962.keepG (Gr.of0 E2046 NoB) (fun _ _ h => h) (NoK.no _)
    have hT2_1962 := hT2_1962.keepG (Gr.of0 E2046 NoB) (fun _ _ h => h) (NoK.no _)
    have hu1962 := hu1962.keep0 E2046
    have hB1991 := hB1991.keep0 E2046
    have hb := hb.step0 E2046
    have q2046_77 : Sl a2046 77 (ptr q1962 0) := (hdp2046 16 _ 77 (by kernel_rfl) rfl rfl).2 rfl
    refine op_bslice (e := 69) (pv := [(0, (ptr q1962 0))]) (cs := [(ptr q1962 0)]) ⟨rfl, (ev_base hN2046 rfl q2046_77), trivial⟩ (by kernel_rfl) ?_
    intro w2047 b2048 lo_b2048 hi_b2048 hB2050 E2049
    have dj2051 : ¬ G0 b2048 := fun hf => by have := (hrest.lt _ hf).2; omega
    have dj2052 : ¬ W1_1962 b2048 := fun hf => by have := (hT1962.lt _ hf).2; omega
    have dj2053 : ¬ W2_1962 b2048 := fun hf => by have := (hT2_1962.lt _ hf).2; omega
    have ne_b2048_cv : cv.ownBlock ≠ some b2048 := fun hh => by have := (oc.lt _ hh).2; omega
    have z_w2047 := E2049.size
    have hx := hx.keep0 E2049
    have ok := ok.keep0 E2049
    have oc := oc.keep0 E2049
    have ks : ∀ x9 ∈ K, Own w2047 0 5 1 x9.1 x9.2.length (x9.2.map u8v) := fun x9 hx9 => (ks x9 hx9).keep0 E2049
    have hk := hk.keep0 E2049
    have hrest := hrest.keepG (Gr.of0 E2049 NoB) (fun _ _ h => h) (NoK.no _)
    have hB1946 := hB1946.keep0 E2049
    have hT1962 := hT1962.keepG (Gr.of0 E2049 NoB) (fun _ _ h => h) (NoK.no _)
    have hT2_1962 := hT2_1962.keepG (Gr.of0 E2049 NoB) (fun _ _ h => h) (NoK.no _)
    have hu1962 := hu1962.keep0 E2049
    have hB1991 := hB1991.keep0 E2049
    have hb := hb.step0 E2049
    refine ktk_end (G := fun t9 w' => 21 ∈ t9 → (Bx w' p 115 [(Value.slice none 0 0), kv, cv])) (todo := [9, 17, 18, 21]) (i := 17) rfl (fun _ => hx) ?_
    refine ktk_step (rs := [9]) (by kernel_rfl) ?_
    refine one_mem ?_
    intro w2055 E2055 _ a2055 hN2055 hbs2055 hdp2055 o_ ho_; obtain rfl := Option.some.inj ho_
    have z_w2055 := E2055.size
    have hx := hx.keep0 E2055
    have ok := ok.keep0 E2055
    have oc := oc.keep0 E2055
    have ks : ∀ x9 ∈ K, Own w2055 0 5 1 x9.1 x9.2.length (x9.2.map u8v) := fun x9 hx9 => (ks x9 hx9).keep0 E2055
    have hk := hk.keep0 E2055
    have hrest := hrest.keepG (Gr.of0 E2055 NoB) (fun _ _ h => h) (NoK.no _)
    have hB1946 := hB1946.keep0 E2055
    have hT1962 := hT1962.keepG (Gr.of0 E2055 NoB) (fun _ _ h => h) (NoK.no _)
    have hT2_1962 := hT2_1962.keepG (Gr.of0 E2055 NoB) (fun _ _ h => h) (NoK.no _)
    have hu1962 := hu1962.keep0 E2055
    have hB1991 := hB1991.keep0 E2055
    have hB2050 := hB2050.keep0 E2055
    have hb := hb.step0 E2055
    have q2055_66 : Sl a2055 66 kv := (hdp2055 5 _ 66 (by kernel_rfl) rfl rfl).2 rfl
    have q2055_67 : Sl a2055 67 (Value.int .i64 (((way (K.map Prod.snd) k) : Nat) : Int)) := (hdp2055 6 _ 67 (by kernel_rfl) rfl rfl).2 rfl
    have q2055_69 : Sl a2055 69 (Value.slice (some ⟨b1989, 0, none⟩) 1 1) := (Option.some.inj ((hdp2055 8 _ 69 (by kernel_rfl) rfl rfl).1 rfl)).symm
    refine op_fn (vs := [kv, (Value.int .i64 (((way (K.map Prod.snd) k) : Nat) : Int)), (Value.slice (some ⟨b1989, 0, none⟩) 1 1)]) ok67 ⟨(ev_base hN2055 rfl q2055_66), ⟨(ev_base hN2055 rfl q2055_67), ⟨(ev_base hN2055 rfl q2055_69), trivial⟩⟩⟩ (InsK ok hB1991 (one_kd ks (fun _ h => h)) (by simp only [List.all_cons, List.all_nil, Bool.true_and, Bool.and_true, hu1962.one]; try rfl) (by first | omega | (simp only [List.length_insertIdx, List.length_set, List.length_drop, List.length_take]; omega) | (simp; omega)) (by first | omega | (simp only [List.length_insertIdx, List.length_set, List.length_drop, List.length_take]; omega) | (simp; omega)) ne_b1989_kv) ?_
    rintro v2056 w2057 ⟨E2058, hO2056, hm2056⟩
    have dj2059 : Dj G0 (Bl v2056) := Dj.step hm2056 (fun k hk => (hrest.lt k hk).2) djkG.symm
    have dj2060 : Dj W1_1962 (Bl v2056) := Dj.step hm2056 (fun k hk => (hT1962.lt k hk).2) dj1972.symm
    have dj2061 : Dj W2_1962 (Bl v2056) := Dj.step hm2056 (fun k hk => (hT2_1962.lt k hk).2) dj1978.symm
    have hin2062 := inF_step (n := w.heap.size) hm2056 (by omega) (fun k _ h => hNd.wk k h)
    have z_w2057 := E2058.size
    have hx := hx.keepO ok E2058 (by decide)
    have oc := oc.keepT ok E2058 (by decide)
    have ks : ∀ x9 ∈ K, Own w2057 0 5 1 x9.1 x9.2.length (x9.2.map u8v) := fun x9 hx9 => (ks x9 hx9).keepT ok E2058 (by decide)
    have hk := hk.keepT ok E2058 (by decide)
    have hrest := hrest.keepG (Gr.of E2058) djkG.symm (NoK.ofOwn ok (by decide))
    have hB1946 := hB1946.keepO ok E2058 (by decide)
    have hT1962 := hT1962.keepG (Gr.of E2058) dj1972.symm (NoK.ofOwn ok (by decide))
    have hT2_1962 := hT2_1962.keepG (Gr.of E2058) dj1978.symm (NoK.ofOwn ok (by decide))
    have hu1962 := hu1962.keepT ok E2058 (by decide)
    have hB1991 := hB1991.keep E2058 (fun hh => ne_b1989_kv hh.symm)
    have hB2050 := hB2050.keepO ok E2058 (by decide)
    have hb := hb.stepL E2058 (fun k _ h => hNd.wk k h)
    have hO2056 : Own w2057 0 27 1 v2056 (K.insertIdx (way (K.map Prod.snd) k) (u1962, y1962)).length ((K.insertIdx (way (K.map Prod.snd) k) (u1962, y1962)).flatMap cK) := hO2056.cast (by rw [List.length_insertIdx, if_pos (by first | omega | (simp only [List.length_insertIdx, List.length_set, List.length_drop, List.length_take]; omega) | (simp; omega))]) (flat_ins cK_len (u1962, y1962) (by first | omega | (simp only [List.length_insertIdx, List.length_set, List.length_drop, List.length_take]; omega) | (simp; omega)))
    refine ktk_end (G := fun t9 w' => 21 ∈ t9 → (Bx w' p 115 [(Value.slice none 0 0), kv, cv])) (todo := [9, 18, 21]) (i := 9) rfl (fun _ => hx) ?_
    refine ktk_step (rs := [18]) (by kernel_rfl) ?_
    refine one_mem ?_
    intro w2064 E2064 _ a2064 hN2064 hbs2064 hdp2064 o_ ho_; obtain rfl := Option.some.inj ho_
    have z_w2064 := E2064.size
    have hx := hx.keep0 E2064
    have oc := oc.keep0 E2064
    have ks : ∀ x9 ∈ K, Own w2064 0 5 1 x9.1 x9.2.length (x9.2.map u8v) := fun x9 hx9 => (ks x9 hx9).keep0 E2064
    have hk := hk.keep0 E2064
    have hrest := hrest.keepG (Gr.of0 E2064 NoB) (fun _ _ h => h) (NoK.no _)
    have hB1946 := hB1946.keep0 E2064
    have hT1962 := hT1962.keepG (Gr.of0 E2064 NoB) (fun _ _ h => h) (NoK.no _)
    have hT2_1962 := hT2_1962.keepG (Gr.of0 E2064 NoB) (fun _ _ h => h) (NoK.no _)
    have hu1962 := hu1962.keep0 E2064
    have hB1991 := hB1991.keep0 E2064
    have hB2050 := hB2050.keep0 E2064
    have hO2056 := hO2056.keep0 E2064
    have hb := hb.step0 E2064
    have q2064_74 : Sl a2064 74 cv := (hdp2064 13 _ 74 (by kernel_rfl) rfl rfl).2 rfl
    have q2064_76 : Sl a2064 76 (Value.int .i64 ((((way (K.map Prod.snd) k) : Nat) : Int) + 1)) := (hdp2064 15 _ 76 (by kernel_rfl) rfl rfl).2 rfl
    have q2064_78 : Sl a2064 78 (Value.slice (some ⟨b2048, 0, none⟩) 1 1) := (Option.some.inj ((hdp2064 17 _ 78 (by kernel_rfl) rfl rfl).1 rfl)).symm
    refine op_fn (vs := [cv, (Value.int .i64 ((((way (K.map Prod.snd) k) : Nat) : Int) + 1)), (Value.slice (some ⟨b2048, 0, none⟩) 1 1)]) ok85 ⟨(ev_base hN2064 rfl q2064_74), ⟨(ev_base hN2064 rfl q2064_76), ⟨(ev_base hN2064 rfl q2064_78), trivial⟩⟩⟩ (InsNI oc hB2050 (one_pn _) rfl (by first | omega | (simp only [List.length_insertIdx, List.length_set, List.length_drop, List.length_take]; omega) | (simp; omega)) (by first | omega | (simp only [List.length_insertIdx, List.length_set, List.length_drop, List.length_take]; omega) | (simp; omega)) ne_b2048_cv) ?_
    rintro v2065 w2066 ⟨E2067, hO2065, hm2065⟩
    have dj2068 : Dj G0 (Bl v2065) := Dj.step hm2065 (fun k hk => (hrest.lt k hk).2) djcG.symm
    have dj2069 : Dj W1_1962 (Bl v2065) := Dj.step hm2065 (fun k hk => (hT1962.lt k hk).2) dj1973.symm
    have dj2070 : Dj W2_1962 (Bl v2065) := Dj.step hm2065 (fun k hk => (hT2_1962.lt k hk).2) dj1979.symm
    have hin2071 := inF_step (n := w.heap.size) hm2065 (by omega) (fun k _ h => hNd.wc k h)
    have z_w2066 := E2067.size
    have hx := hx.keepO oc E2067 (by decide)
    have ks : ∀ x9 ∈ K, Own w2066 0 5 1 x9.1 x9.2.length (x9.2.map u8v) := fun x9 hx9 => (ks x9 hx9).keepT oc E2067 (by decide)
    have hk := hk.keepT oc E2067 (by decide)
    have hrest := hrest.keepG (Gr.of E2067) djcG.symm (NoK.ofOwn oc (by decide))
    have hB1946 := hB1946.keepO oc E2067 (by decide)
    have hT1962 := hT1962.keepG (Gr.of E2067) dj1973.symm (NoK.ofOwn oc (by decide))
    have hT2_1962 := hT2_1962.keepG (Gr.of E2067) dj1979.symm (NoK.ofOwn oc (by decide))
    have hu1962 := hu1962.keepT oc E2067 (by decide)
    have hB1991 := hB1991.keepO oc E2067 (by decide)
    have hB2050 := hB2050.keep E2067 (fun hh => ne_b2048_cv hh.symm)
    have hO2056 := hO2056.keepT oc E2067 (by decide)
    have hb := hb.stepL E2067 (fun k _ h => hNd.wc k h)
    have hO2065 : Own w2066 0 69 1 v2065 (P.insertIdx (((way (K.map Prod.snd) k)) + 1) q1962).length ((P.insertIdx (((way (K.map Prod.snd) k)) + 1) q1962).flatMap cN) := hO2065.cast (by rw [List.length_insertIdx, if_pos (by first | omega | (simp only [List.length_insertIdx, List.length_set, List.length_drop, List.length_take]; omega) | (simp; omega))]) (flat_ins cN_len q1962 (by first | omega | (simp only [List.length_insertIdx, List.length_set, List.length_drop, List.length_take]; omega) | (simp; omega)))
    refine ktk_end (G := fun t9 w' => 21 ∈ t9 → (Bx w' p 115 [(Value.slice none 0 0), kv, cv])) (todo := [18, 21]) (i := 18) rfl (fun _ => hx) ?_
    refine ktk_step (rs := [21]) (by kernel_rfl) ?_
    refine one_mem ?_
    intro w2073 E2073 _ a2073 hN2073 hbs2073 hdp2073 o_ ho_; obtain rfl := Option.some.inj ho_
    have z_w2073 := E2073.size
    have hx := hx.keep0 E2073
    have ks : ∀ x9 ∈ K, Own w2073 0 5 1 x9.1 x9.2.length (x9.2.map u8v) := fun x9 hx9 => (ks x9 hx9).keep0 E2073
    have hk := hk.keep0 E2073
    have hrest := hrest.keepG (Gr.of0 E2073 NoB) (fun _ _ h => h) (NoK.no _)
    have hB1946 := hB1946.keep0 E2073
    have hT1962 := hT1962.keepG (Gr.of0 E2073 NoB) (fun _ _ h => h) (NoK.no _)
    have hT2_1962 := hT2_1962.keepG (Gr.of0 E2073 NoB) (fun _ _ h => h) (NoK.no _)
    have hu1962 := hu1962.keep0 E2073
    have hB1991 := hB1991.keep0 E2073
    have hB2050 := hB2050.keep0 E2073
    have hO2056 := hO2056.keep0 E2073
    have hO2065 := hO2065.keep0 E2073
    have hb := hb.step0 E2073
    have q2073_81 : Sl a2073 81 (ptr p 1) := (hdp2073 20 _ 81 (by kernel_rfl) rfl rfl).2 rfl
    have q2073_70 : Sl a2073 70 v2056 := (Option.some.inj ((hdp2073 9 _ 70 (by kernel_rfl) rfl rfl).1 rfl)).symm
    have hx_old := hx
    refine op_store (vs := [v2056]) (cs' := [(Value.slice none 0 0), v2056, cv]) size90 (ev_base hN2073 rfl q2073_81) (ev_base hN2073 rfl q2073_70) hO2056.cl rfl (by simp only [List.all_cons, List.all_nil, Bool.true_and, Bool.and_true, hO2056.one]; try rfl) hx (Nat.le_of_ble_eq_true rfl) rfl ?_
    intro w2076 hx E2077
    have z_w2076 := E2077.size
    have ks : ∀ x9 ∈ K, Own w2076 0 5 1 x9.1 x9.2.length (x9.2.map u8v) := fun x9 hx9 => (ks x9 hx9).keepX hx_old E2077 (by decide)
    have hk := hk.keepX hx_old E2077 (by decide)
    have hrest := hrest.keepG (Gr.of E2077) (Dj.one djpG) (NoK.ofBx hx_old (by decide))
    have hB1946 := hB1946.keep E2077 (fun hh => hB1946.ne hx_old (by decide) (Option.some.inj hh))
    have hT1962 := hT1962.keepG (Gr.of E2077) (Dj.one dj1971) (NoK.ofBx hx_old (by decide))
    have hT2_1962 := hT2_1962.keepG (Gr.of E2077) (Dj.one dj1977) (NoK.ofBx hx_old (by decide))
    have hu1962 := hu1962.keepX hx_old E2077 (by decide)
    have hB1991 := hB1991.keep E2077 (fun hh => hB1991.ne hx_old (by decide) (Option.some.inj hh))
    have hB2050 := hB2050.keep E2077 (fun hh => hB2050.ne hx_old (by decide) (Option.some.inj hh))
    have hO2056 := hO2056.keepX hx_old E2077 (by decide)
    have hO2065 := hO2065.keepX hx_old E2077 (by decide)
    have hb := hb.stepB E2077 hNd.wp
    refine ktk_end0 (G := fun t9 w' => 21 ∈ t9 → (Bx w' p 115 [(Value.slice none 0 0), kv, cv])) (todo := [21]) (i := 21) rfl (fun h => absurd h (by decide)) ?_
    intro w2078 E2078 a2078 hN2078 hd2078 hbs2078 hph2078
    have hd2078 := hd2078.trans ((by simp only [putsL_defers] : _ = _).trans hd)
    have z_w2078 := E2078.size
    have ks : ∀ x9 ∈ K, Own w2078 0 5 1 x9.1 x9.2.length (x9.2.map u8v) := fun x9 hx9 => (ks x9 hx9).keep0 E2078
    have hk := hk.keep0 E2078
    have hrest := hrest.keepG (Gr.of0 E2078 NoB) (fun _ _ h => h) (NoK.no _)
    have hB1946 := hB1946.keep0 E2078
    have hT1962 := hT1962.keepG (Gr.of0 E2078 NoB) (fun _ _ h => h) (NoK.no _)
    have hT2_1962 := hT2_1962.keepG (Gr.of0 E2078 NoB) (fun _ _ h => h) (NoK.no _)
    have hu1962 := hu1962.keep0 E2078
    have hB1991 := hB1991.keep0 E2078
    have hB2050 := hB2050.keep0 E2078
    have hO2056 := hO2056.keep0 E2078
    have hO2065 := hO2065.keep0 E2078
    have hx := hx.keep0 E2078
    have hb := hb.step0 E2078
    have s2078_0 := (hbs2078 0 rfl).trans (sl_base hN rfl s0)
    have s2078_4 := (hbs2078 4 rfl).trans (sl_hit hN rfl)
    have s2078_5 := (hbs2078 5 rfl).trans (sl_hit hN rfl)
    have s2078_6 := (hbs2078 6 rfl).trans (sl_hit hN rfl)
    have s2078_62 : Sl a2078 62 (ptr p 0) := (hph2078 1 _ 62 rfl rfl).2 rfl
    have s2078_79 : Sl a2078 79 v2065 := (Option.some.inj ((hph2078 18 _ 79 rfl rfl).1 rfl)).symm
    refine split_end ?_
    refine from_seq (tl := [_, _, _]) (by decide) (by kernel_rfl) rfl ?_
    refine op_nil (ev_base hN2078 rfl s2078_62) ?_
    refine op_field fld115_2 (ev_hit hN2078 rfl) ?_
    have hx_old := hx
    refine op_store (vs := [v2065]) (cs' := [(Value.slice none 0 0), v2056, v2065]) size113 (ev_hit hN2078 rfl) (ev_base hN2078 rfl s2078_79) hO2065.cl rfl (by simp only [List.all_cons, List.all_nil, Bool.true_and, Bool.and_true, hO2065.one]; try rfl) hx (Nat.le_of_ble_eq_true rfl) rfl ?_
    intro w2081 hx E2082
    have z_w2081 := E2082.size
    have ks : ∀ x9 ∈ K, Own w2081 0 5 1 x9.1 x9.2.length (x9.2.map u8v) := fun x9 hx9 => (ks x9 hx9).keepX hx_old E2082 (by decide)
    have hk := hk.keepX hx_old E2082 (by decide)
    have hrest := hrest.keepG (Gr.of E2082) (Dj.one djpG) (NoK.ofBx hx_old (by decide))
    have hB1946 := hB1946.keep E2082 (fun hh => hB1946.ne hx_old (by decide) (Option.some.inj hh))
    have hT1962 := hT1962.keepG (Gr.of E2082) (Dj.one dj1971) (NoK.ofBx hx_old (by decide))
    have hT2_1962 := hT2_1962.keepG (Gr.of E2082) (Dj.one dj1977) (NoK.ofBx hx_old (by decide))
    have hu1962 := hu1962.keepX hx_old E2082 (by decide)
    have hB1991 := hB1991.keep E2082 (fun hh => hB1991.ne hx_old (by decide) (Option.some.inj hh))
    have hB2050 := hB2050.keep E2082 (fun hh => hB2050.ne hx_old (by decide) (Option.some.inj hh))
    have hO2056 := hO2056.keepX hx_old E2082 (by decide)
    have hO2065 := hO2065.keepX hx_old E2082 (by decide)
    have hb := hb.stepB E2082 hNd.wp
    refine reg_nil ?_
    refine hK1949 _ _ ?_
    refine seq_any fun K2083 hK2083 => ?_
    refine one_reg ?_
    have hl1 : (K.insertIdx (way (K.map Prod.snd) k) (u1962, y1962)).length = K.length + 1 := by rw [List.length_insertIdx, if_pos hwl]
    have hl2 : (P.insertIdx (((way (K.map Prod.snd) k)) + 1) q1962).length = P.length + 1 := by rw [List.length_insertIdx, if_pos (by omega)]
    have ks2084 : ∀ x9 ∈ (K.insertIdx (way (K.map Prod.snd) k) (u1962, y1962)), Own w2081 0 5 1 x9.1 x9.2.length (x9.2.map u8v) := kks_ins ks hu1962 hwl
    refine op_move (ev_base hN2078 rfl s2078_0) ?_
    rcases Bool.eq_false_or_eq_true (decide ((K.insertIdx (way (K.map Prod.snd) k) (u1962, y1962)).length ≤ 6)) with k86 | k86
    · -- 86T
     refine op_fn (vs := [(ptr p 0)]) ok86 ⟨(ev_hit hN2078 rfl), trivial⟩ (Ret.flip (halvesNsI hx hO2056 hO2065 (by first | omega | (simp only [List.length_insertIdx, List.length_set, List.length_drop, List.length_take]; omega) | (simp; omega)) (of_decide_eq_true k86))) ?_
     rintro _ _ ⟨rfl, rfl⟩
     refine op_move (ev_hit hN2078 rfl) ?_
     refine op_extract (ev_hit hN2078 rfl) rfl ?_
     refine op_extract (ev_hit hN2078 rfl) rfl ?_
     refine op_assign (ev_hit hN2078 rfl) ?_
     refine op_assign (ev_hit hN2078 rfl) ?_
     refine reg_nil ?_
     refine hK2083 _ _ ?_
     refine seq_any fun K2085 hK2085 => ?_
     refine one_reg ?_
     refine op_move (ev_base hN2078 rfl s2078_4) ?_
     refine op_move (ev_hit hN2078 rfl) ?_
     refine op_move (ev_hit hN2078 rfl) ?_
     refine op_assign (ev_hit hN2078 rfl) ?_
     refine op_assign (ev_hit hN2078 rfl) ?_
     refine op_assign (ev_hit hN2078 rfl) ?_
     refine reg_nil ?_
     refine hK2085 _ _ ?_
     refine wp_ret ?_
     refine retN (rs := [.tmp 4, .tmp 5, .tmp 6]) (vs := [(Value.bool (putT h k x c).1), (Value.slice none 0 0), (Value.pointer none)]) rfl hd2078 ⟨(ev_hit hN2078 rfl), ⟨(ev_hit hN2078 rfl), ⟨(ev_hit hN2078 rfl), trivial⟩⟩⟩ rfl ⟨_, rfl, ?_⟩
     -- path 55T 86T
     exact ⟨hb, _, _, by rw [(put_some (u := u1962) hc hr1962 hwl)]; rfl, out_node_small (K := (K.insertIdx (way (K.map Prod.snd) k) (u1962, y1962))) (ts := ((cs.set (way (K.map Prod.snd) k) (putT h k x c).2.1).insertIdx ((way (K.map Prod.snd) k) + 1) t2_1962)) ((congrArg Prod.snd (put_some (u := u1962) hc hr1962 hwl)).trans (halves_nsmall (by simpa using of_decide_eq_true k86))) hx hO2056 hO2065 ks2084 (kks_ins hNd.kr hur1962 hwl) (Kids.ins (i := (way (K.map Prod.snd) k) + 1) (Kids.back1 (i := (way (K.map Prod.snd) k)) (A := TreeR kI R w2081 h) hrest hPc hic hT1962 dj1975.symm) (by rw [List.length_set]; omega) hT2_1962 (fun k h1 h2 => h2.elim (hd1962.symm k h1) (dj1981.symm k h1))) (fun h9 => h9.elim (fun h8 => dj1977 h8) (fun h8 => h8.elim (fun h8 => dj1971 h8) (fun h8 => djpG h8))) (fun j hj h9 => h9.elim (fun h8 => dj2061.symm j hj h8) (fun h8 => h8.elim (fun h8 => dj2060.symm j hj h8) (fun h8 => dj2059.symm j hj h8))) (fun j hj h9 => h9.elim (fun h8 => dj2070.symm j hj h8) (fun h8 => h8.elim (fun h8 => dj2069.symm j hj h8) (fun h8 => dj2068.symm j hj h8))) (nodeW_in (fun _ => hNd.wp) hin2062 hin2071 (fun j hj h9 => h9.elim (fun h8 => hin1984 j hj h8) (fun h8 => h8.elim (fun h8 => hin1983 j hj h8) (fun h8 => (fun j _ q => hNd.wg j (hGs j q)) j hj h8))))⟩
    · -- 86F
     refine op_fn (vs := [(ptr p 0)]) ok86 ⟨(ev_hit hN2078 rfl), trivial⟩ (halvesNbI hx hO2056 hO2065 ks2084 (by first | omega | (simp only [List.length_insertIdx, List.length_set, List.length_drop, List.length_take]; omega) | (simp; omega)) (by have := of_decide_eq_false k86; omega) (by first | omega | (simp only [List.length_insertIdx, List.length_set, List.length_drop, List.length_take]; omega) | (simp; omega))) ?_
     rintro _ w2087 ⟨E2088, q2086, qk2086, qc2086, rfl, hx2086, oa2086, ob2086, lo2086, hB2086, oc2086, od2086⟩
     have ht2089 := hx.lt
     have ht2090 := hO2056.lt
     have ht2091 := hO2065.lt
     have ht2092 := hrest.lt
     have ht2093 := hT1962.lt
     have ht2094 := hT2_1962.lt
     have E2088 := E2088.grown (row := some p) (fun k _ h => by rw [h])
     have hx_old := hx
     have z_w2087 := E2088.size
     have ks : ∀ x9 ∈ K, Own w2087 0 5 1 x9.1 x9.2.length (x9.2.map u8v) := fun x9 hx9 => (ks x9 hx9).keepX hx_old E2088 (by decide)
     have hk := hk.keepX hx_old E2088 (by decide)
     have hrest := hrest.keepG (Gr.of E2088) (Dj.one djpG) (NoK.ofBx hx_old (by decide))
     have hB1946 := hB1946.keep E2088 (fun hh => hB1946.ne hx_old (by decide) (Option.some.inj hh))
     have hT1962 := hT1962.keepG (Gr.of E2088) (Dj.one dj1971) (NoK.ofBx hx_old (by decide))
     have hT2_1962 := hT2_1962.keepG (Gr.of E2088) (Dj.one dj1977) (NoK.ofBx hx_old (by decide))
     have hu1962 := hu1962.keepX hx_old E2088 (by decide)
     have hB1991 := hB1991.keep E2088 (fun hh => hB1991.ne hx_old (by decide) (Option.some.inj hh))
     have hB2050 := hB2050.keep E2088 (fun hh => hB2050.ne hx_old (by decide) (Option.some.inj hh))
     have ks2084 : ∀ x9 ∈ (K.insertIdx (way (K.map Prod.snd) k) (u1962, y1962)), Own w2087 0 5 1 x9.1 x9.2.length (x9.2.map u8v) := fun x9 hx9 => (ks2084 x9 hx9).keepX hx_old E2088 (by decide)
     have hb := hb.stepB E2088 hNd.wp
     refine op_move (ev_hit hN2078 rfl) ?_
     refine op_extract (ev_hit hN2078 rfl) rfl ?_
     refine op_extract (ev_hit hN2078 rfl) rfl ?_
     refine op_assign (ev_hit hN2078 rfl) ?_
     refine op_assign (ev_hit hN2078 rfl) ?_
     refine reg_nil ?_
     refine hK2083 _ _ ?_
     refine seq_any fun K2095 hK2095 => ?_
     refine one_reg ?_
     refine op_move (ev_base hN2078 rfl s2078_4) ?_
     refine op_move (ev_hit hN2078 rfl) ?_
     refine op_move (ev_hit hN2078 rfl) ?_
     refine op_assign (ev_hit hN2078 rfl) ?_
     refine op_assign (ev_hit hN2078 rfl) ?_
     refine op_assign (ev_hit hN2078 rfl) ?_
     refine reg_nil ?_
     refine hK2095 _ _ ?_
     refine wp_ret ?_
     refine retN (rs := [.tmp 4, .tmp 5, .tmp 6]) (vs := [(Value.bool (putT h k x c).1), ((K.insertIdx (way (K.map Prod.snd) k) (u1962, y1962)).getD ((K.insertIdx (way (K.map Prod.snd) k) (u1962, y1962)).length / 2) default).1, (ptr q2086 0)]) rfl hd2078 ⟨(ev_hit hN2078 rfl), ⟨(ev_hit hN2078 rfl), ⟨(ev_hit hN2078 rfl), trivial⟩⟩⟩ rfl ⟨_, rfl, ?_⟩
     -- path 55T 86F
     exact ⟨hb, _, _, by rw [(put_some (u := u1962) hc hr1962 hwl)]; rfl, out_node_big (K := (K.insertIdx (way (K.map Prod.snd) k) (u1962, y1962))) (ts := ((cs.set (way (K.map Prod.snd) k) (putT h k x c).2.1).insertIdx ((way (K.map Prod.snd) k) + 1) t2_1962)) ((congrArg Prod.snd (put_some (u := u1962) hc hr1962 hwl)).trans (halves_nbig (by have := of_decide_eq_false k86; omega))) (by have := of_decide_eq_false k86; omega) hx2086 oa2086 ob2086 hB2086 oc2086 od2086 lo2086 (by omega) ks2084 (kks_ins hNd.kr hur1962 hwl) (Kids.ins (i := (way (K.map Prod.snd) k) + 1) (Kids.back1 (i := (way (K.map Prod.snd) k)) (A := TreeR kI R w2087 h) hrest hPc hic hT1962 dj1975.symm) (by rw [List.length_set]; omega) hT2_1962 (fun k h1 h2 => h2.elim (hd1962.symm k h1) (dj1981.symm k h1))) (fun h9 => h9.elim (fun h8 => dj1977 h8) (fun h8 => h8.elim (fun h8 => dj1971 h8) (fun h8 => djpG h8))) (fun j hj h9 => h9.elim (fun h8 => dj2061.symm j ((hiV_ob _ _).symm.trans hj) h8) (fun h8 => h8.elim (fun h8 => dj2060.symm j ((hiV_ob _ _).symm.trans hj) h8) (fun h8 => dj2059.symm j ((hiV_ob _ _).symm.trans hj) h8))) (fun j hj h9 => h9.elim (fun h8 => dj2070.symm j ((hiV_ob _ _).symm.trans hj) h8) (fun h8 => h8.elim (fun h8 => dj2069.symm j ((hiV_ob _ _).symm.trans hj) h8) (fun h8 => dj2068.symm j ((hiV_ob _ _).symm.trans hj) h8))) (nodeW_in (fun _ => hNd.wp) (inF_step (n := w.heap.size) (.inl (hiV_ob _ _)) (Nat.le_refl _) hin2062) (inF_step (n := w.heap.size) (.inl (hiV_ob _ _)) (Nat.le_refl _) hin2071) (fun j hj h9 => h9.elim (fun h8 => hin1984 j hj h8) (fun h8 => h8.elim (fun h8 => hin1983 j hj h8) (fun h8 => (fun j _ q => hNd.wg j (hGs j q)) j hj h8)))) (nodeW_lt ht2089 (fun j h9 => (ht2090 j ((hiV_ob _ _).symm.trans h9)).2) (fun j h9 => (ht2091 j ((hiV_ob _ _).symm.trans h9)).2) (fun j h9 => h9.elim (fun h8 => (ht2094 j h8).2) (fun h8 => h8.elim (fun h8 => (ht2093 j h8).2) (fun h8 => (ht2092 j h8).2))))⟩
   refine one_mem ?_
   intro w2096 E2096 _ a2096 hN2096 hbs2096 hdp2096 o_ ho_; obtain rfl := Option.some.inj ho_
   have z_w2096 := E2096.size
   have hx := hx.keep0 E2096
   have ok := ok.keep0 E2096
   have oc := oc.keep0 E2096
   have ks : ∀ x9 ∈ K, Own w2096 0 5 1 x9.1 x9.2.length (x9.2.map u8v) := fun x9 hx9 => (ks x9 hx9).keep0 E2096
   have hk := hk.keep0 E2096
   have hrest := hrest.keepG (Gr.of0 E2096 NoB) (fun _ _ h => h) (NoK.no _)
   have hB1946 := hB1946.keep0 E2096
   have hT1962 := hT1962.keepG (Gr.of0 E2096 NoB) (fun _ _ h => h) (NoK.no _)
   have hT2_1962 := hT2_1962.keepG (Gr.of0 E2096 NoB) (fun _ _ h => h) (NoK.no _)
   have hu1962 := hu1962.keep0 E2096
   have hb := hb.step0 E2096
   have q2096_77 : Sl a2096 77 (ptr q1962 0) := (hdp2096 16 _ 77 (by kernel_rfl) rfl rfl).2 rfl
   refine op_bslice (e := 69) (pv := [(0, (ptr q1962 0))]) (cs := [(ptr q1962 0)]) ⟨rfl, (ev_base hN2096 rfl q2096_77), trivial⟩ (by kernel_rfl) ?_
   intro w2097 b2098 lo_b2098 hi_b2098 hB2100 E2099
   have dj2101 : ¬ G0 b2098 := fun hf => by have := (hrest.lt _ hf).2; omega
   have dj2102 : ¬ W1_1962 b2098 := fun hf => by have := (hT1962.lt _ hf).2; omega
   have dj2103 : ¬ W2_1962 b2098 := fun hf => by have := (hT2_1962.lt _ hf).2; omega
   have ne_b2098_cv : cv.ownBlock ≠ some b2098 := fun hh => by have := (oc.lt _ hh).2; omega
   have z_w2097 := E2099.size
   have hx := hx.keep0 E2099
   have ok := ok.keep0 E2099
   have oc := oc.keep0 E2099
   have ks : ∀ x9 ∈ K, Own w2097 0 5 1 x9.1 x9.2.length (x9.2.map u8v) := fun x9 hx9 => (ks x9 hx9).keep0 E2099
   have hk := hk.keep0 E2099
   have hrest := hrest.keepG (Gr.of0 E2099 NoB) (fun _ _ h => h) (NoK.no _)
   have hB1946 := hB1946.keep0 E2099
   have hT1962 := hT1962.keepG (Gr.of0 E2099 NoB) (fun _ _ h => h) (NoK.no _)
   have hT2_1962 := hT2_1962.keepG (Gr.of0 E2099 NoB) (fun _ _ h => h) (NoK.no _)
   have hu1962 := hu1962.keep0 E2099
   have hb := hb.step0 E2099
   refine ktk_end (G := fun t9 w' => 21 ∈ t9 → (Bx w' p 115 [(Value.slice none 0 0), kv, cv])) (todo := [8, 9, 17, 18, 21]) (i := 17) rfl (fun _ => hx) ?_
   refine ktk_step (rs := [8]) (by kernel_rfl) ?_
   refine one_mem ?_
   intro w2105 E2105 _ a2105 hN2105 hbs2105 hdp2105 o_ ho_; obtain rfl := Option.some.inj ho_
   have z_w2105 := E2105.size
   have hx := hx.keep0 E2105
   have ok := ok.keep0 E2105
   have oc := oc.keep0 E2105
   have ks : ∀ x9 ∈ K, Own w2105 0 5 1 x9.1 x9.2.length (x9.2.map u8v) := fun x9 hx9 => (ks x9 hx9).keep0 E2105
   have hk := hk.keep0 E2105
   have hrest := hrest.keepG (Gr.of0 E2105 NoB) (fun _ _ h => h) (NoK.no _)
   have hB1946 := hB1946.keep0 E2105
   have hT1962 := hT1962.keepG (Gr.of0 E2105 NoB) (fun _ _ h => h) (NoK.no _)
   have hT2_1962 := hT2_1962.keepG (Gr.of0 E2105 NoB) (fun _ _ h => h) (NoK.no _)
   have hu1962 := hu1962.keep0 E2105
   have hB2100 := hB2100.keep0 E2105
   have hb := hb.step0 E2105
   have q2105_68 : Sl a2105 68 u1962 := (hdp2105 7 _ 68 (by kernel_rfl) rfl rfl).2 rfl
   refine op_bslice (e := 27) (pv := [(0, u1962)]) (cs := [u1962]) ⟨rfl, (ev_base hN2105 rfl q2105_68), trivial⟩ (by obtain ⟨_, _, _, rfl⟩ := hu1962.sl; kernel_rfl) ?_
   intro w2106 b2107 lo_b2107 hi_b2107 hB2109 E2108
   have dj2110 : ¬ G0 b2107 := fun hf => by have := (hrest.lt _ hf).2; omega
   have dj2111 : ¬ W1_1962 b2107 := fun hf => by have := (hT1962.lt _ hf).2; omega
   have dj2112 : ¬ W2_1962 b2107 := fun hf => by have := (hT2_1962.lt _ hf).2; omega
   have ne_b2107_kv : kv.ownBlock ≠ some b2107 := fun hh => by have := (ok.lt _ hh).2; omega
   have z_w2106 := E2108.size
   have hx := hx.keep0 E2108
   have ok := ok.keep0 E2108
   have oc := oc.keep0 E2108
   have ks : ∀ x9 ∈ K, Own w2106 0 5 1 x9.1 x9.2.length (x9.2.map u8v) := fun x9 hx9 => (ks x9 hx9).keep0 E2108
   have hk := hk.keep0 E2108
   have hrest := hrest.keepG (Gr.of0 E2108 NoB) (fun _ _ h => h) (NoK.no _)
   have hB1946 := hB1946.keep0 E2108
   have hT1962 := hT1962.keepG (Gr.of0 E2108 NoB) (fun _ _ h => h) (NoK.no _)
   have hT2_1962 := hT2_1962.keepG (Gr.of0 E2108 NoB) (fun _ _ h => h) (NoK.no _)
   have hu1962 := hu1962.keep0 E2108
   have hB2100 := hB2100.keep0 E2108
   have hb := hb.step0 E2108
   refine ktk_end (G := fun t9 w' => 21 ∈ t9 → (Bx w' p 115 [(Value.slice none 0 0), kv, cv])) (todo := [8, 9, 18, 21]) (i := 8) rfl (fun _ => hx) ?_
   refine ktk_step (rs := [9]) (by kernel_rfl) ?_
   refine one_mem ?_
   intro w2114 E2114 _ a2114 hN2114 hbs2114 hdp2114 o_ ho_; obtain rfl := Option.some.inj ho_
   have z_w2114 := E2114.size
   have hx := hx.keep0 E2114
   have ok := ok.keep0 E2114
   have oc := oc.keep0 E2114
   have ks : ∀ x9 ∈ K, Own w2114 0 5 1 x9.1 x9.2.length (x9.2.map u8v) := fun x9 hx9 => (ks x9 hx9).keep0 E2114
   have hk := hk.keep0 E2114
   have hrest := hrest.keepG (Gr.of0 E2114 NoB) (fun _ _ h => h) (NoK.no _)
   have hB1946 := hB1946.keep0 E2114
   have hT1962 := hT1962.keepG (Gr.of0 E2114 NoB) (fun _ _ h => h) (NoK.no _)
   have hT2_1962 := hT2_1962.keepG (Gr.of0 E2114 NoB) (fun _ _ h => h) (NoK.no _)
   have hu1962 := hu1962.keep0 E2114
   have hB2100 := hB2100.keep0 E2114
   have hB2109 := hB2109.keep0 E2114
   have hb := hb.step0 E2114
   have q2114_66 : Sl a2114 66 kv := (hdp2114 5 _ 66 (by kernel_rfl) rfl rfl).2 rfl
   have q2114_67 : Sl a2114 67 (Value.int .i64 (((way (K.map Prod.snd) k) : Nat) : Int)) := (hdp2114 6 _ 67 (by kernel_rfl) rfl rfl).2 rfl
   have q2114_69 : Sl a2114 69 (Value.slice (some ⟨b2107, 0, none⟩) 1 1) := (Option.some.inj ((hdp2114 8 _ 69 (by kernel_rfl) rfl rfl).1 rfl)).symm
   refine op_fn (vs := [kv, (Value.int .i64 (((way (K.map Prod.snd) k) : Nat) : Int)), (Value.slice (some ⟨b2107, 0, none⟩) 1 1)]) ok67 ⟨(ev_base hN2114 rfl q2114_66), ⟨(ev_base hN2114 rfl q2114_67), ⟨(ev_base hN2114 rfl q2114_69), trivial⟩⟩⟩ (InsK ok hB2109 (one_kd ks (fun _ h => h)) (by simp only [List.all_cons, List.all_nil, Bool.true_and, Bool.and_true, hu1962.one]; try rfl) (by first | omega | (simp only [List.length_insertIdx, List.length_set, List.length_drop, List.length_take]; omega) | (simp; omega)) (by first | omega | (simp only [List.length_insertIdx, List.length_set, List.length_drop, List.length_take]; omega) | (simp; omega)) ne_b2107_kv) ?_
   rintro v2115 w2116 ⟨E2117, hO2115, hm2115⟩
   have dj2118 : Dj G0 (Bl v2115) := Dj.step hm2115 (fun k hk => (hrest.lt k hk).2) djkG.symm
   have dj2119 : Dj W1_1962 (Bl v2115) := Dj.step hm2115 (fun k hk => (hT1962.lt k hk).2) dj1972.symm
   have dj2120 : Dj W2_1962 (Bl v2115) := Dj.step hm2115 (fun k hk => (hT2_1962.lt k hk).2) dj1978.symm
   have hin2121 := inF_step (n := w.heap.size) hm2115 (by omega) (fun k _ h => hNd.wk k h)
   have z_w2116 := E2117.size
   have hx := hx.keepO ok E2117 (by decide)
   have oc := oc.keepT ok E2117 (by decide)
   have ks : ∀ x9 ∈ K, Own w2116 0 5 1 x9.1 x9.2.length (x9.2.map u8v) := fun x9 hx9 => (ks x9 hx9).keepT ok E2117 (by decide)
   have hk := hk.keepT ok E2117 (by decide)
   have hrest := hrest.keepG (Gr.of E2117) djkG.symm (NoK.ofOwn ok (by decide))
   have hB1946 := hB1946.keepO ok E2117 (by decide)
   have hT1962 := hT1962.keepG (Gr.of E2117) dj1972.symm (NoK.ofOwn ok (by decide))
   have hT2_1962 := hT2_1962.keepG (Gr.of E2117) dj1978.symm (NoK.ofOwn ok (by decide))
   have hu1962 := hu1962.keepT ok E2117 (by decide)
   have hB2100 := hB2100.keepO ok E2117 (by decide)
   have hB2109 := hB2109.keep E2117 (fun hh => ne_b2107_kv hh.symm)
   have hb := hb.stepL E2117 (fun k _ h => hNd.wk k h)
   have hO2115 : Own w2116 0 27 1 v2115 (K.insertIdx (way (K.map Prod.snd) k) (u1962, y1962)).length ((K.insertIdx (way (K.map Prod.snd) k) (u1962, y1962)).flatMap cK) := hO2115.cast (by rw [List.length_insertIdx, if_pos (by first | omega | (simp only [List.length_insertIdx, List.length_set, List.length_drop, List.length_take]; omega) | (simp; omega))]) (flat_ins cK_len (u1962, y1962) (by first | omega | (simp only [List.length_insertIdx, List.length_set, List.length_drop, List.length_take]; omega) | (simp; omega)))
   refine ktk_end (G := fun t9 w' => 21 ∈ t9 → (Bx w' p 115 [(Value.slice none 0 0), kv, cv])) (todo := [9, 18, 21]) (i := 9) rfl (fun _ => hx) ?_
   refine ktk_step (rs := [18]) (by kernel_rfl) ?_
   refine one_mem ?_
   intro w2123 E2123 _ a2123 hN2123 hbs2123 hdp2123 o_ ho_; obtain rfl := Option.some.inj ho_
   have z_w2123 := E2123.size
   have hx := hx.keep0 E2123
   have oc := oc.keep0 E2123
   have ks : ∀ x9 ∈ K, Own w2123 0 5 1 x9.1 x9.2.length (x9.2.map u8v) := fun x9 hx9 => (ks x9 hx9).keep0 E2123
   have hk := hk.keep0 E2123
   have hrest := hrest.keepG (Gr.of0 E2123 NoB) (fun _ _ h => h) (NoK.no _)
   have hB1946 := hB1946.keep0 E2123
   have hT1962 := hT1962.keepG (Gr.of0 E2123 NoB) (fun _ _ h => h) (NoK.no _)
   have hT2_1962 := hT2_1962.keepG (Gr.of0 E2123 NoB) (fun _ _ h => h) (NoK.no _)
   have hu1962 := hu1962.keep0 E2123
   have hB2100 := hB2100.keep0 E2123
   have hB2109 := hB2109.keep0 E2123
   have hO2115 := hO2115.keep0 E2123
   have hb := hb.step0 E2123
   have q2123_74 : Sl a2123 74 cv := (hdp2123 13 _ 74 (by kernel_rfl) rfl rfl).2 rfl
   have q2123_76 : Sl a2123 76 (Value.int .i64 ((((way (K.map Prod.snd) k) : Nat) : Int) + 1)) := (hdp2123 15 _ 76 (by kernel_rfl) rfl rfl).2 rfl
   have q2123_78 : Sl a2123 78 (Value.slice (some ⟨b2098, 0, none⟩) 1 1) := (Option.some.inj ((hdp2123 17 _ 78 (by kernel_rfl) rfl rfl).1 rfl)).symm
   refine op_fn (vs := [cv, (Value.int .i64 ((((way (K.map Prod.snd) k) : Nat) : Int) + 1)), (Value.slice (some ⟨b2098, 0, none⟩) 1 1)]) ok85 ⟨(ev_base hN2123 rfl q2123_74), ⟨(ev_base hN2123 rfl q2123_76), ⟨(ev_base hN2123 rfl q2123_78), trivial⟩⟩⟩ (InsNI oc hB2100 (one_pn _) rfl (by first | omega | (simp only [List.length_insertIdx, List.length_set, List.length_drop, List.length_take]; omega) | (simp; omega)) (by first | omega | (simp only [List.length_insertIdx, List.length_set, List.length_drop, List.length_take]; omega) | (simp; omega)) ne_b2098_cv) ?_
   rintro v2124 w2125 ⟨E2126, hO2124, hm2124⟩
   have dj2127 : Dj G0 (Bl v2124) := Dj.step hm2124 (fun k hk => (hrest.lt k hk).2) djcG.symm
   have dj2128 : Dj W1_1962 (Bl v2124) := Dj.step hm2124 (fun k hk => (hT1962.lt k hk).2) dj1973.symm
   have dj2129 : Dj W2_1962 (Bl v2124) := Dj.step hm2124 (fun k hk => (hT2_1962.lt k hk).2) dj1979.symm
   have hin2130 := inF_step (n := w.heap.size) hm2124 (by omega) (fun k _ h => hNd.wc k h)
   have z_w2125 := E2126.size
   have hx := hx.keepO oc E2126 (by decide)
   have ks : ∀ x9 ∈ K, Own w2125 0 5 1 x9.1 x9.2.length (x9.2.map u8v) := fun x9 hx9 => (ks x9 hx9).keepT oc E2126 (by decide)
   have hk := hk.keepT oc E2126 (by decide)
   have hrest := hrest.keepG (Gr.of E2126) djcG.symm (NoK.ofOwn oc (by decide))
   have hB1946 := hB1946.keepO oc E2126 (by decide)
   have hT1962 := hT1962.keepG (Gr.of E2126) dj1973.symm (NoK.ofOwn oc (by decide))
   have hT2_1962 := hT2_1962.keepG (Gr.of E2126) dj1979.symm (NoK.ofOwn oc (by decide))
   have hu1962 := hu1962.keepT oc E2126 (by decide)
   have hB2100 := hB2100.keep E2126 (fun hh => ne_b2098_cv hh.symm)
   have hB2109 := hB2109.keepO oc E2126 (by decide)
   have hO2115 := hO2115.keepT oc E2126 (by decide)
   have hb := hb.stepL E2126 (fun k _ h => hNd.wc k h)
   have hO2124 : Own w2125 0 69 1 v2124 (P.insertIdx (((way (K.map Prod.snd) k)) + 1) q1962).length ((P.insertIdx (((way (K.map Prod.snd) k)) + 1) q1962).flatMap cN) := hO2124.cast (by rw [List.length_insertIdx, if_pos (by first | omega | (simp only [List.length_insertIdx, List.length_set, List.length_drop, List.length_take]; omega) | (simp; omega))]) (flat_ins cN_len q1962 (by first | omega | (simp only [List.length_insertIdx, List.length_set, List.length_drop, List.length_take]; omega) | (simp; omega)))
   refine ktk_end (G := fun t9 w' => 21 ∈ t9 → (Bx w' p 115 [(Value.slice none 0 0), kv, cv])) (todo := [18, 21]) (i := 18) rfl (fun _ => hx) ?_
   refine ktk_step (rs := [21]) (by kernel_rfl) ?_
   refine one_mem ?_
   intro w2132 E2132 _ a2132 hN2132 hbs2132 hdp2132 o_ ho_; obtain rfl := Option.some.inj ho_
   have z_w2132 := E2132.size
   have hx := hx.keep0 E2132
   have ks : ∀ x9 ∈ K, Own w2132 0 5 1 x9.1 x9.2.length (x9.2.map u8v) := fun x9 hx9 => (ks x9 hx9).keep0 E2132
   have hk := hk.keep0 E2132
   have hrest := hrest.keepG (Gr.of0 E2132 NoB) (fun _ _ h => h) (NoK.no _)
   have hB1946 := hB1946.keep0 E2132
   have hT1962 := hT1962.keepG (Gr.of0 E2132 NoB) (fun _ _ h => h) (NoK.no _)
   have hT2_1962 := hT2_1962.keepG (Gr.of0 E2132 NoB) (fun _ _ h => h) (NoK.no _)
   have hu1962 := hu1962.keep0 E2132
   have hB2100 := hB2100.keep0 E2132
   have hB2109 := hB2109.keep0 E2132
   have hO2115 := hO2115.keep0 E2132
   have hO2124 := hO2124.keep0 E2132
   have hb := hb.step0 E2132
   have q2132_81 : Sl a2132 81 (ptr p 1) := (hdp2132 20 _ 81 (by kernel_rfl) rfl rfl).2 rfl
   have q2132_70 : Sl a2132 70 v2115 := (Option.some.inj ((hdp2132 9 _ 70 (by kernel_rfl) rfl rfl).1 rfl)).symm
   have hx_old := hx
   refine op_store (vs := [v2115]) (cs' := [(Value.slice none 0 0), v2115, cv]) size90 (ev_base hN2132 rfl q2132_81) (ev_base hN2132 rfl q2132_70) hO2115.cl rfl (by simp only [List.all_cons, List.all_nil, Bool.true_and, Bool.and_true, hO2115.one]; try rfl) hx (Nat.le_of_ble_eq_true rfl) rfl ?_
   intro w2135 hx E2136
   have z_w2135 := E2136.size
   have ks : ∀ x9 ∈ K, Own w2135 0 5 1 x9.1 x9.2.length (x9.2.map u8v) := fun x9 hx9 => (ks x9 hx9).keepX hx_old E2136 (by decide)
   have hk := hk.keepX hx_old E2136 (by decide)
   have hrest := hrest.keepG (Gr.of E2136) (Dj.one djpG) (NoK.ofBx hx_old (by decide))
   have hB1946 := hB1946.keep E2136 (fun hh => hB1946.ne hx_old (by decide) (Option.some.inj hh))
   have hT1962 := hT1962.keepG (Gr.of E2136) (Dj.one dj1971) (NoK.ofBx hx_old (by decide))
   have hT2_1962 := hT2_1962.keepG (Gr.of E2136) (Dj.one dj1977) (NoK.ofBx hx_old (by decide))
   have hu1962 := hu1962.keepX hx_old E2136 (by decide)
   have hB2100 := hB2100.keep E2136 (fun hh => hB2100.ne hx_old (by decide) (Option.some.inj hh))
   have hB2109 := hB2109.keep E2136 (fun hh => hB2109.ne hx_old (by decide) (Option.some.inj hh))
   have hO2115 := hO2115.keepX hx_old E2136 (by decide)
   have hO2124 := hO2124.keepX hx_old E2136 (by decide)
   have hb := hb.stepB E2136 hNd.wp
   refine ktk_end0 (G := fun t9 w' => 21 ∈ t9 → (Bx w' p 115 [(Value.slice none 0 0), kv, cv])) (todo := [21]) (i := 21) rfl (fun h => absurd h (by decide)) ?_
   intro w2137 E2137 a2137 hN2137 hd2137 hbs2137 hph2137
   have hd2137 := hd2137.trans ((by simp only [putsL_defers] : _ = _).trans hd)
   have z_w2137 := E2137.size
   have ks : ∀ x9 ∈ K, Own w2137 0 5 1 x9.1 x9.2.length (x9.2.map u8v) := fun x9 hx9 => (ks x9 hx9).keep0 E2137
   have hk := hk.keep0 E2137
   have hrest := hrest.keepG (Gr.of0 E2137 NoB) (fun _ _ h => h) (NoK.no _)
   have hB1946 := hB1946.keep0 E2137
   have hT1962 := hT1962.keepG (Gr.of0 E2137 NoB) (fun _ _ h => h) (NoK.no _)
   have hT2_1962 := hT2_1962.keepG (Gr.of0 E2137 NoB) (fun _ _ h => h) (NoK.no _)
   have hu1962 := hu1962.keep0 E2137
   have hB2100 := hB2100.keep0 E2137
   have hB2109 := hB2109.keep0 E2137
   have hO2115 := hO2115.keep0 E2137
   have hO2124 := hO2124.keep0 E2137
   have hx := hx.keep0 E2137
   have hb := hb.step0 E2137
   have s2137_0 := (hbs2137 0 rfl).trans (sl_base hN rfl s0)
   have s2137_4 := (hbs2137 4 rfl).trans (sl_hit hN rfl)
   have s2137_5 := (hbs2137 5 rfl).trans (sl_hit hN rfl)
   have s2137_6 := (hbs2137 6 rfl).trans (sl_hit hN rfl)
   have s2137_62 : Sl a2137 62 (ptr p 0) := (hph2137 1 _ 62 rfl rfl).2 rfl
   have s2137_79 : Sl a2137 79 v2124 := (Option.some.inj ((hph2137 18 _ 79 rfl rfl).1 rfl)).symm
   refine split_end ?_
   refine from_seq (tl := [_, _, _]) (by decide) (by kernel_rfl) rfl ?_
   refine op_nil (ev_base hN2137 rfl s2137_62) ?_
   refine op_field fld115_2 (ev_hit hN2137 rfl) ?_
   have hx_old := hx
   refine op_store (vs := [v2124]) (cs' := [(Value.slice none 0 0), v2115, v2124]) size113 (ev_hit hN2137 rfl) (ev_base hN2137 rfl s2137_79) hO2124.cl rfl (by simp only [List.all_cons, List.all_nil, Bool.true_and, Bool.and_true, hO2124.one]; try rfl) hx (Nat.le_of_ble_eq_true rfl) rfl ?_
   intro w2140 hx E2141
   have z_w2140 := E2141.size
   have ks : ∀ x9 ∈ K, Own w2140 0 5 1 x9.1 x9.2.length (x9.2.map u8v) := fun x9 hx9 => (ks x9 hx9).keepX hx_old E2141 (by decide)
   have hk := hk.keepX hx_old E2141 (by decide)
   have hrest := hrest.keepG (Gr.of E2141) (Dj.one djpG) (NoK.ofBx hx_old (by decide))
   have hB1946 := hB1946.keep E2141 (fun hh => hB1946.ne hx_old (by decide) (Option.some.inj hh))
   have hT1962 := hT1962.keepG (Gr.of E2141) (Dj.one dj1971) (NoK.ofBx hx_old (by decide))
   have hT2_1962 := hT2_1962.keepG (Gr.of E2141) (Dj.one dj1977) (NoK.ofBx hx_old (by decide))
   have hu1962 := hu1962.keepX hx_old E2141 (by decide)
   have hB2100 := hB2100.keep E2141 (fun hh => hB2100.ne hx_old (by decide) (Option.some.inj hh))
   have hB2109 := hB2109.keep E2141 (fun hh => hB2109.ne hx_old (by decide) (Option.some.inj hh))
   have hO2115 := hO2115.keepX hx_old E2141 (by decide)
   have hO2124 := hO2124.keepX hx_old E2141 (by decide)
   have hb := hb.stepB E2141 hNd.wp
   refine reg_nil ?_
   refine hK1949 _ _ ?_
   refine seq_any fun K2142 hK2142 => ?_
   refine one_reg ?_
   have hl1 : (K.insertIdx (way (K.map Prod.snd) k) (u1962, y1962)).length = K.length + 1 := by rw [List.length_insertIdx, if_pos hwl]
   have hl2 : (P.insertIdx (((way (K.map Prod.snd) k)) + 1) q1962).length = P.length + 1 := by rw [List.length_insertIdx, if_pos (by omega)]
   have ks2143 : ∀ x9 ∈ (K.insertIdx (way (K.map Prod.snd) k) (u1962, y1962)), Own w2140 0 5 1 x9.1 x9.2.length (x9.2.map u8v) := kks_ins ks hu1962 hwl
   refine op_move (ev_base hN2137 rfl s2137_0) ?_
   rcases Bool.eq_false_or_eq_true (decide ((K.insertIdx (way (K.map Prod.snd) k) (u1962, y1962)).length ≤ 6)) with k86 | k86
   · -- 86T
    refine op_fn (vs := [(ptr p 0)]) ok86 ⟨(ev_hit hN2137 rfl), trivial⟩ (Ret.flip (halvesNsI hx hO2115 hO2124 (by first | omega | (simp only [List.length_insertIdx, List.length_set, List.length_drop, List.length_take]; omega) | (simp; omega)) (of_decide_eq_true k86))) ?_
    rintro _ _ ⟨rfl, rfl⟩
    refine op_move (ev_hit hN2137 rfl) ?_
    refine op_extract (ev_hit hN2137 rfl) rfl ?_
    refine op_extract (ev_hit hN2137 rfl) rfl ?_
    refine op_assign (ev_hit hN2137 rfl) ?_
    refine op_assign (ev_hit hN2137 rfl) ?_
    refine reg_nil ?_
    refine hK2142 _ _ ?_
    refine seq_any fun K2144 hK2144 => ?_
    refine one_reg ?_
    refine op_move (ev_base hN2137 rfl s2137_4) ?_
    refine op_move (ev_hit hN2137 rfl) ?_
    refine op_move (ev_hit hN2137 rfl) ?_
    refine op_assign (ev_hit hN2137 rfl) ?_
    refine op_assign (ev_hit hN2137 rfl) ?_
    refine op_assign (ev_hit hN2137 rfl) ?_
    refine reg_nil ?_
    refine hK2144 _ _ ?_
    refine wp_ret ?_
    refine retN (rs := [.tmp 4, .tmp 5, .tmp 6]) (vs := [(Value.bool (putT h k x c).1), (Value.slice none 0 0), (Value.pointer none)]) rfl hd2137 ⟨(ev_hit hN2137 rfl), ⟨(ev_hit hN2137 rfl), ⟨(ev_hit hN2137 rfl), trivial⟩⟩⟩ rfl ⟨_, rfl, ?_⟩
    -- path 55T 86T
    exact ⟨hb, _, _, by rw [(put_some (u := u1962) hc hr1962 hwl)]; rfl, out_node_small (K := (K.insertIdx (way (K.map Prod.snd) k) (u1962, y1962))) (ts := ((cs.set (way (K.map Prod.snd) k) (putT h k x c).2.1).insertIdx ((way (K.map Prod.snd) k) + 1) t2_1962)) ((congrArg Prod.snd (put_some (u := u1962) hc hr1962 hwl)).trans (halves_nsmall (by simpa using of_decide_eq_true k86))) hx hO2115 hO2124 ks2143 (kks_ins hNd.kr hur1962 hwl) (Kids.ins (i := (way (K.map Prod.snd) k) + 1) (Kids.back1 (i := (way (K.map Prod.snd) k)) (A := TreeR kI R w2140 h) hrest hPc hic hT1962 dj1975.symm) (by rw [List.length_set]; omega) hT2_1962 (fun k h1 h2 => h2.elim (hd1962.symm k h1) (dj1981.symm k h1))) (fun h9 => h9.elim (fun h8 => dj1977 h8) (fun h8 => h8.elim (fun h8 => dj1971 h8) (fun h8 => djpG h8))) (fun j hj h9 => h9.elim (fun h8 => dj2120.symm j hj h8) (fun h8 => h8.elim (fun h8 => dj2119.symm j hj h8) (fun h8 => dj2118.symm j hj h8))) (fun j hj h9 => h9.elim (fun h8 => dj2129.symm j hj h8) (fun h8 => h8.elim (fun h8 => dj2128.symm j hj h8) (fun h8 => dj2127.symm j hj h8))) (nodeW_in (fun _ => hNd.wp) hin2121 hin2130 (fun j hj h9 => h9.elim (fun h8 => hin1984 j hj h8) (fun h8 => h8.elim (fun h8 => hin1983 j hj h8) (fun h8 => (fun j _ q => hNd.wg j (hGs j q)) j hj h8))))⟩
   · -- 86F
    refine op_fn (vs := [(ptr p 0)]) ok86 ⟨(ev_hit hN2137 rfl), trivial⟩ (halvesNbI hx hO2115 hO2124 ks2143 (by first | omega | (simp only [List.length_insertIdx, List.length_set, List.length_drop, List.length_take]; omega) | (simp; omega)) (by have := of_decide_eq_false k86; omega) (by first | omega | (simp only [List.length_insertIdx, List.length_set, List.length_drop, List.length_take]; omega) | (simp; omega))) ?_
    rintro _ w2146 ⟨E2147, q2145, qk2145, qc2145, rfl, hx2145, oa2145, ob2145, lo2145, hB2145, oc2145, od2145⟩
    have ht2148 := hx.lt
    have ht2149 := hO2115.lt
    have ht2150 := hO2124.lt
    have ht2151 := hrest.lt
    have ht2152 := hT1962.lt
    have ht2153 := hT2_1962.lt
    have E2147 := E2147.grown (row := some p) (fun k _ h => by rw [h])
    have hx_old := hx
    have z_w2146 := E2147.size
    have ks : ∀ x9 ∈ K, Own w2146 0 5 1 x9.1 x9.2.length (x9.2.map u8v) := fun x9 hx9 => (ks x9 hx9).keepX hx_old E2147 (by decide)
    have hk := hk.keepX hx_old E2147 (by decide)
    have hrest := hrest.keepG (Gr.of E2147) (Dj.one djpG) (NoK.ofBx hx_old (by decide))
    have hB1946 := hB1946.keep E2147 (fun hh => hB1946.ne hx_old (by decide) (Option.some.inj hh))
    have hT1962 := hT1962.keepG (Gr.of E2147) (Dj.one dj1971) (NoK.ofBx hx_old (by decide))
    have hT2_1962 := hT2_1962.keepG (Gr.of E2147) (Dj.one dj1977) (NoK.ofBx hx_old (by decide))
    have hu1962 := hu1962.keepX hx_old E2147 (by decide)
    have hB2100 := hB2100.keep E2147 (fun hh => hB2100.ne hx_old (by decide) (Option.some.inj hh))
    have hB2109 := hB2109.keep E2147 (fun hh => hB2109.ne hx_old (by decide) (Option.some.inj hh))
    have ks2143 : ∀ x9 ∈ (K.insertIdx (way (K.map Prod.snd) k) (u1962, y1962)), Own w2146 0 5 1 x9.1 x9.2.length (x9.2.map u8v) := fun x9 hx9 => (ks2143 x9 hx9).keepX hx_old E2147 (by decide)
    have hb := hb.stepB E2147 hNd.wp
    refine op_move (ev_hit hN2137 rfl) ?_
    refine op_extract (ev_hit hN2137 rfl) rfl ?_
    refine op_extract (ev_hit hN2137 rfl) rfl ?_
    refine op_assign (ev_hit hN2137 rfl) ?_
    refine op_assign (ev_hit hN2137 rfl) ?_
    refine reg_nil ?_
    refine hK2142 _ _ ?_
    refine seq_any fun K2154 hK2154 => ?_
    refine one_reg ?_
    refine op_move (ev_base hN2137 rfl s2137_4) ?_
    refine op_move (ev_hit hN2137 rfl) ?_
    refine op_move (ev_hit hN2137 rfl) ?_
    refine op_assign (ev_hit hN2137 rfl) ?_
    refine op_assign (ev_hit hN2137 rfl) ?_
    refine op_assign (ev_hit hN2137 rfl) ?_
    refine reg_nil ?_
    refine hK2154 _ _ ?_
    refine wp_ret ?_
    refine retN (rs := [.tmp 4, .tmp 5, .tmp 6]) (vs := [(Value.bool (putT h k x c).1), ((K.insertIdx (way (K.map Prod.snd) k) (u1962, y1962)).getD ((K.insertIdx (way (K.map Prod.snd) k) (u1962, y1962)).length / 2) default).1, (ptr q2145 0)]) rfl hd2137 ⟨(ev_hit hN2137 rfl), ⟨(ev_hit hN2137 rfl), ⟨(ev_hit hN2137 rfl), trivial⟩⟩⟩ rfl ⟨_, rfl, ?_⟩
    -- path 55T 86F
    exact ⟨hb, _, _, by rw [(put_some (u := u1962) hc hr1962 hwl)]; rfl, out_node_big (K := (K.insertIdx (way (K.map Prod.snd) k) (u1962, y1962))) (ts := ((cs.set (way (K.map Prod.snd) k) (putT h k x c).2.1).insertIdx ((way (K.map Prod.snd) k) + 1) t2_1962)) ((congrArg Prod.snd (put_some (u := u1962) hc hr1962 hwl)).trans (halves_nbig (by have := of_decide_eq_false k86; omega))) (by have := of_decide_eq_false k86; omega) hx2145 oa2145 ob2145 hB2145 oc2145 od2145 lo2145 (by omega) ks2143 (kks_ins hNd.kr hur1962 hwl) (Kids.ins (i := (way (K.map Prod.snd) k) + 1) (Kids.back1 (i := (way (K.map Prod.snd) k)) (A := TreeR kI R w2146 h) hrest hPc hic hT1962 dj1975.symm) (by rw [List.length_set]; omega) hT2_1962 (fun k h1 h2 => h2.elim (hd1962.symm k h1) (dj1981.symm k h1))) (fun h9 => h9.elim (fun h8 => dj1977 h8) (fun h8 => h8.elim (fun h8 => dj1971 h8) (fun h8 => djpG h8))) (fun j hj h9 => h9.elim (fun h8 => dj2120.symm j ((hiV_ob _ _).symm.trans hj) h8) (fun h8 => h8.elim (fun h8 => dj2119.symm j ((hiV_ob _ _).symm.trans hj) h8) (fun h8 => dj2118.symm j ((hiV_ob _ _).symm.trans hj) h8))) (fun j hj h9 => h9.elim (fun h8 => dj2129.symm j ((hiV_ob _ _).symm.trans hj) h8) (fun h8 => h8.elim (fun h8 => dj2128.symm j ((hiV_ob _ _).symm.trans hj) h8) (fun h8 => dj2127.symm j ((hiV_ob _ _).symm.trans hj) h8))) (nodeW_in (fun _ => hNd.wp) (inF_step (n := w.heap.size) (.inl (hiV_ob _ _)) (Nat.le_refl _) hin2121) (inF_step (n := w.heap.size) (.inl (hiV_ob _ _)) (Nat.le_refl _) hin2130) (fun j hj h9 => h9.elim (fun h8 => hin1984 j hj h8) (fun h8 => h8.elim (fun h8 => hin1983 j hj h8) (fun h8 => (fun j _ q => hNd.wg j (hGs j q)) j hj h8)))) (nodeW_lt ht2148 (fun j h9 => (ht2149 j ((hiV_ob _ _).symm.trans h9)).2) (fun j h9 => (ht2150 j ((hiV_ob _ _).symm.trans h9)).2) (fun j h9 => h9.elim (fun h8 => (ht2153 j h8).2) (fun h8 => h8.elim (fun h8 => (ht2152 j h8).2) (fun h8 => (ht2151 j h8).2))))⟩
 · -- 55F
  refine op_fn (vs := [(ptr (P.getD ((way (K.map Prod.snd) k)) default) 0), (Value.agg #[yv, (Value.int .i64 x)])]) ok48 ⟨(ev_hit hN rfl), ⟨(ev_hit hN rfl), trivial⟩⟩ (IH hkid hcO (by have := (hz c (List.mem_of_getElem? hc)).2; omega) hk hkr) ?_
  rintro _ w2156 ⟨E2157, u2155, m2155, rfl, ho2155⟩
  have bd2158 := hx.lt
  have bd2159 := ok.lt
  have bd2160 := oc.lt
  have bd2161 := hk.lt
  have bd2162 := hrest.lt
  have bd2163 := hB1946.lt
  obtain ⟨hr2155, rfl, rfl, W1_2155, hT2155, hN1_2155⟩ := outR_none k55 ho2155
  have hkid_old := hkid
  have z_w2156 := E2157.size
  have hx := hx.keepG E2157 djpf
  have ok := ok.keepG E2157 djkf
  have oc := oc.keepG E2157 djcf
  have ks : ∀ x9 ∈ K, Own w2156 0 5 1 x9.1 x9.2.length (x9.2.map u8v) := fun x9 hx9 => (ks x9 hx9).keepG E2157 (hkid_old.notOwn (ks x9 hx9) (by decide) (by decide) (by decide) (by decide))
  have hk := hk.keepG E2157 (hkid_old.notOwn hk (by decide) (by decide) (by decide) (by decide))
  have hrest := hrest.keepG E2157 hfG.symm (hkid_old.noK kI_fine)
  have hB1946 := hB1946.keepG E2157 dj1947
  have hb := hb.stepF E2157 (fun k _ h => hNd.wg k (hfs k h))
  have dj2164 : ¬ W1_2155 p := ne_stepF hN1_2155 bd2158 djpf
  have dj2165 : Dj (Bl kv) W1_2155 := Dj.stepF hN1_2155 (fun k hk => (bd2159 k hk).2) djkf
  have dj2166 : Dj (Bl cv) W1_2155 := Dj.stepF hN1_2155 (fun k hk => (bd2160 k hk).2) djcf
  have dj2168 : Dj G0 W1_2155 := Dj.stepF hN1_2155 (fun k hk => (bd2162 k hk).2) hfG.symm
  have dj2169 : ¬ W1_2155 b1944 := ne_stepF hN1_2155 bd2163 dj1947
  have hin2170 := in_newF (hN1_2155.mono (t := w.heap.size) (by omega)) (fun k hk => hNd.wg k (hfs k hk))
  refine from_next ?_
  refine from_still (m := 16) 7 (hd := [_, _, _, _, _, _, _]) (by kernel_rfl) rfl rfl ?_
  refine st_step rfl (fun _ h9 => op_move (ev_hit hN rfl) h9) ?_
  refine st_step rfl (fun _ h9 => op_extract (ev_hit hN rfl) rfl h9) ?_
  refine st_step rfl (fun _ h9 => op_extract (ev_hit hN rfl) rfl h9) ?_
  refine st_step rfl (fun _ h9 => op_extract (ev_hit hN rfl) rfl h9) ?_
  refine st_step rfl (fun _ h9 => op_assign (ev_hit hN rfl) h9) ?_
  refine st_step rfl (fun _ h9 => op_assign (ev_hit hN rfl) h9) ?_
  refine st_step rfl (fun _ h9 => op_assign (ev_hit hN rfl) h9) ?_
  refine st_nil ?_
  refine from_end ?_ rfl
  refine hK1956 _ _ ?_
  refine seq_any fun K2171 hK2171 => ?_
  refine one_reg ?_
  refine op_move (ev_hit hN rfl) ?_
  refine op_pne_none ptrt69 (ev_hit hN rfl) rfl ?_
  refine reg_nil ?_
  refine hK2171 _ _ ?_
  refine wp_cond_false (ev_hit hN rfl) ?_
  refine wp_skip ?_
  refine hK1949 _ _ ?_
  refine seq_any fun K2172 hK2172 => ?_
  refine one_reg ?_
  skip
  refine op_move (ev_base hN rfl s0) ?_
  rcases Bool.eq_false_or_eq_true (decide (K.length ≤ 6)) with k86 | k86
  · -- 86T
   refine op_fn (vs := [(ptr p 0)]) ok86 ⟨(ev_hit hN rfl), trivial⟩ (Ret.flip (halvesNsI hx ok oc (by first | omega | (simp only [List.length_insertIdx, List.length_set, List.length_drop, List.length_take]; omega) | (simp; omega)) (of_decide_eq_true k86))) ?_
   rintro _ _ ⟨rfl, rfl⟩
   refine op_move (ev_hit hN rfl) ?_
   refine op_extract (ev_hit hN rfl) rfl ?_
   refine op_extract (ev_hit hN rfl) rfl ?_
   refine op_assign (ev_hit hN rfl) ?_
   refine op_assign (ev_hit hN rfl) ?_
   refine reg_nil ?_
   refine hK2172 _ _ ?_
   refine seq_any fun K2173 hK2173 => ?_
   refine one_reg ?_
   refine op_move (ev_hit hN rfl) ?_
   refine op_move (ev_hit hN rfl) ?_
   refine op_move (ev_hit hN rfl) ?_
   refine op_assign (ev_hit hN rfl) ?_
   refine op_assign (ev_hit hN rfl) ?_
   refine op_assign (ev_hit hN rfl) ?_
   refine reg_nil ?_
   refine hK2173 _ _ ?_
   refine wp_ret ?_
   refine retN (rs := [.tmp 4, .tmp 5, .tmp 6]) (vs := [(Value.bool (putT h k x c).1), (Value.slice none 0 0), (Value.pointer none)]) rfl hd ⟨(ev_hit hN rfl), ⟨(ev_hit hN rfl), ⟨(ev_hit hN rfl), trivial⟩⟩⟩ rfl ⟨_, rfl, ?_⟩
   -- path 55F 86T
   exact ⟨hb, _, _, by rw [(put_none hc hr2155)]; rfl, out_node_small (K := K) (ts := (cs.set (way (K.map Prod.snd) k) (putT h k x c).2.1)) ((congrArg Prod.snd (put_none hc hr2155)).trans (halves_nsmall (by simpa using of_decide_eq_true k86))) hx ok oc ks hNd.kr (Kids.back1 (i := (way (K.map Prod.snd) k)) (A := TreeR kI R w2156 h) hrest hPc hic hT2155 dj2168.symm) (fun h9 => h9.elim (fun h8 => dj2164 h8) (fun h8 => djpG h8)) (fun j hj h9 => h9.elim (fun h8 => dj2165 j hj h8) (fun h8 => djkG j hj h8)) (fun j hj h9 => h9.elim (fun h8 => dj2166 j hj h8) (fun h8 => djcG j hj h8)) (nodeW_in (fun _ => hNd.wp) (fun k _ h => hNd.wk k h) (fun k _ h => hNd.wc k h) (fun j hj h9 => h9.elim (fun h8 => hin2170 j hj h8) (fun h8 => (fun j _ q => hNd.wg j (hGs j q)) j hj h8)))⟩
  · -- 86F
   refine op_fn (vs := [(ptr p 0)]) ok86 ⟨(ev_hit hN rfl), trivial⟩ (halvesNbI hx ok oc ks (by first | omega | (simp only [List.length_insertIdx, List.length_set, List.length_drop, List.length_take]; omega) | (simp; omega)) (by have := of_decide_eq_false k86; omega) (by first | omega | (simp only [List.length_insertIdx, List.length_set, List.length_drop, List.length_take]; omega) | (simp; omega))) ?_
   rintro _ w2175 ⟨E2176, q2174, qk2174, qc2174, rfl, hx2174, oa2174, ob2174, lo2174, hB2174, oc2174, od2174⟩
   have ht2177 := hx.lt
   have ht2178 := ok.lt
   have ht2179 := oc.lt
   have ht2180 := hrest.lt
   have ht2181 := hT2155.lt
   have E2176 := E2176.grown (row := some p) (fun k _ h => by rw [h])
   have hx_old := hx
   have z_w2175 := E2176.size
   have ks : ∀ x9 ∈ K, Own w2175 0 5 1 x9.1 x9.2.length (x9.2.map u8v) := fun x9 hx9 => (ks x9 hx9).keepX hx_old E2176 (by decide)
   have hk := hk.keepX hx_old E2176 (by decide)
   have hrest := hrest.keepG (Gr.of E2176) (Dj.one djpG) (NoK.ofBx hx_old (by decide))
   have hB1946 := hB1946.keep E2176 (fun hh => hB1946.ne hx_old (by decide) (Option.some.inj hh))
   have hT2155 := hT2155.keepG (Gr.of E2176) (Dj.one dj2164) (NoK.ofBx hx_old (by decide))
   have hb := hb.stepB E2176 hNd.wp
   refine op_move (ev_hit hN rfl) ?_
   refine op_extract (ev_hit hN rfl) rfl ?_
   refine op_extract (ev_hit hN rfl) rfl ?_
   refine op_assign (ev_hit hN rfl) ?_
   refine op_assign (ev_hit hN rfl) ?_
   refine reg_nil ?_
   refine hK2172 _ _ ?_
   refine seq_any fun K2182 hK2182 => ?_
   refine one_reg ?_
   refine op_move (ev_hit hN rfl) ?_
   refine op_move (ev_hit hN rfl) ?_
   refine op_move (ev_hit hN rfl) ?_
   refine op_assign (ev_hit hN rfl) ?_
   refine op_assign (ev_hit hN rfl) ?_
   refine op_assign (ev_hit hN rfl) ?_
   refine reg_nil ?_
   refine hK2182 _ _ ?_
   refine wp_ret ?_
   refine retN (rs := [.tmp 4, .tmp 5, .tmp 6]) (vs := [(Value.bool (putT h k x c).1), (K.getD (K.length / 2) default).1, (ptr q2174 0)]) rfl hd ⟨(ev_hit hN rfl), ⟨(ev_hit hN rfl), ⟨(ev_hit hN rfl), trivial⟩⟩⟩ rfl ⟨_, rfl, ?_⟩
   -- path 55F 86F
   exact ⟨hb, _, _, by rw [(put_none hc hr2155)]; rfl, out_node_big (K := K) (ts := (cs.set (way (K.map Prod.snd) k) (putT h k x c).2.1)) ((congrArg Prod.snd (put_none hc hr2155)).trans (halves_nbig (by have := of_decide_eq_false k86; omega))) (by have := of_decide_eq_false k86; omega) hx2174 oa2174 ob2174 hB2174 oc2174 od2174 lo2174 (by omega) ks hNd.kr (Kids.back1 (i := (way (K.map Prod.snd) k)) (A := TreeR kI R w2175 h) hrest hPc hic hT2155 dj2168.symm) (fun h9 => h9.elim (fun h8 => dj2164 h8) (fun h8 => djpG h8)) (fun j hj h9 => h9.elim (fun h8 => dj2165 j ((hiV_ob _ _).symm.trans hj) h8) (fun h8 => djkG j ((hiV_ob _ _).symm.trans hj) h8)) (fun j hj h9 => h9.elim (fun h8 => dj2166 j ((hiV_ob _ _).symm.trans hj) h8) (fun h8 => djcG j ((hiV_ob _ _).symm.trans hj) h8)) (nodeW_in (fun _ => hNd.wp) (inF_step (n := w.heap.size) (.inl (hiV_ob _ _)) (Nat.le_refl _) (fun k _ h => hNd.wk k h)) (inF_step (n := w.heap.size) (.inl (hiV_ob _ _)) (Nat.le_refl _) (fun k _ h => hNd.wc k h)) (fun j hj h9 => h9.elim (fun h8 => hin2170 j hj h8) (fun h8 => (fun j _ q => hNd.wg j (hGs j q)) j hj h8))) (nodeW_lt ht2177 (fun j h9 => (ht2178 j ((hiV_ob _ _).symm.trans h9)).2) (fun j h9 => (ht2179 j ((hiV_ob _ _).symm.trans h9)).2) (fun j h9 => h9.elim (fun h8 => (ht2181 j h8).2) (fun h8 => (ht2180 j h8).2)))⟩

end Go.Proofs.Ytcpfdfejojghbaa

/- Walks, written by a program: what each function of the translation hands back. -/
namespace Go.Proofs.Ytcpfdfejojghbaa
open Go.Gx Go.RowKit
attribute [local irreducible] wpList wpStill Code.wp Calls
open Go.Bt
theorem putNS {h : Nat} {k : List UInt8} {yv : Value} {x : List UInt8} {R W G : Nat → Prop} {p : Nat} {kv cv : Value} {K : List DK} {P : List Nat} {cs : List (Tr (List UInt8) h)} {w : World} (IH : PutS h) (hNd : NodeR kS R w p kv cv K P G W) (hKs : KidsR kS R w h P cs G) (hO : Nd h (K.map Prod.snd) cs) (hz : ∀ c ∈ cs, okSz h c) (hn : K.length ≤ 6) (hk : Own w 0 5 1 yv k.length (k.map u8v)) (hkr : ∀ j, Bl yv j → R j) : Ret Try.prog 40 #[(ptr p 0), (Value.agg #[yv, (Value.string (bs x))])] w (fun v' w' => Gr w w' W ∧ ∃ u m, v' = .tuple #[.bool (putT (h + 1) k x ((K.map Prod.snd, cs) : Tr (List UInt8) (h + 1))).1, u, m] ∧ OutR kS R w' w.heap.size W (h + 1) p (putT (h + 1) k x ((K.map Prod.snd, cs) : Tr (List UInt8) (h + 1))).2 u m) := by
 have hx : Bx w p 93 [.slice none 0 0, kv, cv] := hNd.bx
 have ok := hNd.ok
 have oc : Own w 0 86 1 cv P.length (P.flatMap cN) := hNd.oc
 have ks := hNd.ks
 have hs := hO.2.1
 have hi_p := hx.lt
 have hPc : P.length = cs.length := hKs.len
 have hcl : cs.length = K.length + 1 := hO.1.trans (by simp)
 have hPl : P.length = K.length + 1 := hPc.trans hcl
 have hwl : (way (K.map Prod.snd) k) ≤ K.length := by have := way_le (K.map Prod.snd) k; simpa using this
 obtain ⟨c, hc, hcO, hcw⟩ := hO.at (i := (way (K.map Prod.snd) k)) (by simpa using hwl)
 have hic : (way (K.map Prod.snd) k) < cs.length := by omega
 obtain ⟨f, G0, hkid, hrest, hfG, hfs, hGs⟩ := Kids.cutc hKs hc
 have hkid : TreeR kS R w h (P.getD (way (K.map Prod.snd) k) default) c f := hkid
 have hrest : KidsR kS R w h (P.eraseIdx (way (K.map Prod.snd) k)) (cs.eraseIdx (way (K.map Prod.snd) k)) G0 := hrest
 have djpf : ¬ f p := fun q => hNd.np (hfs p q)
 have djpG : ¬ G0 p := fun q => hNd.np (hGs p q)
 have djkf := hNd.nk.mono hfs
 have djkG := hNd.nk.mono hGs
 have djcf := hNd.nc.mono hfs
 have djcG := hNd.nc.mono hGs
 have hb := Gr.refl w W
 refine enter (N := 92) Try.func40 rfl rfl (by simp) fun a0 hN hd hA => ?_
 have s0 : a0.tmps.getD 0 undef = (ptr p 0) := hA 0 (by simp)
 have s1 : a0.tmps.getD 1 undef = (Value.agg #[yv, (Value.string (bs x))]) := hA 1 (by simp)
 clear hA
 refine seq_any fun K2183 hK2183 => ?_
 refine one_reg ?_
 refine op_box (cs := [yv, (Value.string (bs x))]) (ev_base hN rfl s1) rfl ?_
 intro w2184 b2185 lo_b2185 hi_b2185 hB2187 E2186
 have dj2188 : ¬ f b2185 := fun hf => by have := (hkid.lt _ hf).2; omega
 have dj2189 : ¬ G0 b2185 := fun hf => by have := (hrest.lt _ hf).2; omega
 have z_w2184 := E2186.size
 have hx := hx.keep0 E2186
 have ok := ok.keep0 E2186
 have oc := oc.keep0 E2186
 have ks : ∀ x9 ∈ K, Own w2184 0 5 1 x9.1 x9.2.length (x9.2.map u8v) := fun x9 hx9 => (ks x9 hx9).keep0 E2186
 have hk := hk.keep0 E2186
 have hkid := hkid.keepG (Gr.of0 E2186 NoB) (fun _ _ h => h) (NoK.no _)
 have hrest := hrest.keepG (Gr.of0 E2186 NoB) (fun _ _ h => h) (NoK.no _)
 have hb := hb.step0 E2186
 refine op_assign rfl ?_
 refine op_assign rfl ?_
 refine op_assign rfl ?_
 refine reg_nil ?_
 refine hK2183 _ _ ?_
 refine seq_any fun K2190 hK2190 => ?_
 refine seq_any fun K2191 hK2191 => ?_
 refine one_reg ?_
 refine op_move (ev_base hN rfl s0) ?_
 refine op_fn (vs := [(ptr p 0)]) ok63 ⟨(ev_hit hN rfl), trivial⟩ (Ret.flip (leafNS hx ok oc (by omega) (by omega))) ?_
 rintro _ _ ⟨rfl, rfl⟩
 refine reg_nil ?_
 refine hK2191 _ _ ?_
 refine wp_cond_false (ev_hit hN rfl) ?_
 refine seq_any fun K2192 hK2192 => ?_
 refine one_reg ?_
 refine op_move (ev_base hN rfl s0) ?_
 refine op_field fld98_0 (ev_hit hN rfl) ?_
 refine op_load1 (v := yv) one27 (ev_hit hN rfl) (hB2187.cell rfl) ?_
 refine op_fn (vs := [(ptr p 0), yv]) ok66 ⟨(ev_hit hN rfl), ⟨(ev_hit hN rfl), trivial⟩⟩ (wayS hx ok oc ks hs (by omega) (hk.rdw.mono (Nat.zero_le _) (by omega))) ?_
 rintro _ w2193 ⟨E2194, rfl⟩
 have E2194 := grown_of_below E2194
 have z_w2193 := E2194.size
 have hx := hx.keep0 E2194
 have ok := ok.keep0 E2194
 have oc := oc.keep0 E2194
 have ks : ∀ x9 ∈ K, Own w2193 0 5 1 x9.1 x9.2.length (x9.2.map u8v) := fun x9 hx9 => (ks x9 hx9).keep0 E2194
 have hk := hk.keep0 E2194
 have hkid := hkid.keepG (Gr.of0 E2194 NoB) (fun _ _ h => h) (NoK.no _)
 have hrest := hrest.keepG (Gr.of0 E2194 NoB) (fun _ _ h => h) (NoK.no _)
 have hB2187 := hB2187.keep0 E2194
 have hb := hb.step0 E2194
 refine op_assign (ev_hit hN rfl) ?_
 refine reg_nil ?_
 refine hK2192 _ _ ?_
 refine seq_any fun K2195 hK2195 => ?_
 refine one_reg ?_
 refine op_assign rfl ?_
 refine reg_nil ?_
 refine hK2195 _ _ ?_
 refine seq_any fun K2196 hK2196 => ?_
 refine one_reg ?_
 refine op_assign rfl ?_
 refine reg_nil ?_
 refine hK2196 _ _ ?_
 refine seq_any fun K2197 hK2197 => ?_
 refine reg_from mixed ?_
 intro w2199 E2198
 have z_w2199 := E2198.size
 have hx := hx.keep0 E2198
 have ok := ok.keep0 E2198
 have oc := oc.keep0 E2198
 have ks : ∀ x9 ∈ K, Own w2199 0 5 1 x9.1 x9.2.length (x9.2.map u8v) := fun x9 hx9 => (ks x9 hx9).keep0 E2198
 have hk := hk.keep0 E2198
 have hkid := hkid.keepG (Gr.of0 E2198 NoB) (fun _ _ h => h) (NoK.no _)
 have hrest := hrest.keepG (Gr.of0 E2198 NoB) (fun _ _ h => h) (NoK.no _)
 have hB2187 := hB2187.keep0 E2198
 have hb := hb.step0 E2198
 refine from_still (m := 8) 8 (hd := [_, _, _, _, _, _, _, _]) (by kernel_rfl) rfl rfl ?_
 refine st_step rfl (fun _ h9 => op_move (ev_base hN rfl s0) h9) ?_
 refine st_step rfl (fun _ h9 => op_nil (ev_hit hN rfl) h9) ?_
 refine st_step rfl (fun _ h9 => op_field fld93_2 (ev_hit hN rfl) h9) ?_
 refine st_step rfl (fun _ h9 => op_load1 (v := cv) one91 (ev_hit hN rfl) (hx.cell rfl) h9) ?_
 refine st_step rfl (fun _ h9 => op_move (ev_hit hN rfl) h9) ?_
 refine st_index_rd slt91 (ev_hit hN rfl) oc.rdw (ev_hit hN rfl) (by omega) (by omega) ?_
 intro b2200 o2201 h0b2200 h1b2200 hc2202
 refine st_step rfl (fun _ h9 => op_load1 (v := (ptr (P.getD ((way (K.map Prod.snd) k)) default) 0)) one86 (ev_hit hN rfl) (by have := hc2202 0 (ptr (P.getD ((way (K.map Prod.snd) k)) default) 0) (by decide) (el_pn (i := ((way (K.map Prod.snd) k))) (by omega) (by first | omega | (simp only [List.length_drop, List.length_take]; omega))); simpa using this) h9) ?_
 refine st_step rfl (fun _ h9 => op_loadA (cs := [yv, (Value.string (bs x))]) agg98 rfl (ev_hit hN rfl) (fun j u hu => by rw [Nat.zero_add]; exact hB2187.cell hu) h9) ?_
 refine st_nil ?_
 refine from_one (k' := 9) (by kernel_rfl) rfl rfl ?_
 rcases Bool.eq_false_or_eq_true (((putT h k x c).2.2.isSome)) with k55 | k55
 · -- 55T
  refine op_fn (vs := [(ptr (P.getD ((way (K.map Prod.snd) k)) default) 0), (Value.agg #[yv, (Value.string (bs x))])]) ok40 ⟨(ev_hit hN rfl), ⟨(ev_hit hN rfl), trivial⟩⟩ (IH hkid hcO (by have := (hz c (List.mem_of_getElem? hc)).2; omega) hk hkr) ?_
  rintro _ w2204 ⟨E2205, u2203, m2203, rfl, ho2203⟩
  have bd2206 := hx.lt
  have bd2207 := ok.lt
  have bd2208 := oc.lt
  have bd2209 := hk.lt
  have bd2210 := hrest.lt
  have bd2211 := hB2187.lt
  obtain ⟨y2203, t2_2203, q2203, W1_2203, W2_2203, hr2203, rfl, hu2203, hur2203, hT2203, hT2_2203, hN1_2203, hN2_2203, hd2203⟩ := outR_some k55 ho2203
  have hkid_old := hkid
  have z_w2204 := E2205.size
  have hx := hx.keepG E2205 djpf
  have ok := ok.keepG E2205 djkf
  have oc := oc.keepG E2205 djcf
  have ks : ∀ x9 ∈ K, Own w2204 0 5 1 x9.1 x9.2.length (x9.2.map u8v) := fun x9 hx9 => (ks x9 hx9).keepG E2205 (hkid_old.notOwn (ks x9 hx9) (by decide) (by decide) (by decide) (by decide))
  have hk := hk.keepG E2205 (hkid_old.notOwn hk (by decide) (by decide) (by decide) (by decide))
  have hrest := hrest.keepG E2205 hfG.symm (hkid_old.noK kS_fine)
  have hB2187 := hB2187.keepG E2205 dj2188
  have hb := hb.stepF E2205 (fun k _ h => hNd.wg k (hfs k h))
  have dj2212 : ¬ W1_2203 p := ne_stepF hN1_2203 bd2206 djpf
  have dj2213 : Dj (Bl kv) W1_2203 := Dj.stepF hN1_2203 (fun k hk => (bd2207 k hk).2) djkf
  have dj2214 : Dj (Bl cv) W1_2203 := Dj.stepF hN1_2203 (fun k hk => (bd2208 k hk).2) djcf
  have dj2216 : Dj G0 W1_2203 := Dj.stepF hN1_2203 (fun k hk => (bd2210 k hk).2) hfG.symm
  have dj2217 : ¬ W1_2203 b2185 := ne_stepF hN1_2203 bd2211 dj2188
  have dj2218 : ¬ W2_2203 p := ne_stepF hN2_2203 bd2206 djpf
  have dj2219 : Dj (Bl kv) W2_2203 := Dj.stepF hN2_2203 (fun k hk => (bd2207 k hk).2) djkf
  have dj2220 : Dj (Bl cv) W2_2203 := Dj.stepF hN2_2203 (fun k hk => (bd2208 k hk).2) djcf
  have dj2222 : Dj G0 W2_2203 := Dj.stepF hN2_2203 (fun k hk => (bd2210 k hk).2) hfG.symm
  have dj2223 : ¬ W2_2203 b2185 := ne_stepF hN2_2203 bd2211 dj2188
  have hin2224 := in_newF (hN1_2203.mono (t := w.heap.size) (by omega)) (fun k hk => hNd.wg k (hfs k hk))
  have hin2225 := in_newF (hN2_2203.mono (t := w.heap.size) (by omega)) (fun k hk => hNd.wg k (hfs k hk))
  refine from_next ?_
  refine from_still (m := 16) 7 (hd := [_, _, _, _, _, _, _]) (by kernel_rfl) rfl rfl ?_
  refine st_step rfl (fun _ h9 => op_move (ev_hit hN rfl) h9) ?_
  refine st_step rfl (fun _ h9 => op_extract (ev_hit hN rfl) rfl h9) ?_
  refine st_step rfl (fun _ h9 => op_extract (ev_hit hN rfl) rfl h9) ?_
  refine st_step rfl (fun _ h9 => op_extract (ev_hit hN rfl) rfl h9) ?_
  refine st_step rfl (fun _ h9 => op_assign (ev_hit hN rfl) h9) ?_
  refine st_step rfl (fun _ h9 => op_assign (ev_hit hN rfl) h9) ?_
  refine st_step rfl (fun _ h9 => op_assign (ev_hit hN rfl) h9) ?_
  refine st_nil ?_
  refine from_end ?_ rfl
  refine hK2197 _ _ ?_
  refine seq_any fun K2226 hK2226 => ?_
  refine one_reg ?_
  refine op_move (ev_hit hN rfl) ?_
  refine op_pne_some ptrt86 (ev_hit hN rfl) rfl ?_
  refine reg_nil ?_
  refine hK2226 _ _ ?_
  refine wp_cond_true (ev_hit hN rfl) ?_
  refine reg_split (hd := [_, _, _, _, _, _, _, _, _, _, _, _, _, _, _, _, _, _, _, _, _, _]) (tl := _) 22 mixed (by kernel_rfl) rfl rfl ?_
  refine any_treek (φ := phiV [(fun uz => uz = (ptr p 0)), (fun uz => uz = (ptr p 0)), (fun uz => uz = (ptr p 0)), (fun uz => uz = (ptr p 0)), (fun uz => uz = (ptr p 1)), (fun uz => uz = kv), (fun uz => uz = (Value.int .i64 (((way (K.map Prod.snd) k) : Nat) : Int))), (fun uz => uz = u2203), (fun _ => True), (fun _ => True), (fun uz => uz = (ptr p 0)), (fun uz => uz = (ptr p 0)), (fun uz => uz = (ptr p 2)), (fun uz => uz = cv), (fun uz => uz = (Value.int .i64 (((way (K.map Prod.snd) k) : Nat) : Int))), (fun uz => uz = (Value.int .i64 ((((way (K.map Prod.snd) k) : Nat) : Int) + 1))), (fun uz => uz = (ptr q2203 0)), (fun _ => True), (fun _ => True), (fun uz => uz = (ptr p 0)), (fun uz => uz = (ptr p 1)), (fun _ => True)]) (G := fun t9 w' => 21 ∈ t9 → (Bx w' p 93 [(Value.slice none 0 0), kv, cv])) [8, 9, 17, 18, 21] (by kernel_rfl) (by kernel_rfl) (by kernel_rfl) (by kernel_rfl) (by kernel_rfl) hN (fun _ w1 w2 E h hc9 => (h hc9).keep0 E) (fun _ => hx) (ObRk9.cons ?_ (ObRk9.cons ?_ (ObRk9.cons ?_ (ObRk9.cons ?_ (ObRk9.cons ?_ (ObRk9.cons ?_ (ObRk9.cons ?_ (ObRk9.cons ?_ (ObRk9.pass rfl (ObRk9.pass rfl (ObRk9.cons ?_ (ObRk9.cons ?_ (ObRk9.cons ?_ (ObRk9.cons ?_ (ObRk9.cons ?_ (ObRk9.cons ?_ (ObRk9.cons ?_ (ObRk9.pass rfl (ObRk9.pass rfl (ObRk9.cons ?_ (ObRk9.cons ?_ (ObRk9.pass rfl (ObRk9.nil))))))))))))))))))))))) (by simp only [putsL_defers]) ?_
  ·
   intro eA tA aA wA hNA hckA hGA hbsA hdpA
   have qA_0 := (hbsA 0 rfl).trans (sl_base hN rfl s0)
   refine op_move (ev_base hNA rfl qA_0) ?_
   exact obTk_end rfl rfl
  ·
   intro eA tA aA wA hNA hckA hGA hbsA hdpA
   have qA_0 := (hbsA 0 rfl).trans (sl_base hN rfl s0)
   refine op_move (ev_base hNA rfl qA_0) ?_
   exact obTk_end rfl rfl
  ·
   intro eA tA aA wA hNA hckA hGA hbsA hdpA
   have qA_0 := (hbsA 0 rfl).trans (sl_base hN rfl s0)
   refine op_move (ev_base hNA rfl qA_0) ?_
   exact obTk_end rfl rfl
  ·
   intro eA tA aA wA hNA hckA hGA hbsA hdpA
   have qA_63 : Sl aA 63 (ptr p 0) := (hdpA 2 _ 63 (by kernel_rfl) rfl rfl).2 rfl
   refine op_nil (ev_base hNA rfl qA_63) ?_
   exact obTk_end rfl rfl
  ·
   intro eA tA aA wA hNA hckA hGA hbsA hdpA
   have qA_64 : Sl aA 64 (ptr p 0) := (hdpA 3 _ 64 (by kernel_rfl) rfl rfl).2 rfl
   refine op_field fld93_1 (ev_base hNA rfl qA_64) ?_
   exact obTk_end rfl rfl
  ·
   intro eA tA aA wA hNA hckA hGA hbsA hdpA
   have qA_65 : Sl aA 65 (ptr p 1) := (hdpA 4 _ 65 (by kernel_rfl) rfl rfl).2 rfl
   have hGA := hGA (hckA 21 rfl (by kernel_rfl))
   refine op_load1 (v := kv) one90 (ev_base hNA rfl qA_65) (hGA.cell rfl) ?_
   exact obTk_end rfl rfl
  ·
   intro eA tA aA wA hNA hckA hGA hbsA hdpA
   have qA_9 := (hbsA 9 rfl).trans (sl_hit hN rfl)
   refine op_move (ev_base hNA rfl qA_9) ?_
   exact obTk_end rfl rfl
  ·
   intro eA tA aA wA hNA hckA hGA hbsA hdpA
   have qA_10 := (hbsA 10 rfl).trans (sl_hit hN rfl)
   refine op_move (ev_base hNA rfl qA_10) ?_
   exact obTk_end rfl rfl
  ·
   intro eA tA aA wA hNA hckA hGA hbsA hdpA
   have qA_0 := (hbsA 0 rfl).trans (sl_base hN rfl s0)
   refine op_move (ev_base hNA rfl qA_0) ?_
   exact obTk_end rfl rfl
  ·
   intro eA tA aA wA hNA hckA hGA hbsA hdpA
   have qA_71 : Sl aA 71 (ptr p 0) := (hdpA 10 _ 71 (by kernel_rfl) rfl rfl).2 rfl
   refine op_nil (ev_base hNA rfl qA_71) ?_
   exact obTk_end rfl rfl
  ·
   intro eA tA aA wA hNA hckA hGA hbsA hdpA
   have qA_72 : Sl aA 72 (ptr p 0) := (hdpA 11 _ 72 (by kernel_rfl) rfl rfl).2 rfl
   refine op_field fld93_2 (ev_base hNA rfl qA_72) ?_
   exact obTk_end rfl rfl
  ·
   intro eA tA aA wA hNA hckA hGA hbsA hdpA
   have qA_73 : Sl aA 73 (ptr p 2) := (hdpA 12 _ 73 (by kernel_rfl) rfl rfl).2 rfl
   have hGA := hGA (hckA 21 rfl (by kernel_rfl))
   refine op_load1 (v := cv) one91 (ev_base hNA rfl qA_73) (hGA.cell rfl) ?_
   exact obTk_end rfl rfl
  ·
   intro eA tA aA wA hNA hckA hGA hbsA hdpA
   have qA_9 := (hbsA 9 rfl).trans (sl_hit hN rfl)
   refine op_move (ev_base hNA rfl qA_9) ?_
   exact obTk_end rfl rfl
  ·
   intro eA tA aA wA hNA hckA hGA hbsA hdpA
   have qA_75 : Sl aA 75 (Value.int .i64 (((way (K.map Prod.snd) k) : Nat) : Int)) := (hdpA 14 _ 75 (by kernel_rfl) rfl rfl).2 rfl
   refine op_add (ev_base hNA rfl qA_75) rfl (add64 (by omega)) ?_
   exact obTk_end rfl rfl
  ·
   intro eA tA aA wA hNA hckA hGA hbsA hdpA
   have qA_11 := (hbsA 11 rfl).trans (sl_hit hN rfl)
   refine op_move (ev_base hNA rfl qA_11) ?_
   exact obTk_end rfl rfl
  ·
   intro eA tA aA wA hNA hckA hGA hbsA hdpA
   have qA_61 : Sl aA 61 (ptr p 0) := (hdpA 0 _ 61 (by kernel_rfl) rfl rfl).2 rfl
   refine op_nil (ev_base hNA rfl qA_61) ?_
   exact obTk_end rfl rfl
  ·
   intro eA tA aA wA hNA hckA hGA hbsA hdpA
   have qA_80 : Sl aA 80 (ptr p 0) := (hdpA 19 _ 80 (by kernel_rfl) rfl rfl).2 rfl
   refine op_field fld93_1 (ev_base hNA rfl qA_80) ?_
   exact obTk_end rfl rfl
  ·
   refine ktk_step (rs := [8, 17]) (by kernel_rfl) ?_
   refine more_mem ?_ ?_
   · -- first 8
    intro w2228 E2228 _ a2228 hN2228 hbs2228 hdp2228 o_ ho_; obtain rfl := Option.some.inj ho_
    have z_w2228 := E2228.size
    have hx := hx.keep0 E2228
    have ok := ok.keep0 E2228
    have oc := oc.keep0 E2228
    have ks : ∀ x9 ∈ K, Own w2228 0 5 1 x9.1 x9.2.length (x9.2.map u8v) := fun x9 hx9 => (ks x9 hx9).keep0 E2228
    have hk := hk.keep0 E2228
    have hrest := hrest.keepG (Gr.of0 E2228 NoB) (fun _ _ h => h) (NoK.no _)
    have hB2187 := hB2187.keep0 E2228
    have hT2203 := hT2203.keepG (Gr.of0 E2228 NoB) (fun _ _ h => h) (NoK.no _)
    have hT2_2203 := hT2_2203.keepG (Gr.of0 E2228 NoB) (fun _ _ h => h) (NoK.no _)
    have hu2203 := hu2203.keep0 E2228
    have hb := hb.step0 E2228
    have q2228_68 : Sl a2228 68 u2203 := (hdp2228 7 _ 68 (by kernel_rfl) rfl rfl).2 rfl
    refine op_bslice (e := 27) (pv := [(0, u2203)]) (cs := [u2203]) ⟨rfl, (ev_base hN2228 rfl q2228_68), trivial⟩ (by obtain ⟨_, _, _, rfl⟩ := hu2203.sl; kernel_rfl) ?_
    intro w2229 b2230 lo_b2230 hi_b2230 hB2232 E2231
    have dj2233 : ¬ G0 b2230 := fun hf => by have := (hrest.lt _ hf).2; omega
    have dj2234 : ¬ W1_2203 b2230 := fun hf => by have := (hT2203.lt _ hf).2; omega
    have dj2235 : ¬ W2_2203 b2230 := fun hf => by have := (hT2_2203.lt _ hf).2; omega
    have ne_b2230_kv : kv.ownBlock ≠ some b2230 := fun hh => by have := (ok.lt _ hh).2; omega
    have z_w2229 := E2231.size
    have hx := hx.keep0 E2231
    have ok := ok.keep0 E2231
    have oc := oc.keep0 E2231
    have ks : ∀ x9 ∈ K, Own w2229 0 5 1 x9.1 x9.2.length (x9.2.map u8v) := fun x9 hx9 => (ks x9 hx9).keep0 E2231
    have hk := hk.keep0 E2231
    have hrest := hrest.keepG (Gr.of0 E2231 NoB) (fun _ _ h => h) (NoK.no _)
    have hB2187 := hB2187.keep0 E2231
    have hT2203 := hT2203.keepG (Gr.of0 E2231 NoB) (fun _ _ h => h) (NoK.no _)
    have hT2_2203 := hT2_2203.keepG (Gr.of0 E2231 NoB) (fun _ _ h => h) (NoK.no _)
    have hu2203 := hu2203.keep0 E2231
    have hb := hb.step0 E2231
    refine ktk_end (G := fun t9 w' => 21 ∈ t9 → (Bx w' p 93 [(Value.slice none 0 0), kv, cv])) (todo := [8, 9, 17, 18, 21]) (i := 8) rfl (fun _ => hx) ?_
    refine ktk_step (rs := [9, 17]) (by kernel_rfl) ?_
    refine more_mem ?_ ?_
    · -- first 9
     intro w2237 E2237 _ a2237 hN2237 hbs2237 hdp2237 o_ ho_; obtain rfl := Option.some.inj ho_
     have z_w2237 := E2237.size
     have hx := hx.keep0 E2237
     have ok := ok.keep0 E2237
     have oc := oc.keep0 E2237
     have ks : ∀ x9 ∈ K, Own w2237 0 5 1 x9.1 x9.2.length (x9.2.map u8v) := fun x9 hx9 => (ks x9 hx9).keep0 E2237
     have hk := hk.keep0 E2237
     have hrest := hrest.keepG (Gr.of0 E2237 NoB) (fun _ _ h => h) (NoK.no _)
     have hB2187 := hB2187.keep0 E2237
     have hT2203 := hT2203.keepG (Gr.of0 E2237 NoB) (fun _ _ h => h) (NoK.no _)
     have hT2_2203 := hT2_2203.keepG (Gr.of0 E2237 NoB) (fun _ _ h => h) (NoK.no _)
     have hu2203 := hu2203.keep0 E2237
     have hB2232 := hB2232.keep0 E2237
     have hb := hb.step0 E2237
     have q2237_66 : Sl a2237 66 kv := (hdp2237 5 _ 66 (by kernel_rfl) rfl rfl).2 rfl
     have q2237_67 : Sl a2237 67 (Value.int .i64 (((way (K.map Prod.snd) k) : Nat) : Int)) := (hdp2237 6 _ 67 (by kernel_rfl) rfl rfl).2 rfl
     have q2237_69 : Sl a2237 69 (Value.slice (some ⟨b2230, 0, none⟩) 1 1) := (Option.some.inj ((hdp2237 8 _ 69 (by kernel_rfl) rfl rfl).1 rfl)).symm
     refine op_fn (vs := [kv, (Value.int .i64 (((way (K.map Prod.snd) k) : Nat) : Int)), (Value.slice (some ⟨b2230, 0, none⟩) 1 1)]) ok67 ⟨(ev_base hN2237 rfl q2237_66), ⟨(ev_base hN2237 rfl q2237_67), ⟨(ev_base hN2237 rfl q2237_69), trivial⟩⟩⟩ (InsK ok hB2232 (one_kd ks (fun _ h => h)) (by simp only [List.all_cons, List.all_nil, Bool.true_and, Bool.and_true, hu2203.one]; try rfl) (by first | omega | (simp only [List.length_insertIdx, List.length_set, List.length_drop, List.length_take]; omega) | (simp; omega)) (by first | omega | (simp only [List.length_insertIdx, List.length_set, List.length_drop, List.length_take]; omega) | (simp; omega)) ne_b2230_kv) ?_
     rintro v2238 w2239 ⟨E2240, hO2238, hm2238⟩
     have dj2241 : Dj G0 (Bl v2238) := Dj.step hm2238 (fun k hk => (hrest.lt k hk).2) djkG.symm
     have dj2242 : Dj W1_2203 (Bl v2238) := Dj.step hm2238 (fun k hk => (hT2203.lt k hk).2) dj2213.symm
     have dj2243 : Dj W2_2203 (Bl v2238) := Dj.step hm2238 (fun k hk => (hT2_2203.lt k hk).2) dj2219.symm
     have hin2244 := inF_step (n := w.heap.size) hm2238 (by omega) (fun k _ h => hNd.wk k h)
     have z_w2239 := E2240.size
     have hx := hx.keepO ok E2240 (by decide)
     have oc := oc.keepT ok E2240 (by decide)
     have ks : ∀ x9 ∈ K, Own w2239 0 5 1 x9.1 x9.2.length (x9.2.map u8v) := fun x9 hx9 => (ks x9 hx9).keepT ok E2240 (by decide)
     have hk := hk.keepT ok E2240 (by decide)
     have hrest := hrest.keepG (Gr.of E2240) djkG.symm (NoK.ofOwn ok (by decide))
     have hB2187 := hB2187.keepO ok E2240 (by decide)
     have hT2203 := hT2203.keepG (Gr.of E2240) dj2213.symm (NoK.ofOwn ok (by decide))
     have hT2_2203 := hT2_2203.keepG (Gr.of E2240) dj2219.symm (NoK.ofOwn ok (by decide))
     have hu2203 := hu2203.keepT ok E2240 (by decide)
     have hB2232 := hB2232.keep E2240 (fun hh => ne_b2230_kv hh.symm)
     have hb := hb.stepL E2240 (fun k _ h => hNd.wk k h)
     have hO2238 : Own w2239 0 27 1 v2238 (K.insertIdx (way (K.map Prod.snd) k) (u2203, y2203)).length ((K.insertIdx (way (K.map Prod.snd) k) (u2203, y2203)).flatMap cK) := hO2238.cast (by rw [List.length_insertIdx, if_pos (by first | omega | (simp only [List.length_insertIdx, List.length_set, List.length_drop, List.length_take]; omega) | (simp; omega))]) (flat_ins cK_len (u2203, y2203) (by first | omega | (simp only [List.length_insertIdx, List.length_set, List.length_drop, List.length_take]; omega) | (simp; omega)))
     refine ktk_end (G := fun t9 w' => 21 ∈ t9 → (Bx w' p 93 [(Value.slice none 0 0), kv, cv])) (todo := [9, 17, 18, 21]) (i := 9) rfl (fun _ => hx) ?_
     refine ktk_step (rs := [17]) (by kernel_rfl) ?_
     refine one_mem ?_
     intro w2246 E2246 _ a2246 hN2246 hbs2246 hdp2246 o_ ho_; obtain rfl := Option.some.inj ho_
     have z_w2246 := E2246.size
     have hx := hx.keep0 E2246
     have oc := oc.keep0 E2246
     have ks : ∀ x9 ∈ K, Own w2246 0 5 1 x9.1 x9.2.length (x9.2.map u8v) := fun x9 hx9 => (ks x9 hx9).keep0 E2246
     have hk := hk.keep0 E2246
     have hrest := hrest.keepG (Gr.of0 E2246 NoB) (fun _ _ h => h) (NoK.no _)
     have hB2187 := hB2187.keep0 E2246
     have hT2203 := hT2203.keepG (Gr.of0 E2246 NoB) (fun _ _ h => h) (NoK.no _)
     have hT2_2203 := hT2_2203.keepG (Gr.of0 E2246 NoB) (fun _ _ h => h) (NoK.no _)
     have hu2203 := hu2203.keep0 E2246
     have hB2232 := hB2232.keep0 E2246
     have hO2238 := hO2238.keep0 E2246
     have hb := hb.step0 E2246
     have q2246_77 : Sl a2246 77 (ptr q2203 0) := (hdp2246 16 _ 77 (by kernel_rfl) rfl rfl).2 rfl
     refine op_bslice (e := 86) (pv := [(0, (ptr q2203 0))]) (cs := [(ptr q2203 0)]) ⟨rfl, (ev_base hN2246 rfl q2246_77), trivial⟩ (by kernel_rfl) ?_
     intro w2247 b2248 lo_b2248 hi_b2248 hB2250 E2249
     have dj2251 : ¬ G0 b2248 := fun hf => by have := (hrest.lt _ hf).2; omega
     have dj2252 : ¬ W1_2203 b2248 := fun hf => by have := (hT2203.lt _ hf).2; omega
     have dj2253 : ¬ W2_2203 b2248 := fun hf => by have := (hT2_2203.lt _ hf).2; omega
     have ne_b2248_cv : cv.ownBlock ≠ some b2248 := fun hh => by have := (oc.lt _ hh).2; omega
     have z_w2247 := E2249.size
     have hx := hx.keep0 E2249
     have oc := oc.keep0 E2249
     have ks : ∀ x9 ∈ K, Own w2247 0 5 1 x9.1 x9.2.length (x9.2.map u8v) := fun x9 hx9 => (ks x9 hx9).keep0 E2249
     have hk := hk.keep0 E2249
     have hrest := hrest.keepG (Gr.of0 E2249 NoB) (fun _ _ h => h) (NoK.no _)
     have hB2187 := hB2187.keep0 E2249
     have hT2203 := hT2203.keepG (Gr.of0 E2249 NoB) (fun _ _ h => h) (NoK.no _)
     have hT2_2203 := hT2_2203.keepG (Gr.of0 E2249 NoB) (fun _ _ h => h) (NoK.no _)
     have hu2203 := hu2203.keep0 E2249
     have hB2232 := hB2232.keep0 E2249
     have hO2238 := hO2238.keep0 E2249
     have hb := hb.step0 E2249
     refine ktk_end (G := fun t9 w' => 21 ∈ t9 → (Bx w' p 93 [(Value.slice none 0 0), kv, cv])) (todo := [17, 18, 21]) (i := 17) rfl (fun _ => hx) ?_
     refine ktk_step (rs := [18]) (by kernel_rfl) ?_
     refine one_mem ?_
     intro w2255 E2255 _ a2255 hN2255 hbs2255 hdp2255 o_ ho_; obtain rfl := Option.some.inj ho_
     have z_w2255 := E2255.size
     have hx := hx.keep0 E2255
     have oc := oc.keep0 E2255
     have ks : ∀ x9 ∈ K, Own w2255 0 5 1 x9.1 x9.2.length (x9.2.map u8v) := fun x9 hx9 => (ks x9 hx9).keep0 E2255
     have hk := hk.keep0 E2255
     have hrest := hrest.keepG (Gr.of0 E2255 NoB) (fun _ _ h => h) (NoK.no _)
     have hB2187 := hB2187.keep0 E2255
     have hT2203 := hT2203.keepG (Gr.of0 E2255 NoB) (fun _ _ h => h) (NoK.no _)
     have hT2_2203 := hT2_2203.keepG (Gr.of0 E2255 NoB) (fun _ _ h => h) (NoK.no _)
     have hu2203 := hu2203.keep0 E2255
     have hB2232 := hB2232.keep0 E2255
     have hO2238 := hO2238.keep0 E2255
     have hB2250 := hB2250.keep0 E2255
     have hb := hb.step0 E2255
     have q2255_74 : Sl a2255 74 cv := (hdp2255 13 _ 74 (by kernel_rfl) rfl rfl).2 rfl
     have q2255_76 : Sl a2255 76 (Value.int .i64 ((((way (K.map Prod.snd) k) : Nat) : Int) + 1)) := (hdp2255 15 _ 76 (by kernel_rfl) rfl rfl).2 rfl
     have q2255_78 : Sl a2255 78 (Value.slice (some ⟨b2248, 0, none⟩) 1 1) := (Option.some.inj ((hdp2255 17 _ 78 (by kernel_rfl) rfl rfl).1 rfl)).symm
     refine op_fn (vs := [cv, (Value.int .i64 ((((way (K.map Prod.snd) k) : Nat) : Int) + 1)), (Value.slice (some ⟨b2248, 0, none⟩) 1 1)]) ok68 ⟨(ev_base hN2255 rfl q2255_74), ⟨(ev_base hN2255 rfl q2255_76), ⟨(ev_base hN2255 rfl q2255_78), trivial⟩⟩⟩ (InsNS oc hB2250 (one_pn _) rfl (by first | omega | (simp only [List.length_insertIdx, List.length_set, List.length_drop, List.length_take]; omega) | (simp; omega)) (by first | omega | (simp only [List.length_insertIdx, List.length_set, List.length_drop, List.length_take]; omega) | (simp; omega)) ne_b2248_cv) ?_
     rintro v2256 w2257 ⟨E2258, hO2256, hm2256⟩
     have dj2259 : Dj G0 (Bl v2256) := Dj.step hm2256 (fun k hk => (hrest.lt k hk).2) djcG.symm
     have dj2260 : Dj W1_2203 (Bl v2256) := Dj.step hm2256 (fun k hk => (hT2203.lt k hk).2) dj2214.symm
     have dj2261 : Dj W2_2203 (Bl v2256) := Dj.step hm2256 (fun k hk => (hT2_2203.lt k hk).2) dj2220.symm
     have hin2262 := inF_step (n := w.heap.size) hm2256 (by omega) (fun k _ h => hNd.wc k h)
     have z_w2257 := E2258.size
     have hx := hx.keepO oc E2258 (by decide)
     have ks : ∀ x9 ∈ K, Own w2257 0 5 1 x9.1 x9.2.length (x9.2.map u8v) := fun x9 hx9 => (ks x9 hx9).keepT oc E2258 (by decide)
     have hk := hk.keepT oc E2258 (by decide)
     have hrest := hrest.keepG (Gr.of E2258) djcG.symm (NoK.ofOwn oc (by decide))
     have hB2187 := hB2187.keepO oc E2258 (by decide)
     have hT2203 := hT2203.keepG (Gr.of E2258) dj2214.symm (NoK.ofOwn oc (by decide))
     have hT2_2203 := hT2_2203.keepG (Gr.of E2258) dj2220.symm (NoK.ofOwn oc (by decide))
     have hu2203 := hu2203.keepT oc E2258 (by decide)
     have hB2232 := hB2232.keepO oc E2258 (by decide)
     have hO2238 := hO2238.keepT oc E2258 (by decide)
     have hB2250 := hB2250.keep E2258 (fun hh => ne_b2248_cv hh.symm)
     have hb := hb.stepL E2258 (fun k _ h => hNd.wc k h)
     have hO2256 : Own w2257 0 86 1 v2256 (P.insertIdx (((way (K.map Prod.snd) k)) + 1) q2203).length ((P.insertIdx (((way (K.map Prod.snd) k)) + 1) q2203).flatMap cN) := hO2256.cast (by rw [List.length_insertIdx, if_pos (by first | omega | (simp only [List.length_insertIdx, List.length_set, List.length_drop, List.length_take]; omega) | (simp; omega))]) (flat_ins cN_len q2203 (by first | omega | (simp only [List.length_insertIdx, List.length_set, List.length_drop, List.length_take]; omega) | (simp; omega)))
     refine ktk_end (G := fun t9 w' => 21 ∈ t9 → (Bx w' p 93 [(Value.slice none 0 0), kv, cv])) (todo := [18, 21]) (i := 18) rfl (fun _ => hx) ?_
     refine ktk_step (rs := [21]) (by kernel_rfl) ?_
     refine one_mem ?_
     intro w2264 E2264 _ a2264 hN2264 hbs2264 hdp2264 o_ ho_; obtain rfl := Option.some.inj ho_
     have z_w2264 := E2264.size
     have hx := hx.keep0 E2264
     have ks : ∀ x9 ∈ K, Own w2264 0 5 1 x9.1 x9.2.length (x9.2.map u8v) := fun x9 hx9 => (ks x9 hx9).keep0 E2264
     have hk := hk.keep0 E2264
     have hrest := hrest.keepG (Gr.of0 E2264 NoB) (fun _ _ h => h) (NoK.no _)
     have hB2187 := hB2187.keep0 E2264
     have hT2203 := hT2203.keepG (Gr.of0 E2264 NoB) (fun _ _ h => h) (NoK.no _)
     have hT2_2203 := hT2_2203.keepG (Gr.of0 E2264 NoB) (fun _ _ h => h) (NoK.no _)
     have hu2203 := hu2203.keep0 E2264
     have hB2232 := hB2232.keep0 E2264
     have hO2238 := hO2238.keep0 E2264
     have hB2250 := hB2250.keep0 E2264
     have hO2256 := hO2256.keep0 E2264
     have hb := hb.step0 E2264
     have q2264_81 : Sl a2264 81 (ptr p 1) := (hdp2264 20 _ 81 (by kernel_rfl) rfl rfl).2 rfl
     have q2264_70 : Sl a2264 70 v2238 := (Option.some.inj ((hdp2264 9 _ 70 (by kernel_rfl) rfl rfl).1 rfl)).symm
     have hx_old := hx
     refine op_store (vs := [v2238]) (cs' := [(Value.slice none 0 0), v2238, cv]) size90 (ev_base hN2264 rfl q2264_81) (ev_base hN2264 rfl q2264_70) hO2238.cl rfl (by simp only [List.all_cons, List.all_nil, Bool.true_and, Bool.and_true, hO2238.one]; try rfl) hx (Nat.le_of_ble_eq_true rfl) rfl ?_
     intro w2267 hx E2268
     have z_w2267 := E2268.size
     have ks : ∀ x9 ∈ K, Own w2267 0 5 1 x9.1 x9.2.length (x9.2.map u8v) := fun x9 hx9 => (ks x9 hx9).keepX hx_old E2268 (by decide)
     have hk := hk.keepX hx_old E2268 (by decide)
     have hrest := hrest.keepG (Gr.of E2268) (Dj.one djpG) (NoK.ofBx hx_old (by decide))
     have hB2187 := hB2187.keep E2268 (fun hh => hB2187.ne hx_old (by decide) (Option.some.inj hh))
     have hT2203 := hT2203.keepG (Gr.of E2268) (Dj.one dj2212) (NoK.ofBx hx_old (by decide))
     have hT2_2203 := hT2_2203.keepG (Gr.of E2268) (Dj.one dj2218) (NoK.ofBx hx_old (by decide))
     have hu2203 := hu2203.keepX hx_old E2268 (by decide)
     have hB2232 := hB2232.keep E2268 (fun hh => hB2232.ne hx_old (by decide) (Option.some.inj hh))
     have hO2238 := hO2238.keepX hx_old E2268 (by decide)
     have hB2250 := hB2250.keep E2268 (fun hh => hB2250.ne hx_old (by decide) (Option.some.inj hh))
     have hO2256 := hO2256.keepX hx_old E2268 (by decide)
     have hb := hb.stepB E2268 hNd.wp
     refine ktk_end0 (G := fun t9 w' => 21 ∈ t9 → (Bx w' p 93 [(Value.slice none 0 0), kv, cv])) (todo := [21]) (i := 21) rfl (fun h => absurd h (by decide)) ?_
     intro w2269 E2269 a2269 hN2269 hd2269 hbs2269 hph2269
     have hd2269 := hd2269.trans ((by simp only [putsL_defers] : _ = _).trans hd)
     have z_w2269 := E2269.size
     have ks : ∀ x9 ∈ K, Own w2269 0 5 1 x9.1 x9.2.length (x9.2.map u8v) := fun x9 hx9 => (ks x9 hx9).keep0 E2269
     have hk := hk.keep0 E2269
     have hrest := hrest.keepG (Gr.of0 E2269 NoB) (fun _ _ h => h) (NoK.no _)
     have hB2187 := hB2187.keep0 E2269
     have hT2203 := hT2203.keepG (Gr.of0 E2269 NoB) (fun _ _ h => h) (NoK.no _)
     have hT2_2203 := hT2_2203.keepG (Gr.of0 E2269 NoB) (fun _ _ h => h) (NoK.no _)
     have hu2203 := hu2203.keep0 E2269
     have hB2232 := hB2232.keep0 E2269
     have hO2238 := hO2238.keep0 E2269
     have hB2250 := hB2250.keep0 E2269
     have hO2256 := hO2256.keep0 E2269
     have hx := hx.keep0 E2269
     have hb := hb.step0 E2269
     have s2269_0 := (hbs2269 0 rfl).trans (sl_base hN rfl s0)
     have s2269_4 := (hbs2269 4 rfl).trans (sl_hit hN rfl)
     have s2269_5 := (hbs2269 5 rfl).trans (sl_hit hN rfl)
     have s2269_6 := (hbs2269 6 rfl).trans (sl_hit hN rfl)
     have s2269_62 : Sl a2269 62 (ptr p 0) := (hph2269 1 _ 62 rfl rfl).2 rfl
     have s2269_79 : Sl a2269 79 v2256 := (Option.some.inj ((hph2269 18 _ 79 rfl rfl).1 rfl)).symm
     refine split_end ?_
     refine from_seq (tl := [_, _, _]) (by decide) (by kernel_rfl) rfl ?_
     refine op_nil (ev_base hN2269 rfl s2269_62) ?_
     refine op_field fld93_2 (ev_hit hN2269 rfl) ?_
     have hx_old := hx
     refine op_store (vs := [v2256]) (cs' := [(Value.slice none 0 0), v2238, v2256]) size91 (ev_hit hN2269 rfl) (ev_base hN2269 rfl s2269_79) hO2256.cl rfl (by simp only [List.all_cons, List.all_nil, Bool.true_and, Bool.and_true, hO2256.one]; try rfl) hx (Nat.le_of_ble_eq_true rfl) rfl ?_
     intro w2272 hx E2273
     have z_w2272 := E2273.size
     have ks : ∀ x9 ∈ K, Own w2272 0 5 1 x9.1 x9.2.length (x9.2.map u8v) := fun x9 hx9 => (ks x9 hx9).keepX hx_old E2273 (by decide)
     have hk := hk.keepX hx_old E2273 (by decide)
     have hrest := hrest.keepG (Gr.of E2273) (Dj.one djpG) (NoK.ofBx hx_old (by decide))
     have hB2187 := hB2187.keep E2273 (fun hh => hB2187.ne hx_old (by decide) (Option.some.inj hh))
     have hT2203 := hT2203.keepG (Gr.of E2273) (Dj.one dj2212) (NoK.ofBx hx_old (by decide))
     have hT2_2203 := hT2_2203.keepG (Gr.of E2273) (Dj.one dj2218) (NoK.ofBx hx_old (by decide))
     have hu2203 := hu2203.keepX hx_old E2273 (by decide)
     have hB2232 := hB2232.keep E2273 (fun hh => hB2232.ne hx_old (by decide) (Option.some.inj hh))
     have hO2238 := hO2238.keepX hx_old E2273 (by decide)
     have hB2250 := hB2250.keep E2273 (fun hh => hB2250.ne hx_old (by decide) (Option.some.inj hh))
     have hO2256 := hO2256.keepX hx_old E2273 (by decide)
     have hb := hb.stepB E2273 hNd.wp
     refine reg_nil ?_
     refine hK2190 _ _ ?_
     refine seq_any fun K2274 hK2274 => ?_
     refine one_reg ?_
     have hl1 : (K.insertIdx (way (K.map Prod.snd) k) (u2203, y2203)).length = K.length + 1 := by rw [List.length_insertIdx, if_pos hwl]
     have hl2 : (P.insertIdx (((way (K.map Prod.snd) k)) + 1) q2203).length = P.length + 1 := by rw [List.length_insertIdx, if_pos (by omega)]
     have ks2275 : ∀ x9 ∈ (K.insertIdx (way (K.map Prod.snd) k) (u2203, y2203)), Own w2272 0 5 1 x9.1 x9.2.length (x9.2.map u8v) := kks_ins ks hu2203 hwl
     refine op_move (ev_base hN2269 rfl s2269_0) ?_
     rcases Bool.eq_false_or_eq_true (decide ((K.insertIdx (way (K.map Prod.snd) k) (u2203, y2203)).length ≤ 6)) with k86 | k86
     · -- 86T
      refine op_fn (vs := [(ptr p 0)]) ok69 ⟨(ev_hit hN2269 rfl), trivial⟩ (Ret.flip (halvesNsS hx hO2238 hO2256 (by first | omega | (simp only [List.length_insertIdx, List.length_set, List.length_drop, List.length_take]; omega) | (simp; omega)) (of_decide_eq_true k86))) ?_
      rintro _ _ ⟨rfl, rfl⟩
      refine op_move (ev_hit hN2269 rfl) ?_
      refine op_extract (ev_hit hN2269 rfl) rfl ?_
      refine op_extract (ev_hit hN2269 rfl) rfl ?_
      refine op_assign (ev_hit hN2269 rfl) ?_
      refine op_assign (ev_hit hN2269 rfl) ?_
      refine reg_nil ?_
      refine hK2274 _ _ ?_
      refine seq_any fun K2276 hK2276 => ?_
      refine one_reg ?_
      refine op_move (ev_base hN2269 rfl s2269_4) ?_
      refine op_move (ev_hit hN2269 rfl) ?_
      refine op_move (ev_hit hN2269 rfl) ?_
      refine op_assign (ev_hit hN2269 rfl) ?_
      refine op_assign (ev_hit hN2269 rfl) ?_
      refine op_assign (ev_hit hN2269 rfl) ?_
      refine reg_nil ?_
      refine hK2276 _ _ ?_
      refine wp_ret ?_
      refine retN (rs := [.tmp 4, .tmp 5, .tmp 6]) (vs := [(Value.bool (putT h k x c).1), (Value.slice none 0 0), (Value.pointer none)]) rfl hd2269 ⟨(ev_hit hN2269 rfl), ⟨(ev_hit hN2269 rfl), ⟨(ev_hit hN2269 rfl), trivial⟩⟩⟩ rfl ⟨_, rfl, ?_⟩
      -- path 55T 86T
      exact ⟨hb, _, _, by rw [(put_some (u := u2203) hc hr2203 hwl)]; rfl, out_node_small (K := (K.insertIdx (way (K.map Prod.snd) k) (u2203, y2203))) (ts := ((cs.set (way (K.map Prod.snd) k) (putT h k x c).2.1).insertIdx ((way (K.map Prod.snd) k) + 1) t2_2203)) ((congrArg Prod.snd (put_some (u := u2203) hc hr2203 hwl)).trans (halves_nsmall (by simpa using of_decide_eq_true k86))) hx hO2238 hO2256 ks2275 (kks_ins hNd.kr hur2203 hwl) (Kids.ins (i := (way (K.map Prod.snd) k) + 1) (Kids.back1 (i := (way (K.map Prod.snd) k)) (A := TreeR kS R w2272 h) hrest hPc hic hT2203 dj2216.symm) (by rw [List.length_set]; omega) hT2_2203 (fun k h1 h2 => h2.elim (hd2203.symm k h1) (dj2222.symm k h1))) (fun h9 => h9.elim (fun h8 => dj2218 h8) (fun h8 => h8.elim (fun h8 => dj2212 h8) (fun h8 => djpG h8))) (fun j hj h9 => h9.elim (fun h8 => dj2243.symm j hj h8) (fun h8 => h8.elim (fun h8 => dj2242.symm j hj h8) (fun h8 => dj2241.symm j hj h8))) (fun j hj h9 => h9.elim (fun h8 => dj2261.symm j hj h8) (fun h8 => h8.elim (fun h8 => dj2260.symm j hj h8) (fun h8 => dj2259.symm j hj h8))) (nodeW_in (fun _ => hNd.wp) hin2244 hin2262 (fun j hj h9 => h9.elim (fun h8 => hin2225 j hj h8) (fun h8 => h8.elim (fun h8 => hin2224 j hj h8) (fun h8 => (fun j _ q => hNd.wg j (hGs j q)) j hj h8))))⟩
     · -- 86F
      refine op_fn (vs := [(ptr p 0)]) ok69 ⟨(ev_hit hN2269 rfl), trivial⟩ (halvesNbS hx hO2238 hO2256 ks2275 (by first | omega | (simp only [List.length_insertIdx, List.length_set, List.length_drop, List.length_take]; omega) | (simp; omega)) (by have := of_decide_eq_false k86; omega) (by first | omega | (simp only [List.length_insertIdx, List.length_set, List.length_drop, List.length_take]; omega) | (simp; omega))) ?_
      rintro _ w2278 ⟨E2279, q2277, qk2277, qc2277, rfl, hx2277, oa2277, ob2277, lo2277, hB2277, oc2277, od2277⟩
      have ht2280 := hx.lt
      have ht2281 := hO2238.lt
      have ht2282 := hO2256.lt
      have ht2283 := hrest.lt
      have ht2284 := hT2203.lt
      have ht2285 := hT2_2203.lt
      have E2279 := E2279.grown (row := some p) (fun k _ h => by rw [h])
      have hx_old := hx
      have z_w2278 := E2279.size
      have ks : ∀ x9 ∈ K, Own w2278 0 5 1 x9.1 x9.2.length (x9.2.map u8v) := fun x9 hx9 => (ks x9 hx9).keepX hx_old E2279 (by decide)
      have hk := hk.keepX hx_old E2279 (by decide)
      have hrest := hrest.keepG (Gr.of E2279) (Dj.one djpG) (NoK.ofBx hx_old (by decide))
      have hB2187 := hB2187.keep E2279 (fun hh => hB2187.ne hx_old (by decide) (Option.some.inj hh))
      have hT2203 := hT2203.keepG (Gr.of E2279) (Dj.one dj2212) (NoK.ofBx hx_old (by decide))
      have hT2_2203 := hT2_2203.keepG (Gr.of E2279) (Dj.one dj2218) (NoK.ofBx hx_old (by decide))
      have hu2203 := hu2203.keepX hx_old E2279 (by decide)
      have hB2232 := hB2232.keep E2279 (fun hh => hB2232.ne hx_old (by decide) (Option.some.inj hh))
      have hB2250 := hB2250.keep E2279 (fun hh => hB2250.ne hx_old (by decide) (Option.some.inj hh))
      have ks2275 : ∀ x9 ∈ (K.insertIdx (way (K.map Prod.snd) k) (u2203, y2203)), Own w2278 0 5 1 x9.1 x9.2.length (x9.2.map u8v) := fun x9 hx9 => (ks2275 x9 hx9).keepX hx_old E2279 (by decide)
      have hb := hb.stepB E2279 hNd.wp
      refine op_move (ev_hit hN2269 rfl) ?_
      refine op_extract (ev_hit hN2269 rfl) rfl ?_
      refine op_extract (ev_hit hN2269 rfl) rfl ?_
      refine op_assign (ev_hit hN2269 rfl) ?_
      refine op_assign (ev_hit hN2269 rfl) ?_
      refine reg_nil ?_
      refine hK2274 _ _ ?_
      refine seq_any fun K2286 hK2286 => ?_
      refine one_reg ?_
      refine op_move (ev_base hN2269 rfl s2269_4) ?_
      refine op_move (ev_hit hN2269 rfl) ?_
      refine op_move (ev_hit hN2269 rfl) ?_
      refine op_assign (ev_hit hN2269 rfl) ?_
      refine op_assign (ev_hit hN2269 rfl) ?_
      refine op_assign (ev_hit hN2269 rfl) ?_
      refine reg_nil ?_
      refine hK2286 _ _ ?_
      refine wp_ret ?_
      refine retN (rs := [.tmp 4, .tmp 5, .tmp 6]) (vs := [(Value.bool (putT h k x c).1), ((K.insertIdx (way (K.map Prod.snd) k) (u2203, y2203)).getD ((K.insertIdx (way (K.map Prod.snd) k) (u2203, y2203)).length / 2) default).1, (ptr q2277 0)]) rfl hd2269 ⟨(ev_hit hN2269 rfl), ⟨(ev_hit hN2269 rfl), ⟨(ev_hit hN2269 rfl), trivial⟩⟩⟩ rfl ⟨_, rfl, ?_⟩
      -- path 55T 86F
      exact ⟨hb, _, _, by rw [(put_some (u := u2203) hc hr2203 hwl)]; rfl, out_node_big (K := (K.insertIdx (way (K.map Prod.snd) k) (u2203, y2203))) (ts := ((cs.set (way (K.map Prod.snd) k) (putT h k x c).2.1).insertIdx ((way (K.map Prod.snd) k) + 1) t2_2203)) ((congrArg Prod.snd (put_some (u := u2203) hc hr2203 hwl)).trans (halves_nbig (by have := of_decide_eq_false k86; omega))) (by have := of_decide_eq_false k86; omega) hx2277 oa2277 ob2277 hB2277 oc2277 od2277 lo2277 (by omega) ks2275 (kks_ins hNd.kr hur2203 hwl) (Kids.ins (i := (way (K.map Prod.snd) k) + 1) (Kids.back1 (i := (way (K.map Prod.snd) k)) (A := TreeR kS R w2278 h) hrest hPc hic hT2203 dj2216.symm) (by rw [List.length_set]; omega) hT2_2203 (fun k h1 h2 => h2.elim (hd2203.symm k h1) (dj2222.symm k h1))) (fun h9 => h9.elim (fun h8 => dj2218 h8) (fun h8 => h8.elim (fun h8 => dj2212 h8) (fun h8 => djpG h8))) (fun j hj h9 => h9.elim (fun h8 => dj2243.symm j ((hiV_ob _ _).symm.trans hj) h8) (fun h8 => h8.elim (fun h8 => dj2242.symm j ((hiV_ob _ _).symm.trans hj) h8) (fun h8 => dj2241.symm j ((hiV_ob _ _).symm.trans hj) h8))) (fun j hj h9 => h9.elim (fun h8 => dj2261.symm j ((hiV_ob _ _).symm.trans hj) h8) (fun h8 => h8.elim (fun h8 => dj2260.symm j ((hiV_ob _ _).symm.trans hj) h8) (fun h8 => dj2259.symm j ((hiV_ob _ _).symm.trans hj) h8))) (nodeW_in (fun _ => hNd.wp) (inF_step (n := w.heap.size) (.inl (hiV_ob _ _)) (Nat.le_refl _) hin2244) (inF_step (n := w.heap.size) (.inl (hiV_ob _ _)) (Nat.le_refl _) hin2262) (fun j hj h9 => h9.elim (fun h8 => hin2225 j hj h8) (fun h8 => h8.elim (fun h8 => hin2224 j hj h8) (fun h8 => (fun j _ q => hNd.wg j (hGs j q)) j hj h8)))) (nodeW_lt ht2280 (fun j h9 => (ht2281 j ((hiV_ob _ _).symm.trans h9)).2) (fun j h9 => (ht2282 j ((hiV_ob _ _).symm.trans h9)).2) (fun j h9 => h9.elim (fun h8 => (ht2285 j h8).2) (fun h8 => h8.elim (fun h8 => (ht2284 j h8).2) (fun h8 => (ht2283 j h8).2))))⟩
    refine one_mem ?_
    intro w2287 E2287 _ a2287 hN2287 hbs2287 hdp2287 o_ ho_; obtain rfl := Option.some.inj ho_
    have z_w2287 := E2287.size
    have hx := hx.keep0 E2287
    have ok := ok.keep0 E2287
    have oc := oc.keep0 E2287
    have ks : ∀ x9 ∈ K, Own w2287 0 5 1 x9.1 x9.2.length (x9.2.map u8v) := fun x9 hx9 => (ks x9 hx9).keep0 E2287
    have hk := hk.keep0 E2287
    have hrest := hrest.keepG (Gr.of0 E2287 NoB) (fun _ _ h => h) (NoK.no _)
    have hB2187 := hB2187.keep0 E2287
    have hT2203 := hT2203.keepG (Gr.of0 E2287 NoB) (fun _ _ h => h) (NoK.no _)
    have hT2_2203 := hT2_2203.keepG (Gr.of0 E2287 NoB) (fun _ _ h => h) (NoK.no _)
    have hu2203 := hu2203.keep0 E2287
    have hB2232 := hB2232.keep0 E2287
    have hb := hb.step0 E2287
    have q2287_77 : Sl a2287 77 (ptr q2203 0) := (hdp2287 16 _ 77 (by kernel_rfl) rfl rfl).2 rfl
    refine op_bslice (e := 86) (pv := [(0, (ptr q2203 0))]) (cs := [(ptr q2203 0)]) ⟨rfl, (ev_base hN2287 rfl q2287_77), trivial⟩ (by kernel_rfl) ?_
    intro w2288 b2289 lo_b2289 hi_b2289 hB2291 E2290
    have dj2292 : ¬ G0 b2289 := fun hf => by have := (hrest.lt _ hf).2; omega
    have dj2293 : ¬ W1_2203 b2289 := fun hf => by have := (hT2203.lt _ hf).2; omega
    have dj2294 : ¬ W2_2203 b2289 := fun hf => by have := (hT2_2203.lt _ hf).2; omega
    have ne_b2289_cv : cv.ownBlock ≠ some b2289 := fun hh => by have := (oc.lt _ hh).2; omega
    have z_w2288 := E2290.size
    have hx := hx.keep0 E2290
    have ok := ok.keep0 E2290
    have oc := oc.keep0 E2290
    have ks : ∀ x9 ∈ K, Own w2288 0 5 1 x9.1 x9.2.length (x9.2.map u8v) := fun x9 hx9 => (ks x9 hx9).keep0 E2290
    have hk := hk.keep0 E2290
    have hrest := hrest.keepG (Gr.of0 E2290 NoB) (fun _ _ h => h) (NoK.no _)
    have hB2187 := hB2187.keep0 E2290
    have hT2203 := hT2203.keepG (Gr.of0 E2290 NoB) (fun _ _ h => h) (NoK.no _)
    have hT2_2203 := hT2_2203.keepG (Gr.of0 E2290 NoB) (fun _ _ h => h) (NoK.no _)
    have hu2203 := hu2203.keep0 E2290
    have hB2232 := hB2232.keep0 E2290
    have hb := hb.step0 E2290
    refine ktk_end (G := fun t9 w' => 21 ∈ t9 → (Bx w' p 93 [(Value.slice none 0 0), kv, cv])) (todo := [9, 17, 18, 21]) (i := 17) rfl (fun _ => hx) ?_
    refine ktk_step (rs := [9]) (by kernel_rfl) ?_
    refine one_mem ?_
    intro w2296 E2296 _ a2296 hN2296 hbs2296 hdp2296 o_ ho_; obtain rfl := Option.some.inj ho_
    have z_w2296 := E2296.size
    have hx := hx.keep0 E2296
    have ok := ok.keep0 E2296
    have oc := oc.keep0 E2296
    have ks : ∀ x9 ∈ K, Own w2296 0 5 1 x9.1 x9.2.length (x9.2.map u8v) := fun x9 hx9 => (ks x9 hx9).keep0 E2296
    have hk := hk.keep0 E2296
    have hrest := hrest.keepG (Gr.of0 E2296 NoB) (fun _ _ h => h) (NoK.no _)
    have hB2187 := hB2187.keep0 E2296
    have hT2203 := hT2203.keepG (Gr.of0 E2296 NoB) (fun _ _ h => h) (NoK.no _)
    have hT2_2203 := hT2_2203.keepG (Gr.of0 E2296 NoB) (fun _ _ h => h) (NoK.no _)
    have hu2203 := hu2203.keep0 E2296
    have hB2232 := hB2232.keep0 E2296
    have hB2291 := hB2291.keep0 E2296
    have hb := hb.step0 E2296
    have q2296_66 : Sl a2296 66 kv := (hdp2296 5 _ 66 (by kernel_rfl) rfl rfl).2 rfl
    have q2296_67 : Sl a2296 67 (Value.int .i64 (((way (K.map Prod.snd) k) : Nat) : Int)) := (hdp2296 6 _ 67 (by kernel_rfl) rfl rfl).2 rfl
    have q2296_69 : Sl a2296 69 (Value.slice (some ⟨b2230, 0, none⟩) 1 1) := (Option.some.inj ((hdp2296 8 _ 69 (by kernel_rfl) rfl rfl).1 rfl)).symm
    refine op_fn (vs := [kv, (Value.int .i64 (((way (K.map Prod.snd) k) : Nat) : Int)), (Value.slice (some ⟨b2230, 0, none⟩) 1 1)]) ok67 ⟨(ev_base hN2296 rfl q2296_66), ⟨(ev_base hN2296 rfl q2296_67), ⟨(ev_base hN2296 rfl q2296_69), trivial⟩⟩⟩ (InsK ok hB2232 (one_kd ks (fun _ h => h)) (by simp only [List.all_cons, List.all_nil, Bool.true_and, Bool.and_true, hu2203.one]; try rfl) (by first | omega | (simp only [List.length_insertIdx, List.length_set, List.length_drop, List.length_take]; omega) | (simp; omega)) (by first | omega | (simp only [List.length_insertIdx, List.length_set, List.length_drop, List.length_take]; omega) | (simp; omega)) ne_b2230_kv) ?_
    rintro v2297 w2298 ⟨E2299, hO2297, hm2297⟩
    have dj2300 : Dj G0 (Bl v2297) := Dj.step hm2297 (fun k hk => (hrest.lt k hk).2) djkG.symm
    have dj2301 : Dj W1_2203 (Bl v2297) := Dj.step hm2297 (fun k hk => (hT2203.lt k hk).2) dj2213.symm
    have dj2302 : Dj W2_2203 (Bl v2297) := Dj.step hm2297 (fun k hk => (hT2_2203.lt k hk).2) dj2219.symm
    have hin2303 := inF_step (n := w.heap.size) hm2297 (by omega) (fun k _ h => hNd.wk k h)
    have z_w2298 := E2299.size
    have hx := hx.keepO ok E2299 (by decide)
    have oc := oc.keepT ok E2299 (by decide)
    have ks : ∀ x9 ∈ K, Own w2298 0 5 1 x9.1 x9.2.length (x9.2.map u8v) := fun x9 hx9 => (ks x9 hx9).keepT ok E2299 (by decide)
    have hk := hk.keepT ok E2299 (by decide)
    have hrest := hrest.keepG (Gr.of E2299) djkG.symm (NoK.ofOwn ok (by decide))
    have hB2187 := hB2187.keepO ok E2299 (by decide)
    have hT2203 := hT2203.keepG (Gr.of E2299) dj2213.symm (NoK.ofOwn ok (by decide))
    have hT2_2203 := hT2_2203.keepG (Gr.of E2299) dj2219.symm (NoK.ofOwn ok (by decide))
    have hu2203 := hu2203.keepT ok E2299 (by decide)
    have hB2232 := hB2232.keep E2299 (fun hh => ne_b2230_kv hh.symm)
    have hB2291 := hB2291.keepO ok E2299 (by decide)
    have hb := hb.stepL E2299 (fun k _ h => hNd.wk k h)
    have hO2297 : Own w2298 0 27 1 v2297 (K.insertIdx (way (K.map Prod.snd) k) (u2203, y2203)).length ((K.insertIdx (way (K.map Prod.snd) k) (u2203, y2203)).flatMap cK) := hO2297.cast (by rw [List.length_insertIdx, if_pos (by first | omega | (simp only [List.length_insertIdx, List.length_set, List.length_drop, List.length_take]; omega) | (simp; omega))]) (flat_ins cK_len (u2203, y2203) (by first | omega | (simp only [List.length_insertIdx, List.length_set, List.length_drop, List.length_take]; omega) | (simp; omega)))
    refine ktk_end (G := fun t9 w' => 21 ∈ t9 → (Bx w' p 93 [(Value.slice none 0 0), kv, cv])) (todo := [9, 18, 21]) (i := 9) rfl (fun _ => hx) ?_
    refine ktk_step (rs := [18]) (by kernel_rfl) ?_
    refine one_mem ?_
    intro w2305 E2305 _ a2305 hN2305 hbs2305 hdp2305 o_ ho_; obtain rfl := Option.some.inj ho_
    have z_w2305 := E2305.size
    have hx := hx.keep0 E2305
    have oc := oc.keep0 E2305
    have ks : ∀ x9 ∈ K, Own w2305 0 5 1 x9.1 x9.2.length (x9.2.map u8v) := fun x9 hx9 => (ks x9 hx9).keep0 E2305
    have hk := hk.keep0 E2305
    have hrest := hrest.keepG (Gr.of0 E2305 NoB) (fun _ _ h => h) (NoK.no _)
    have hB2187 := hB2187.keep0 E2305
    have hT2203 := hT2203.keepG (Gr.of0 E2305 NoB) (fun _ _ h => h) (NoK.no _)
    have hT2_2203 := hT2_2203.keepG (Gr.of0 E2305 NoB) (fun _ _ h => h) (NoK.no _)
    have hu2203 := hu2203.keep0 E2305
    have hB2232 := hB2232.keep0 E2305
    have hB2291 := hB2291.keep0 E2305
    have hO2297 := hO2297.keep0 E2305
    have hb := hb.step0 E2305
    have q2305_74 : Sl a2305 74 cv := (hdp2305 13 _ 74 (by kernel_rfl) rfl rfl).2 rfl
    have q2305_76 : Sl a2305 76 (Value.int .i64 ((((way (K.map Prod.snd) k) : Nat) : Int) + 1)) := (hdp2305 15 _ 76 (by kernel_rfl) rfl rfl).2 rfl
    have q2305_78 : Sl a2305 78 (Value.slice (some ⟨b2289, 0, none⟩) 1 1) := (Option.some.inj ((hdp2305 17 _ 78 (by kernel_rfl) rfl rfl).1 rfl)).symm
    refine op_fn (vs := [cv, (Value.int .i64 ((((way (K.map Prod.snd) k) : Nat) : Int) + 1)), (Value.slice (some ⟨b2289, 0, none⟩) 1 1)]) ok68 ⟨(ev_base hN2305 rfl q2305_74), ⟨(ev_base hN2305 rfl q2305_76), ⟨(ev_base hN2305 rfl q2305_78), trivial⟩⟩⟩ (InsNS oc hB2291 (one_pn _) rfl (by first | omega | (simp only [List.length_insertIdx, List.length_set, List.length_drop, List.length_take]; omega) | (simp; omega)) (by first | omega | (simp only [List.length_insertIdx, List.length_set, List.length_drop, List.length_take]; omega) | (simp; omega)) ne_b2289_cv) ?_
    rintro v2306 w2307 ⟨E2308, hO2306, hm2306⟩
    have dj2309 : Dj G0 (Bl v2306) := Dj.step hm2306 (fun k hk => (hrest.lt k hk).2) djcG.symm
    have dj2310 : Dj W1_2203 (Bl v2306) := Dj.step hm2306 (fun k hk => (hT2203.lt k hk).2) dj2214.symm
    have dj2311 : Dj W2_2203 (Bl v2306) := Dj.step hm2306 (fun k hk => (hT2_2203.lt k hk).2) dj2220.symm
    have hin2312 := inF_step (n := w.heap.size) hm2306 (by omega) (fun k _ h => hNd.wc k h)
    have z_w2307 := E2308.size
    have hx := hx.keepO oc E2308 (by decide)
    have ks : ∀ x9 ∈ K, Own w2307 0 5 1 x9.1 x9.2.length (x9.2.map u8v) := fun x9 hx9 => (ks x9 hx9).keepT oc E2308 (by decide)
    have hk := hk.keepT oc E2308 (by decide)
    have hrest := hrest.keepG (Gr.of E2308) djcG.symm (NoK.ofOwn oc (by decide))
    have hB2187 := hB2187.keepO oc E2308 (by decide)
    have hT2203 := hT2203.keepG (Gr.of E2308) dj2214.symm (NoK.ofOwn oc (by decide))
    have hT2_2203 := hT2_2203.keepG (Gr.of E2308) dj2220.symm (NoK.ofOwn oc (by decide))
    have hu2203 := hu2203.keepT oc E2308 (by decide)
    have hB2232 := hB2232.keepO oc E2308 (by decide)
    have hB2291 := hB2291.keep E2308 (fun hh => ne_b2289_cv hh.symm)
    have hO2297 := hO2297.keepT oc E2308 (by decide)
    have hb := hb.stepL E2308 (fun k _ h => hNd.wc k h)
    have hO2306 : Own w2307 0 86 1 v2306 (P.insertIdx (((way (K.map Prod.snd) k)) + 1) q2203).length ((P.insertIdx (((way (K.map Prod.snd) k)) + 1) q2203).flatMap cN) := hO2306.cast (by rw [List.length_insertIdx, if_pos (by first | omega | (simp only [List.length_insertIdx, List.length_set, List.length_drop, List.length_take]; omega) | (simp; omega))]) (flat_ins cN_len q2203 (by first | omega | (simp only [List.length_insertIdx, List.length_set, List.length_drop, List.length_take]; omega) | (simp; omega)))
    refine ktk_end (G := fun t9 w' => 21 ∈ t9 → (Bx w' p 93 [(Value.slice none 0 0), kv, cv])) (todo := [18, 21]) (i := 18) rfl (fun _ => hx) ?_
    refine ktk_step (rs := [21]) (by kernel_rfl) ?_
    refine one_mem ?_
    intro w2314 E2314 _ a2314 hN2314 hbs2314 hdp2314 o_ ho_; obtain rfl := Option.some.inj ho_
    have z_w2314 := E2314.size
    have hx := hx.keep0 E2314
    have ks : ∀ x9 ∈ K, Own w2314 0 5 1 x9.1 x9.2.length (x9.2.map u8v) := fun x9 hx9 => (ks x9 hx9).keep0 E2314
    have hk := hk.keep0 E2314
    have hrest := hrest.keepG (Gr.of0 E2314 NoB) (fun _ _ h => h) (NoK.no _)
    have hB2187 := hB2187.keep0 E2314
    have hT2203 := hT2203.keepG (Gr.of0 E2314 NoB) (fun _ _ h => h) (NoK.no _)
    have hT2_2203 := hT2_2203.keepG (Gr.of0 E2314 NoB) (fun _ _ h => h) (NoK.no _)
    have hu2203 := hu2203.keep0 E2314
    have hB2232 := hB2232.keep0 E2314
    have hB2291 := hB2291.keep0 E2314
    have hO2297 := hO2297.keep0 E2314
    have hO2306 := hO2306.keep0 E2314
    have hb := hb.step0 E2314
    have q2314_81 : Sl a2314 81 (ptr p 1) := (hdp2314 20 _ 81 (by kernel_rfl) rfl rfl).2 rfl
    have q2314_70 : Sl a2314 70 v2297 := (Option.some.inj ((hdp2314 9 _ 70 (by kernel_rfl) rfl rfl).1 rfl)).symm
    have hx_old := hx
    refine op_store (vs := [v2297]) (cs' := [(Value.slice none 0 0), v2297, cv]) size90 (ev_base hN2314 rfl q2314_81) (ev_base hN2314 rfl q2314_70) hO2297.cl rfl (by simp only [List.all_cons, List.all_nil, Bool.true_and, Bool.and_true, hO2297.one]; try rfl) hx (Nat.le_of_ble_eq_true rfl) rfl ?_
    intro w2317 hx E2318
    have z_w2317 := E2318.size
    have ks : ∀ x9 ∈ K, Own w2317 0 5 1 x9.1 x9.2.length (x9.2.map u8v) := fun x9 hx9 => (ks x9 hx9).keepX hx_old E2318 (by decide)
    have hk := hk.keepX hx_old E2318 (by decide)
    have hrest := hrest.keepG (Gr.of E2318) (Dj.one djpG) (NoK.ofBx hx_old (by decide))
    have hB2187 := hB2187.keep E2318 (fun hh => hB2187.ne hx_old (by decide) (Option.some.inj hh))
    have hT2203 := hT2203.keepG (Gr.of E2318) (Dj.one dj2212) (NoK.ofBx hx_old (by decide))
    have hT2_2203 := hT2_2203.keepG (Gr.of E2318) (Dj.one dj2218) (NoK.ofBx hx_old (by decide))
    have hu2203 := hu2203.keepX hx_old E2318 (by decide)
    have hB2232 := hB2232.keep E2318 (fun hh => hB2232.ne hx_old (by decide) (Option.some.inj hh))
    have hB2291 := hB2291.keep E2318 (fun hh => hB2291.ne hx_old (by decide) (Option.some.inj hh))
    have hO2297 := hO2297.keepX hx_old E2318 (by decide)
    have hO2306 := hO2306.keepX hx_old E2318 (by decide)
    have hb := hb.stepB E2318 hNd.wp
    refine ktk_end0 (G := fun t9 w' => 21 ∈ t9 → (Bx w' p 93 [(Value.slice none 0 0), kv, cv])) (todo := [21]) (i := 21) rfl (fun h => absurd h (by decide)) ?_
    intro w2319 E2319 a2319 hN2319 hd2319 hbs2319 hph2319
    have hd2319 := hd2319.trans ((by simp only [putsL_defers] : _ = _).trans hd)
    have z_w2319 := E2319.size
    have ks : ∀ x9 ∈ K, Own w2319 0 5 1 x9.1 x9.2.length (x9.2.map u8v) := fun x9 hx9 => (ks x9 hx9).keep0 E2319
    have hk := hk.keep0 E2319
    have hrest := hrest.keepG (Gr.of0 E2319 NoB) (fun _ _ h => h) (NoK.no _)
    have hB2187 := hB2187.keep0 E2319
    have hT2203 := hT2203.keepG (Gr.of0 E2319 NoB) (fun _ _ h => h) (NoK.no _)
    have hT2_2203 := hT2_2203.keepG (Gr.of0 E2319 NoB) (fun _ _ h => h) (NoK.no _)
    have hu2203 := hu2203.keep0 E2319
    have hB2232 := hB2232.keep0 E2319
    have hB2291 := hB2291.keep0 E2319
    have hO2297 := hO2297.keep0 E2319
    have hO2306 := hO2306.keep0 E2319
    have hx := hx.keep0 E2319
    have hb := hb.step0 E2319
    have s2319_0 := (hbs2319 0 rfl).trans (sl_base hN rfl s0)
    have s2319_4 := (hbs2319 4 rfl).trans (sl_hit hN rfl)
    have s2319_5 := (hbs2319 5 rfl).trans (sl_hit hN rfl)
    have s2319_6 := (hbs2319 6 rfl).trans (sl_hit hN rfl)
    have s2319_62 : Sl a2319 62 (ptr p 0) := (hph2319 1 _ 62 rfl rfl).2 rfl
    have s2319_79 : Sl a2319 79 v2306 := (Option.some.inj ((hph2319 18 _ 79 rfl rfl).1 rfl)).symm
    refine split_end ?_
    refine from_seq (tl := [_, _, _]) (by decide) (by kernel_rfl) rfl ?_
    refine op_nil (ev_base hN2319 rfl s2319_62) ?_
    refine op_field fld93_2 (ev_hit hN2319 rfl) ?_
    have hx_old := hx
    refine op_store (vs := [v2306]) (cs' := [(Value.slice none 0 0), v2297, v2306]) size91 (ev_hit hN2319 rfl) (ev_base hN2319 rfl s2319_79) hO2306.cl rfl (by simp only [List.all_cons, List.all_nil, Bool.true_and, Bool.and_true, hO2306.one]; try rfl) hx (Nat.le_of_ble_eq_true rfl) rfl ?_
    intro w2322 hx E2323
    have z_w2322 := E2323.size
    have ks : ∀ x9 ∈ K, Own w2322 0 5 1 x9.1 x9.2.length (x9.2.map u8v) := fun x9 hx9 => (ks x9 hx9).keepX hx_old E2323 (by decide)
    have hk := hk.keepX hx_old E2323 (by decide)
    have hrest := hrest.keepG (Gr.of E2323) (Dj.one djpG) (NoK.ofBx hx_old (by decide))
    have hB2187 := hB2187.keep E2323 (fun hh => hB2187.ne hx_old (by decide) (Option.some.inj hh))
    have hT2203 := hT2203.keepG (Gr.of E2323) (Dj.one dj2212) (NoK.ofBx hx_old (by decide))
    have hT2_2203 := hT2_2203.keepG (Gr.of E2323) (Dj.one dj2218) (NoK.ofBx hx_old (by decide))
    have hu2203 := hu2203.keepX hx_old E2323 (by decide)
    have hB2232 := hB2232.keep E2323 (fun hh => hB2232.ne hx_old (by decide) (Option.some.inj hh))
    have hB2291 := hB2291.keep E2323 (fun hh => hB2291.ne hx_old (by decide) (Option.some.inj hh))
    have hO2297 := hO2297.keepX hx_old E2323 (by decide)
    have hO2306 := hO2306.keepX hx_old E2323 (by decide)
    have hb := hb.stepB E2323 hNd.wp
    refine reg_nil ?_
    refine hK2190 _ _ ?_
    refine seq_any fun K2324 hK2324 => ?_
    refine one_reg ?_
    have hl1 : (K.insertIdx (way (K.map Prod.snd) k) (u2203, y2203)).length = K.length + 1 := by rw [List.length_insertIdx, if_pos hwl]
    have hl2 : (P.insertIdx (((way (K.map Prod.snd) k)) + 1) q2203).length = P.length + 1 := by rw [List.length_insertIdx, if_pos (by omega)]
    have ks2325 : ∀ x9 ∈ (K.insertIdx (way (K.map Prod.snd) k) (u2203, y2203)), Own w2322 0 5 1 x9.1 x9.2.length (x9.2.map u8v) := kks_ins ks hu2203 hwl
    refine op_move (ev_base hN2319 rfl s2319_0) ?_
    rcases Bool.eq_false_or_eq_true (decide ((K.insertIdx (way (K.map Prod.snd) k) (u2203, y2203)).length ≤ 6)) with k86 | k86
    · -- 86T
     refine op_fn (vs := [(ptr p 0)]) ok69 ⟨(ev_hit hN2319 rfl), trivial⟩ (Ret.flip (halvesNsS hx hO2297 hO2306 (by first | omega | (simp only [List.length_insertIdx, List.length_set, List.length_drop, List.length_take]; omega) | (simp; omega)) (of_decide_eq_true k86))) ?_
     rintro _ _ ⟨rfl, rfl⟩
     refine op_move (ev_hit hN2319 rfl) ?_
     refine op_extract (ev_hit hN2319 rfl) rfl ?_
     refine op_extract (ev_hit hN2319 rfl) rfl ?_
     refine op_assign (ev_hit hN2319 rfl) ?_
     refine op_assign (ev_hit hN2319 rfl) ?_
     refine reg_nil ?_
     refine hK2324 _ _ ?_
     refine seq_any fun K2326 hK2326 => ?_
     refine one_reg ?_
     refine op_move (ev_base hN2319 rfl s2319_4) ?_
     refine op_move (ev_hit hN2319 rfl) ?_
     refine op_move (ev_hit hN2319 rfl) ?_
     refine op_assign (ev_hit hN2319 rfl) ?_
     refine op_assign (ev_hit hN2319 rfl) ?_
     refine op_assign (ev_hit hN2319 rfl) ?_
     refine reg_nil ?_
     refine hK2326 _ _ ?_
     refine wp_ret ?_
     refine retN (rs := [.tmp 4, .tmp 5, .tmp 6]) (vs := [(Value.bool (putT h k x c).1), (Value.slice none 0 0), (Value.pointer none)]) rfl hd2319 ⟨(ev_hit hN2319 rfl), ⟨(ev_hit hN2319 rfl), ⟨(ev_hit hN2319 rfl), trivial⟩⟩⟩ rfl ⟨_, rfl, ?_⟩
     -- path 55T 86T
     exact ⟨hb, _, _, by rw [(put_some (u := u2203) hc hr2203 hwl)]; rfl, out_node_small (K := (K.insertIdx (way (K.map Prod.snd) k) (u2203, y2203))) (ts := ((cs.set (way (K.map Prod.snd) k) (putT h k x c).2.1).insertIdx ((way (K.map Prod.snd) k) + 1) t2_2203)) ((congrArg Prod.snd (put_some (u := u2203) hc hr2203 hwl)).trans (halves_nsmall (by simpa using of_decide_eq_true k86))) hx hO2297 hO2306 ks2325 (kks_ins hNd.kr hur2203 hwl) (Kids.ins (i := (way (K.map Prod.snd) k) + 1) (Kids.back1 (i := (way (K.map Prod.snd) k)) (A := TreeR kS R w2322 h) hrest hPc hic hT2203 dj2216.symm) (by rw [List.length_set]; omega) hT2_2203 (fun k h1 h2 => h2.elim (hd2203.symm k h1) (dj2222.symm k h1))) (fun h9 => h9.elim (fun h8 => dj2218 h8) (fun h8 => h8.elim (fun h8 => dj2212 h8) (fun h8 => djpG h8))) (fun j hj h9 => h9.elim (fun h8 => dj2302.symm j hj h8) (fun h8 => h8.elim (fun h8 => dj2301.symm j hj h8) (fun h8 => dj2300.symm j hj h8))) (fun j hj h9 => h9.elim (fun h8 => dj2311.symm j hj h8) (fun h8 => h8.elim (fun h8 => dj2310.symm j hj h8) (fun h8 => dj2309.symm j hj h8))) (nodeW_in (fun _ => hNd.wp) hin2303 hin2312 (fun j hj h9 => h9.elim (fun h8 => hin2225 j hj h8) (fun h8 => h8.elim (fun h8 => hin2224 j hj h8) (fun h8 => (fun j _ q => hNd.wg j (hGs j q)) j hj h8))))⟩
    · -- 86F
     refine op_fn (vs := [(ptr p 0)]) ok69 ⟨(ev_hit hN2319 rfl), trivial⟩ (halvesNbS hx hO2297 hO2306 ks2325 (by first | omega | (simp only [List.length_insertIdx, List.length_set, List.length_drop, List.length_take]; omega) | (simp; omega)) (by have := of_decide_eq_false k86; omega) (by first | omega | (simp only [List.length_insertIdx, List.length_set, List.length_drop, List.length_take]; omega) | (simp; omega))) ?_
     rintro _ w2328 ⟨E2329, q2327, qk2327, qc2327, rfl, hx2327, oa2327, ob2327, lo2327, hB2327, oc2327, od2327⟩
     have ht2330 := hx.lt
     have ht2331 := hO2297.lt
     have ht2332 := hO2306.lt
     have ht2333 := hrest.lt
     have ht2334 := hT2203.lt
     have ht2335 := hT2_2203.lt
     have E2329 := E2329.grown (row := some p) (fun k _ h => by rw [h])
     have hx_old := hx
     have z_w2328 := E2329.size
     have ks : ∀ x9 ∈ K, Own w2328 0 5 1 x9.1 x9.2.length (x9.2.map u8v) := fun x9 hx9 => (ks x9 hx9).keepX hx_old E2329 (by decide)
     have hk := hk.keepX hx_old E2329 (by decide)
     have hrest := hrest.keepG (Gr.of E2329) (Dj.one djpG) (NoK.ofBx hx_old (by decide))
     have hB2187 := hB2187.keep E2329 (fun hh => hB2187.ne hx_old (by decide) (Option.some.inj hh))
     have hT2203 := hT2203.keepG (Gr.of E2329) (Dj.one dj2212) (NoK.ofBx hx_old (by decide))
     have hT2_2203 := hT2_2203.keepG (Gr.of E2329) (Dj.one dj2218) (NoK.ofBx hx_old (by decide))
     have hu2203 := hu2203.keepX hx_old E2329 (by decide)
     have hB2232 := hB2232.keep E2329 (fun hh => hB2232.ne hx_old (by decide) (Option.some.inj hh))
     have hB2291 := hB2291.keep E2329 (fun hh => hB2291.ne hx_old (by decide) (Option.some.inj hh))
     have ks2325 : ∀ x9 ∈ (K.insertIdx (way (K.map Prod.snd) k) (u2203, y2203)), Own w2328 0 5 1 x9.1 x9.2.length (x9.2.map u8v) := fun x9 hx9 => (ks2325 x9 hx9).keepX hx_old E2329 (by decide)
     have hb := hb.stepB E2329 hNd.wp
     refine op_move (ev_hit hN2319 rfl) ?_
     refine op_extract (ev_hit hN2319 rfl) rfl ?_
     refine op_extract (ev_hit hN2319 rfl) rfl ?_
     refine op_assign (ev_hit hN2319 rfl) ?_
     refine op_assign (ev_hit hN2319 rfl) ?_
     refine reg_nil ?_
     refine hK2324 _ _ ?_
     refine seq_any fun K2336 hK2336 => ?_
     refine one_reg ?_
     refine op_move (ev_base hN2319 rfl s2319_4) ?_
     refine op_move (ev_hit hN2319 rfl) ?_
     refine op_move (ev_hit hN2319 rfl) ?_
     refine op_assign (ev_hit hN2319 rfl) ?_
     refine op_assign (ev_hit hN2319 rfl) ?_
     refine op_assign (ev_hit hN2319 rfl) ?_
     refine reg_nil ?_
     refine hK2336 _ _ ?_
     refine wp_ret ?_
     refine retN (rs := [.tmp 4, .tmp 5, .tmp 6]) (vs := [(Value.bool (putT h k x c).1), ((K.insertIdx (way (K.map Prod.snd) k) (u2203, y2203)).getD ((K.insertIdx (way (K.map Prod.snd) k) (u2203, y2203)).length / 2) default).1, (ptr q2327 0)]) rfl hd2319 ⟨(ev_hit hN2319 rfl), ⟨(ev_hit hN2319 rfl), ⟨(ev_hit hN2319 rfl), trivial⟩⟩⟩ rfl ⟨_, rfl, ?_⟩
     -- path 55T 86F
     exact ⟨hb, _, _, by rw [(put_some (u := u2203) hc hr2203 hwl)]; rfl, out_node_big (K := (K.insertIdx (way (K.map Prod.snd) k) (u2203, y2203))) (ts := ((cs.set (way (K.map Prod.snd) k) (putT h k x c).2.1).insertIdx ((way (K.map Prod.snd) k) + 1) t2_2203)) ((congrArg Prod.snd (put_some (u := u2203) hc hr2203 hwl)).trans (halves_nbig (by have := of_decide_eq_false k86; omega))) (by have := of_decide_eq_false k86; omega) hx2327 oa2327 ob2327 hB2327 oc2327 od2327 lo2327 (by omega) ks2325 (kks_ins hNd.kr hur2203 hwl) (Kids.ins (i := (way (K.map Prod.snd) k) + 1) (Kids.back1 (i := (way (K.map Prod.snd) k)) (A := TreeR kS R w2328 h) hrest hPc hic hT2203 dj2216.symm) (by rw [List.length_set]; omega) hT2_2203 (fun k h1 h2 => h2.elim (hd2203.symm k h1) (dj2222.symm k h1))) (fun h9 => h9.elim (fun h8 => dj2218 h8) (fun h8 => h8.elim (fun h8 => dj2212 h8) (fun h8 => djpG h8))) (fun j hj h9 => h9.elim (fun h8 => dj2302.symm j ((hiV_ob _ _).symm.trans hj) h8) (fun h8 => h8.elim (fun h8 => dj2301.symm j ((hiV_ob _ _).symm.trans hj) h8) (fun h8 => dj2300.symm j ((hiV_ob _ _).symm.trans hj) h8))) (fun j hj h9 => h9.elim (fun h8 => dj2311.symm j ((hiV_ob _ _).symm.trans hj) h8) (fun h8 => h8.elim (fun h8 => dj2310.symm j ((hiV_ob _ _).symm.trans hj) h8) (fun h8 => dj2309.symm j ((hiV_ob _ _).symm.trans hj) h8))) (nodeW_in (fun _ => hNd.wp) (inF_step (n := w.heap.size) (.inl (hiV_ob _ _)) (Nat.le_refl _) hin2303) (inF_step (n := w.heap.size) (.inl (hiV_ob _ _)) (Nat.le_refl _) hin2312) (fun j hj h9 => h9.elim (fun h8 => hin2225 j hj h8) (fun h8 => h8.elim (fun h8 => hin2224 j hj h8) (fun h8 => (fun j _ q => hNd.wg j (hGs j q)) j hj h8)))) (nodeW_lt ht2330 (fun j h9 => (ht2331 j ((hiV_ob _ _).symm.trans h9)).2) (fun j h9 => (ht2332 j ((hiV_ob _ _).symm.trans h9)).2) (fun j h9 => h9.elim (fun h8 => (ht2335 j h8).2) (fun h8 => h8.elim (fun h8 => (ht2334 j h8).2) (fun h8 => (ht2333 j h8).2))))⟩
   refine one_mem ?_
   intro w2337 E2337 _ a2337 hN2337 hbs2337 hdp2337 o_ ho_; obtain rfl := Option.some.inj ho_
   have z_w2337 := E2337.size
   have hx := hx.keep0 E2337
   have ok := ok.keep0 E2337
   have oc := oc.keep0 E2337
   have ks : ∀ x9 ∈ K, Own w2337 0 5 1 x9.1 x9.2.length (x9.2.map u8v) := fun x9 hx9 => (ks x9 hx9).keep0 E2337
   have hk := hk.keep0 E2337
   have hrest := hrest.keepG (Gr.of0 E2337 NoB) (fun _ _ h => h) (NoK.no _)
   have hB2187 := hB2187.keep0 E2337
   have hT2203 := hT2203.keepG (Gr.of0 E2337 NoB) (fun _ _ h => h) (NoK.no _)
   have hT2_2203 := hT2_2203.keepG (Gr.of0 E2337 NoB) (fun _ _ h => h) (NoK.no _)
   have hu2203 := hu2203.keep0 E2337
   have hb := hb.step0 E2337
   have q2337_77 : Sl a2337 77 (ptr q2203 0) := (hdp2337 16 _ 77 (by kernel_rfl) rfl rfl).2 rfl
   refine op_bslice (e := 86) (pv := [(0, (ptr q2203 0))]) (cs := [(ptr q2203 0)]) ⟨rfl, (ev_base hN2337 rfl q2337_77), trivial⟩ (by kernel_rfl) ?_
   intro w2338 b2339 lo_b2339 hi_b2339 hB2341 E2340
   have dj2342 : ¬ G0 b2339 := fun hf => by have := (hrest.lt _ hf).2; omega
   have dj2343 : ¬ W1_2203 b2339 := fun hf => by have := (hT2203.lt _ hf).2; omega
   have dj2344 : ¬ W2_2203 b2339 := fun hf => by have := (hT2_2203.lt _ hf).2; omega
   have ne_b2339_cv : cv.ownBlock ≠ some b2339 := fun hh => by have := (oc.lt _ hh).2; omega
   have z_w2338 := E2340.size
   have hx := hx.keep0 E2340
   have ok := ok.keep0 E2340
   have oc := oc.keep0 E2340
   have ks : ∀ x9 ∈ K, Own w2338 0 5 1 x9.1 x9.2.length (x9.2.map u8v) := fun x9 hx9 => (ks x9 hx9).keep0 E2340
   have hk := hk.keep0 E2340
   have hrest := hrest.keepG (Gr.of0 E2340 NoB) (fun _ _ h => h) (NoK.no _)
   have hB2187 := hB2187.keep0 E2340
   have hT2203 := hT2203.keepG (Gr.of0 E2340 NoB) (fun _ _ h => h) (NoK.no _)
   have hT2_2203 := hT2_2203.keepG (Gr.of0 E2340 NoB) (fun _ _ h => h) (NoK.no _)
   have hu2203 := hu2203.keep0 E2340
   have hb := hb.step0 E2340
   refine ktk_end (G := fun t9 w' => 21 ∈ t9 → (Bx w' p 93 [(Value.slice none 0 0), kv, cv])) (todo := [8, 9, 17, 18, 21]) (i := 17) rfl (fun _ => hx) ?_
   refine ktk_step (rs := [8]) (by kernel_rfl) ?_
   refine one_mem ?_
   intro w2346 E2346 _ a2346 hN2346 hbs2346 hdp2346 o_ ho_; obtain rfl := Option.some.inj ho_
   have z_w2346 := E2346.size
   have hx := hx.keep0 E2346
   have ok := ok.keep0 E2346
   have oc := oc.keep0 E2346
   have ks : ∀ x9 ∈ K, Own w2346 0 5 1 x9.1 x9.2.length (x9.2.map u8v) := fun x9 hx9 => (ks x9 hx9).keep0 E2346
   have hk := hk.keep0 E2346
   have hrest := hrest.keepG (Gr.of0 E2346 NoB) (fun _ _ h => h) (NoK.no _)
   have hB2187 := hB2187.keep0 E2346
   have hT2203 := hT2203.keepG (Gr.of0 E2346 NoB) (fun _ _ h => h) (NoK.no _)
   have hT2_2203 := hT2_2203.keepG (Gr.of0 E2346 NoB) (fun _ _ h => h) (NoK.no _)
   have hu2203 := hu2203.keep0 E2346
   have hB2341 := hB2341.keep0 E2346
   have hb := hb.step0 E2346
   have q2346_68 : Sl a2346 68 u2203 := (hdp2346 7 _ 68 (by kernel_rfl) rfl rfl).2 rfl
   refine op_bslice (e := 27) (pv := [(0, u2203)]) (cs := [u2203]) ⟨rfl, (ev_base hN2346 rfl q2346_68), trivial⟩ (by obtain ⟨_, _, _, rfl⟩ := hu2203.sl; kernel_rfl) ?_
   intro w2347 b2348 lo_b2348 hi_b2348 hB2350 E2349
   have dj2351 : ¬ G0 b2348 := fun hf => by have := (hrest.lt _ hf).2; omega
   have dj2352 : ¬ W1_2203 b2348 := fun hf => by have := (hT2203.lt _ hf).2; omega
   have dj2353 : ¬ W2_2203 b2348 := fun hf => by have := (hT2_2203.lt _ hf).2; omega
   have ne_b2348_kv : kv.ownBlock ≠ some b2348 := fun hh => by have := (ok.lt _ hh).2; omega
   have z_w2347 := E2349.size
   have hx := hx.keep0 E2349
   have ok := ok.keep0 E2349
   have oc := oc.keep0 E2349
   have ks : ∀ x9 ∈ K, Own w2347 0 5 1 x9.1 x9.2.length (x9.2.map u8v) := fun x9 hx9 => (ks x9 hx9).keep0 E2349
   have hk := hk.keep0 E2349
   have hrest := hrest.keepG (Gr.of0 E2349 NoB) (fun _ _ h => h) (NoK.no _)
   have hB2187 := hB2187.keep0 E2349
   have hT2203 := hT2203.keepG (Gr.of0 E2349 NoB) (fun _ _ h => h) (NoK.no _)
   have hT2_2203 := hT2_2203.keepG (Gr.of0 E2349 NoB) (fun _ _ h => h) (NoK.no _)
   have hu2203 := hu2203.keep0 E2349
   have hB2341 := hB2341.keep0 E2349
   have hb := hb.step0 E2349
   refine ktk_end (G := fun t9 w' => 21 ∈ t9 → (Bx w' p 93 [(Value.slice none 0 0), kv, cv])) (todo := [8, 9, 18, 21]) (i := 8) rfl (fun _ => hx) ?_
   refine ktk_step (rs := [9]) (by kernel_rfl) ?_
   refine one_mem ?_
   intro w2355 E2355 _ a2355 hN2355 hbs2355 hdp2355 o_ ho_; obtain rfl := Option.some.inj ho_
   have z_w2355 := E2355.size
   have hx := hx.keep0 E2355
   have ok := ok.keep0 E2355
   have oc := oc.keep0 E2355
   have ks : ∀ x9 ∈ K, Own w2355 0 5 1 x9.1 x9.2.length (x9.2.map u8v) := fun x9 hx9 => (ks x9 hx9).keep0 E2355
   have hk := hk.keep0 E2355
   have hrest := hrest.keepG (Gr.of0 E2355 NoB) (fun _ _ h => h) (NoK.no _)
   have hB2187 := hB2187.keep0 E2355
   have hT2203 := hT2203.keepG (Gr.of0 E2355 NoB) (fun _ _ h => h) (NoK.no _)
   have hT2_2203 := hT2_2203.keepG (Gr.of0 E2355 NoB) (fun _ _ h => h) (NoK.no _)
   have hu2203 := hu2203.keep0 E2355
   have hB2341 := hB2341.keep0 E2355
   have hB2350 := hB2350.keep0 E2355
   have hb := hb.step0 E2355
   have q2355_66 : Sl a2355 66 kv := (hdp2355 5 _ 66 (by kernel_rfl) rfl rfl).2 rfl
   have q2355_67 : Sl a2355 67 (Value.int .i64 (((way (K.map Prod.snd) k) : Nat) : Int)) := (hdp2355 6 _ 67 (by kernel_rfl) rfl rfl).2 rfl
   have q2355_69 : Sl a2355 69 (Value.slice (some ⟨b2348, 0, none⟩) 1 1) := (Option.some.inj ((hdp2355 8 _ 69 (by kernel_rfl) rfl rfl).1 rfl)).symm
   refine op_fn (vs := [kv, (Value.int .i64 (((way (K.map Prod.snd) k) : Nat) : Int)), (Value.slice (some ⟨b2348, 0, none⟩) 1 1)]) ok67 ⟨(ev_base hN2355 rfl q2355_66), ⟨(ev_base hN2355 rfl q2355_67), ⟨(ev_base hN2355 rfl q2355_69), trivial⟩⟩⟩ (InsK ok hB2350 (one_kd ks (fun _ h => h)) (by simp only [List.all_cons, List.all_nil, Bool.true_and, Bool.and_true, hu2203.one]; try rfl) (by first | omega | (simp only [List.length_insertIdx, List.length_set, List.length_drop, List.length_take]; omega) | (simp; omega)) (by first | omega | (simp only [List.length_insertIdx, List.length_set, List.length_drop, List.length_take]; omega) | (simp; omega)) ne_b2348_kv) ?_
   rintro v2356 w2357 ⟨E2358, hO2356, hm2356⟩
   have dj2359 : Dj G0 (Bl v2356) := Dj.step hm2356 (fun k hk => (hrest.lt k hk).2) djkG.symm
   have dj2360 : Dj W1_2203 (Bl v2356) := Dj.step hm2356 (fun k hk => (hT2203.lt k hk).2) dj2213.symm
   have dj2361 : Dj W2_2203 (Bl v2356) := Dj.step hm2356 (fun k hk => (hT2_2203.lt k hk).2) dj2219.symm
   have hin2362 := inF_step (n := w.heap.size) hm2356 (by omega) (fun k _ h => hNd.wk k h)
   have z_w2357 := E2358.size
   have hx := hx.keepO ok E2358 (by decide)
   have oc := oc.keepT ok E2358 (by decide)
   have ks : ∀ x9 ∈ K, Own w2357 0 5 1 x9.1 x9.2.length (x9.2.map u8v) := fun x9 hx9 => (ks x9 hx9).keepT ok E2358 (by decide)
   have hk := hk.keepT ok E2358 (by decide)
   have hrest := hrest.keepG (Gr.of E2358) djkG.symm (NoK.ofOwn ok (by decide))
   have hB2187 := hB2187.keepO ok E2358 (by decide)
   have hT2203 := hT2203.keepG (Gr.of E2358) dj2213.symm (NoK.ofOwn ok (by decide))
   have hT2_2203 := hT2_2203.keepG (Gr.of E2358) dj2219.symm (NoK.ofOwn ok (by decide))
   have hu2203 := hu2203.keepT ok E2358 (by decide)
   have hB2341 := hB2341.keepO ok E2358 (by decide)
   have hB2350 := hB2350.keep E2358 (fun hh => ne_b2348_kv hh.symm)
   have hb := hb.stepL E2358 (fun k _ h => hNd.wk k h)
   have hO2356 : Own w2357 0 27 1 v2356 (K.insertIdx (way (K.map Prod.snd) k) (u2203, y2203)).length ((K.insertIdx (way (K.map Prod.snd) k) (u2203, y2203)).flatMap cK) := hO2356.cast (by rw [List.length_insertIdx, if_pos (by first | omega | (simp only [List.length_insertIdx, List.length_set, List.length_drop, List.length_take]; omega) | (simp; omega))]) (flat_ins cK_len (u2203, y2203) (by first | omega | (simp only [List.length_insertIdx, List.length_set, List.length_drop, List.length_take]; omega) | (simp; omega)))
   refine ktk_end (G := fun t9 w' => 21 ∈ t9 → (Bx w' p 93 [(Value.slice none 0 0), kv, cv])) (todo := [9, 18, 21]) (i := 9) rfl (fun _ => hx) ?_
   refine ktk_step (rs := [18]) (by kernel_rfl) ?_
   refine one_mem ?_
   intro w2364 E2364 _ a2364 hN2364 hbs2364 hdp2364 o_ ho_; obtain rfl := Option.some.inj ho_
   have z_w2364 := E2364.size
   have hx := hx.keep0 E2364
   have oc := oc.keep0 E2364
   have ks : ∀ x9 ∈ K, Own w2364 0 5 1 x9.1 x9.2.length (x9.2.map u8v) := fun x9 hx9 => (ks x9 hx9).keep0 E2364
   have hk := hk.keep0 E2364
   have hrest := hrest.keepG (Gr.of0 E2364 NoB) (fun _ _ h => h) (NoK.no _)
   have hB2187 := hB2187.keep0 E2364
   have hT2203 := hT2203.keepG (Gr.of0 E2364 NoB) (fun _ _ h => h) (NoK.no _)
   have hT2_2203 := hT2_2203.keepG (Gr.of0 E2364 NoB) (fun _ _ h => h) (NoK.no _)
   have hu2203 := hu2203.keep0 E2364
   have hB2341 := hB2341.keep0 E2364
   have hB2350 := hB2350.keep0 E2364
   have hO2356 := hO2356.keep0 E2364
   have hb := hb.step0 E2364
   have q2364_74 : Sl a2364 74 cv := (hdp2364 13 _ 74 (by kernel_rfl) rfl rfl).2 rfl
   have q2364_76 : Sl a2364 76 (Value.int .i64 ((((way (K.map Prod.snd) k) : Nat) : Int) + 1)) := (hdp2364 15 _ 76 (by kernel_rfl) rfl rfl).2 rfl
   have q2364_78 : Sl a2364 78 (Value.slice (some ⟨b2339, 0, none⟩) 1 1) := (Option.some.inj ((hdp2364 17 _ 78 (by kernel_rfl) rfl rfl).1 rfl)).symm
   refine op_fn (vs := [cv, (Value.int .i64 ((((way (K.map Prod.snd) k) : Nat) : Int) + 1)), (Value.slice (some ⟨b2339, 0, none⟩) 1 1)]) ok68 ⟨(ev_base hN2364 rfl q2364_74), ⟨(ev_base hN2364 rfl q2364_76), ⟨(ev_base hN2364 rfl q2364_78), trivial⟩⟩⟩ (InsNS oc hB2341 (one_pn _) rfl (by first | omega | (simp only [List.length_insertIdx, List.length_set, List.length_drop, List.length_take]; omega) | (simp; omega)) (by first | omega | (simp only [List.length_insertIdx, List.length_set, List.length_drop, List.length_take]; omega) | (simp; omega)) ne_b2339_cv) ?_
   rintro v2365 w2366 ⟨E2367, hO2365, hm2365⟩
   have dj2368 : Dj G0 (Bl v2365) := Dj.step hm2365 (fun k hk => (hrest.lt k hk).2) djcG.symm
   have dj2369 : Dj W1_2203 (Bl v2365) := Dj.step hm2365 (fun k hk => (hT2203.lt k hk).2) dj2214.symm
   have dj2370 : Dj W2_2203 (Bl v2365) := Dj.step hm2365 (fun k hk => (hT2_2203.lt k hk).2) dj2220.symm
   have hin2371 := inF_step (n := w.heap.size) hm2365 (by omega) (fun k _ h => hNd.wc k h)
   have z_w2366 := E2367.size
   have hx := hx.keepO oc E2367 (by decide)
   have ks : ∀ x9 ∈ K, Own w2366 0 5 1 x9.1 x9.2.length (x9.2.map u8v) := fun x9 hx9 => (ks x9 hx9).keepT oc E2367 (by decide)
   have hk := hk.keepT oc E2367 (by decide)
   have hrest := hrest.keepG (Gr.of E2367) djcG.symm (NoK.ofOwn oc (by decide))
   have hB2187 := hB2187.keepO oc E2367 (by decide)
   have hT2203 := hT2203.keepG (Gr.of E2367) dj2214.symm (NoK.ofOwn oc (by decide))
   have hT2_2203 := hT2_2203.keepG (Gr.of E2367) dj2220.symm (NoK.ofOwn oc (by decide))
   have hu2203 := hu2203.keepT oc E2367 (by decide)
   have hB2341 := hB2341.keep E2367 (fun hh => ne_b2339_cv hh.symm)
   have hB2350 := hB2350.keepO oc E2367 (by decide)
   have hO2356 := hO2356.keepT oc E2367 (by decide)
   have hb := hb.stepL E2367 (fun k _ h => hNd.wc k h)
   have hO2365 : Own w2366 0 86 1 v2365 (P.insertIdx (((way (K.map Prod.snd) k)) + 1) q2203).length ((P.insertIdx (((way (K.map Prod.snd) k)) + 1) q2203).flatMap cN) := hO2365.cast (by rw [List.length_insertIdx, if_pos (by first | omega | (simp only [List.length_insertIdx, List.length_set, List.length_drop, List.length_take]; omega) | (simp; omega))]) (flat_ins cN_len q2203 (by first | omega | (simp only [List.length_insertIdx, List.length_set, List.length_drop, List.length_take]; omega) | (simp; omega)))
   refine ktk_end (G := fun t9 w' => 21 ∈ t9 → (Bx w' p 93 [(Value.slice none 0 0), kv, cv])) (todo := [18, 21]) (i := 18) rfl (fun _ => hx) ?_
   refine ktk_step (rs := [21]) (by kernel_rfl) ?_
   refine one_mem ?_
   intro w2373 E2373 _ a2373 hN2373 hbs2373 hdp2373 o_ ho_; obtain rfl := Option.some.inj ho_
   have z_w2373 := E2373.size
   have hx := hx.keep0 E2373
   have ks : ∀ x9 ∈ K, Own w2373 0 5 1 x9.1 x9.2.length (x9.2.map u8v) := fun x9 hx9 => (ks x9 hx9).keep0 E2373
   have hk := hk.keep0 E2373
   have hrest := hrest.keepG (Gr.of0 E2373 NoB) (fun _ _ h => h) (NoK.no _)
   have hB2187 := hB2187.keep0 E2373
   have hT2203 := hT2203.keepG (Gr.of0 E2373 NoB) (fun _ _ h => h) (NoK.no _)
   have hT2_2203 := hT2_2203.keepG (Gr.of0 E2373 NoB) (fun _ _ h => h) (NoK.no _)
   have hu2203 := hu2203.keep0 E2373
   have hB2341 := hB2341.keep0 E2373
   have hB2350 := hB2350.keep0 E2373
   have hO2356 := hO2356.keep0 E2373
   have hO2365 := hO2365.keep0 E2373
   have hb := hb.step0 E2373
   have q2373_81 : Sl a2373 81 (ptr p 1) := (hdp2373 20 _ 81 (by kernel_rfl) rfl rfl).2 rfl
   have q2373_70 : Sl a2373 70 v2356 := (Option.some.inj ((hdp2373 9 _ 70 (by kernel_rfl) rfl rfl).1 rfl)).symm
   have hx_old := hx
   refine op_store (vs := [v2356]) (cs' := [(Value.slice none 0 0), v2356, cv]) size90 (ev_base hN2373 rfl q2373_81) (ev_base hN2373 rfl q2373_70) hO2356.cl rfl (by simp only [List.all_cons, List.all_nil, Bool.true_and, Bool.and_true, hO2356.one]; try rfl) hx (Nat.le_of_ble_eq_true rfl) rfl ?_
   intro w2376 hx E2377
   have z_w2376 := E2377.size
   have ks : ∀ x9 ∈ K, Own w2376 0 5 1 x9.1 x9.2.length (x9.2.map u8v) := fun x9 hx9 => (ks x9 hx9).keepX hx_old E2377 (by decide)
   have hk := hk.keepX hx_old E2377 (by decide)
   have hrest := hrest.keepG (Gr.of E2377) (Dj.one djpG) (NoK.ofBx hx_old (by decide))
   have hB2187 := hB2187.keep E2377 (fun hh => hB2187.ne hx_old (by decide) (Option.some.inj hh))
   have hT2203 := hT2203.keepG (Gr.of E2377) (Dj.one dj2212) (NoK.ofBx hx_old (by decide))
   have hT2_2203 := hT2_2203.keepG (Gr.of E2377) (Dj.one dj2218) (NoK.ofBx hx_old (by decide))
   have hu2203 := hu2203.keepX hx_old E2377 (by decide)
   have hB2341 := hB2341.keep E2377 (fun hh => hB2341.ne hx_old (by decide) (Option.some.inj hh))
   have hB2350 := hB2350.keep E2377 (fun hh => hB2350.ne hx_old (by decide) (Option.some.inj hh))
   have hO2356 := hO2356.keepX hx_old E2377 (by decide)
   have hO2365 := hO2365.keepX hx_old E2377 (by decide)
   have hb := hb.stepB E2377 hNd.wp
   refine ktk_end0 (G := fun t9 w' => 21 ∈ t9 → (Bx w' p 93 [(Value.slice none 0 0), kv, cv])) (todo := [21]) (i := 21) rfl (fun h => absurd h (by decide)) ?_
   intro w2378 E2378 a2378 hN2378 hd2378 hbs2378 hph2378
   have hd2378 := hd2378.trans ((by simp only [putsL_defers] : _ = _).trans hd)
   have z_w2378 := E2378.size
   have ks : ∀ x9 ∈ K, Own w2378 0 5 1 x9.1 x9.2.length (x9.2.map u8v) := fun x9 hx9 => (ks x9 hx9).keep0 E2378
   have hk := hk.keep0 E2378
   have hrest := hrest.keepG (Gr.of0 E2378 NoB) (fun _ _ h => h) (NoK.no _)
   have hB2187 := hB2187.keep0 E2378
   have hT2203 := hT2203.keepG (Gr.of0 E2378 NoB) (fun _ _ h => h) (NoK.no _)
   have hT2_2203 := hT2_2203.keepG (Gr.of0 E2378 NoB) (fun _ _ h => h) (NoK.no _)
   have hu2203 := hu2203.keep0 E2378
   have hB2341 := hB2341.keep0 E2378
   have hB2350 := hB2350.keep0 E2378
   have hO2356 := hO2356.keep0 E2378
   have hO2365 := hO2365.keep0 E2378
   have hx := hx.keep0 E2378
   have hb := hb.step0 E2378
   have s2378_0 := (hbs2378 0 rfl).trans (sl_base hN rfl s0)
   have s2378_4 := (hbs2378 4 rfl).trans (sl_hit hN rfl)
   have s2378_5 := (hbs2378 5 rfl).trans (sl_hit hN rfl)
   have s2378_6 := (hbs2378 6 rfl).trans (sl_hit hN rfl)
   have s2378_62 : Sl a2378 62 (ptr p 0) := (hph2378 1 _ 62 rfl rfl).2 rfl
   have s2378_79 : Sl a2378 79 v2365 := (Option.some.inj ((hph2378 18 _ 79 rfl rfl).1 rfl)).symm
   refine split_end ?_
   refine from_seq (tl := [_, _, _]) (by decide) (by kernel_rfl) rfl ?_
   refine op_nil (ev_base hN2378 rfl s2378_62) ?_
   refine op_field fld93_2 (ev_hit hN2378 rfl) ?_
   have hx_old := hx
   refine op_store (vs := [v2365]) (cs' := [(Value.slice none 0 0), v2356, v2365]) size91 (ev_hit hN2378 rfl) (ev_base hN2378 rfl s2378_79) hO2365.cl rfl (by simp only [List.all_cons, List.all_nil, Bool.true_and, Bool.and_true, hO2365.one]; try rfl) hx (Nat.le_of_ble_eq_true rfl) rfl ?_
   intro w2381 hx E2382
   have z_w2381 := E2382.size
   have ks : ∀ x9 ∈ K, Own w2381 0 5 1 x9.1 x9.2.length (x9.2.map u8v) := fun x9 hx9 => (ks x9 hx9).keepX hx_old E2382 (by decide)
   have hk := hk.keepX hx_old E2382 (by decide)
   have hrest := hrest.keepG (Gr.of E2382) (Dj.one djpG) (NoK.ofBx hx_old (by decide))
   have hB2187 := hB2187.keep E2382 (fun hh => hB2187.ne hx_old (by decide) (Option.some.inj hh))
   have hT2203 := hT2203.keepG (Gr.of E2382) (Dj.one dj2212) (NoK.ofBx hx_old (by decide))
   have hT2_2203 := hT2_2203.keepG (Gr.of E2382) (Dj.one dj2218) (NoK.ofBx hx_old (by decide))
   have hu2203 := hu2203.keepX hx_old E2382 (by decide)
   have hB2341 := hB2341.keep E2382 (fun hh => hB2341.ne hx_old (by decide) (Option.some.inj hh))
   have hB2350 := hB2350.keep E2382 (fun hh => hB2350.ne hx_old (by decide) (Option.some.inj hh))
   have hO2356 := hO2356.keepX hx_old E2382 (by decide)
   have hO2365 := hO2365.keepX hx_old E2382 (by decide)
   have hb := hb.stepB E2382 hNd.wp
   refine reg_nil ?_
   refine hK2190 _ _ ?_
   refine seq_any fun K2383 hK2383 => ?_
   refine one_reg ?_
   have hl1 : (K.insertIdx (way (K.map Prod.snd) k) (u2203, y2203)).length = K.length + 1 := by rw [List.length_insertIdx, if_pos hwl]
   have hl2 : (P.insertIdx (((way (K.map Prod.snd) k)) + 1) q2203).length = P.length + 1 := by rw [List.length_insertIdx, if_pos (by omega)]
   have ks2384 : ∀ x9 ∈ (K.insertIdx (way (K.map Prod.snd) k) (u2203, y2203)), Own w2381 0 5 1 x9.1 x9.2.length (x9.2.map u8v) := kks_ins ks hu2203 hwl
   refine op_move (ev_base hN2378 rfl s2378_0) ?_
   rcases Bool.eq_false_or_eq_true (decide ((K.insertIdx (way (K.map Prod.snd) k) (u2203, y2203)).length ≤ 6)) with k86 | k86
   · -- 86T
    refine op_fn (vs := [(ptr p 0)]) ok69 ⟨(ev_hit hN2378 rfl), trivial⟩ (Ret.flip (halvesNsS hx hO2356 hO2365 (by first | omega | (simp only [List.length_insertIdx, List.length_set, List.length_drop, List.length_take]; omega) | (simp; omega)) (of_decide_eq_true k86))) ?_
    rintro _ _ ⟨rfl, rfl⟩
    refine op_move (ev_hit hN2378 rfl) ?_
    refine op_extract (ev_hit hN2378 rfl) rfl ?_
    refine op_extract (ev_hit hN2378 rfl) rfl ?_
    refine op_assign (ev_hit hN2378 rfl) ?_
    refine op_assign (ev_hit hN2378 rfl) ?_
    refine reg_nil ?_
    refine hK2383 _ _ ?_
    refine seq_any fun K2385 hK2385 => ?_
    refine one_reg ?_
    refine op_move (ev_base hN2378 rfl s2378_4) ?_
    refine op_move (ev_hit hN2378 rfl) ?_
    refine op_move (ev_hit hN2378 rfl) ?_
    refine op_assign (ev_hit hN2378 rfl) ?_
    refine op_assign (ev_hit hN2378 rfl) ?_
    refine op_assign (ev_hit hN2378 rfl) ?_
    refine reg_nil ?_
    refine hK2385 _ _ ?_
    refine wp_ret ?_
    refine retN (rs := [.tmp 4, .tmp 5, .tmp 6]) (vs := [(Value.bool (putT h k x c).1), (Value.slice none 0 0), (Value.pointer none)]) rfl hd2378 ⟨(ev_hit hN2378 rfl), ⟨(ev_hit hN2378 rfl), ⟨(ev_hit hN2378 rfl), trivial⟩⟩⟩ rfl ⟨_, rfl, ?_⟩
    -- path 55T 86T
    exact ⟨hb, _, _, by rw [(put_some (u := u2203) hc hr2203 hwl)]; rfl, out_node_small (K := (K.insertIdx (way (K.map Prod.snd) k) (u2203, y2203))) (ts := ((cs.set (way (K.map Prod.snd) k) (putT h k x c).2.1).insertIdx ((way (K.map Prod.snd) k) + 1) t2_2203)) ((congrArg Prod.snd (put_some (u := u2203) hc hr2203 hwl)).trans (halves_nsmall (by simpa using of_decide_eq_true k86))) hx hO2356 hO2365 ks2384 (kks_ins hNd.kr hur2203 hwl) (Kids.ins (i := (way (K.map Prod.snd) k) + 1) (Kids.back1 (i := (way (K.map Prod.snd) k)) (A := TreeR kS R w2381 h) hrest hPc hic hT2203 dj2216.symm) (by rw [List.length_set]; omega) hT2_2203 (fun k h1 h2 => h2.elim (hd2203.symm k h1) (dj2222.symm k h1))) (fun h9 => h9.elim (fun h8 => dj2218 h8) (fun h8 => h8.elim (fun h8 => dj2212 h8) (fun h8 => djpG h8))) (fun j hj h9 => h9.elim (fun h8 => dj2361.symm j hj h8) (fun h8 => h8.elim (fun h8 => dj2360.symm j hj h8) (fun h8 => dj2359.symm j hj h8))) (fun j hj h9 => h9.elim (fun h8 => dj2370.symm j hj h8) (fun h8 => h8.elim (fun h8 => dj2369.symm j hj h8) (fun h8 => dj2368.symm j hj h8))) (nodeW_in (fun _ => hNd.wp) hin2362 hin2371 (fun j hj h9 => h9.elim (fun h8 => hin2225 j hj h8) (fun h8 => h8.elim (fun h8 => hin2224 j hj h8) (fun h8 => (fun j _ q => hNd.wg j (hGs j q)) j hj h8))))⟩
   · -- 86F
    refine op_fn (vs := [(ptr p 0)]) ok69 ⟨(ev_hit hN2378 rfl), trivial⟩ (halvesNbS hx hO2356 hO2365 ks2384 (by first | omega | (simp only [List.length_insertIdx, List.length_set, List.length_drop, List.length_take]; omega) | (simp; omega)) (by have := of_decide_eq_false k86; omega) (by first | omega | (simp only [List.length_insertIdx, List.length_set, List.length_drop, List.length_take]; omega) | (simp; omega))) ?_
    rintro _ w2387 ⟨E2388, q2386, qk2386, qc2386, rfl, hx2386, oa2386, ob2386, lo2386, hB2386, oc2386, od2386⟩
    have ht2389 := hx.lt
    have ht2390 := hO2356.lt
    have ht2391 := hO2365.lt
    have ht2392 := hrest.lt
    have ht2393 := hT2203.lt
    have ht2394 := hT2_2203.lt
    have E2388 := E2388.grown (row := some p) (fun k _ h => by rw [h])
    have hx_old := hx
    have z_w2387 := E2388.size
    have ks : ∀ x9 ∈ K, Own w2387 0 5 1 x9.1 x9.2.length (x9.2.map u8v) := fun x9 hx9 => (ks x9 hx9).keepX hx_old E2388 (by decide)
    have hk := hk.keepX hx_old E2388 (by decide)
    have hrest := hrest.keepG (Gr.of E2388) (Dj.one djpG) (NoK.ofBx hx_old (by decide))
    have hB2187 := hB2187.keep E2388 (fun hh => hB2187.ne hx_old (by decide) (Option.some.inj hh))
    have hT2203 := hT2203.keepG (Gr.of E2388) (Dj.one dj2212) (NoK.ofBx hx_old (by decide))
    have hT2_2203 := hT2_2203.keepG (Gr.of E2388) (Dj.one dj2218) (NoK.ofBx hx_old (by decide))
    have hu2203 := hu2203.keepX hx_old E2388 (by decide)
    have hB2341 := hB2341.keep E2388 (fun hh => hB2341.ne hx_old (by decide) (Option.some.inj hh))
    have hB2350 := hB2350.keep E2388 (fun hh => hB2350.ne hx_old (by decide) (Option.some.inj hh))
    have ks2384 : ∀ x9 ∈ (K.insertIdx (way (K.map Prod.snd) k) (u2203, y2203)), Own w2387 0 5 1 x9.1 x9.2.length (x9.2.map u8v) := fun x9 hx9 => (ks2384 x9 hx9).keepX hx_old E2388 (by decide)
    have hb := hb.stepB E2388 hNd.wp
    refine op_move (ev_hit hN2378 rfl) ?_
    refine op_extract (ev_hit hN2378 rfl) rfl ?_
    refine op_extract (ev_hit hN2378 rfl) rfl ?_
    refine op_assign (ev_hit hN2378 rfl) ?_
    refine op_assign (ev_hit hN2378 rfl) ?_
    refine reg_nil ?_
    refine hK2383 _ _ ?_
    refine seq_any fun K2395 hK2395 => ?_
    refine one_reg ?_
    refine op_move (ev_base hN2378 rfl s2378_4) ?_
    refine op_move (ev_hit hN2378 rfl) ?_
    refine op_move (ev_hit hN2378 rfl) ?_
    refine op_assign (ev_hit hN2378 rfl) ?_
    refine op_assign (ev_hit hN2378 rfl) ?_
    refine op_assign (ev_hit hN2378 rfl) ?_
    refine reg_nil ?_
    refine hK2395 _ _ ?_
    refine wp_ret ?_
    refine retN (rs := [.tmp 4, .tmp 5, .tmp 6]) (vs := [(Value.bool (putT h k x c).1), ((K.insertIdx (way (K.map Prod.snd) k) (u2203, y2203)).getD ((K.insertIdx (way (K.map Prod.snd) k) (u2203, y2203)).length / 2) default).1, (ptr q2386 0)]) rfl hd2378 ⟨(ev_hit hN2378 rfl), ⟨(ev_hit hN2378 rfl), ⟨(ev_hit hN2378 rfl), trivial⟩⟩⟩ rfl ⟨_, rfl, ?_⟩
    -- path 55T 86F
    exact ⟨hb, _, _, by rw [(put_some (u := u2203) hc hr2203 hwl)]; rfl, out_node_big (K := (K.insertIdx (way (K.map Prod.snd) k) (u2203, y2203))) (ts := ((cs.set (way (K.map Prod.snd) k) (putT h k x c).2.1).insertIdx ((way (K.map Prod.snd) k) + 1) t2_2203)) ((congrArg Prod.snd (put_some (u := u2203) hc hr2203 hwl)).trans (halves_nbig (by have := of_decide_eq_false k86; omega))) (by have := of_decide_eq_false k86; omega) hx2386 oa2386 ob2386 hB2386 oc2386 od2386 lo2386 (by omega) ks2384 (kks_ins hNd.kr hur2203 hwl) (Kids.ins (i := (way (K.map Prod.snd) k) + 1) (Kids.back1 (i := (way (K.map Prod.snd) k)) (A := TreeR kS R w2387 h) hrest hPc hic hT2203 dj2216.symm) (by rw [List.length_set]; omega) hT2_2203 (fun k h1 h2 => h2.elim (hd2203.symm k h1) (dj2222.symm k h1))) (fun h9 => h9.elim (fun h8 => dj2218 h8) (fun h8 => h8.elim (fun h8 => dj2212 h8) (fun h8 => djpG h8))) (fun j hj h9 => h9.elim (fun h8 => dj2361.symm j ((hiV_ob _ _).symm.trans hj) h8) (fun h8 => h8.elim (fun h8 => dj2360.symm j ((hiV_ob _ _).symm.trans hj) h8) (fun h8 => dj2359.symm j ((hiV_ob _ _).symm.trans hj) h8))) (fun j hj h9 => h9.elim (fun h8 => dj2370.symm j ((hiV_ob _ _).symm.trans hj) h8) (fun h8 => h8.elim (fun h8 => dj2369.symm j ((hiV_ob _ _).symm.trans hj) h8) (fun h8 => dj2368.symm j ((hiV_ob _ _).symm.trans hj) h8))) (nodeW_in (fun _ => hNd.wp) (inF_step (n := w.heap.size) (.inl (hiV_ob _ _)) (Nat.le_refl _) hin2362) (inF_step (n := w.heap.size) (.inl (hiV_ob _ _)) (Nat.le_refl _) hin2371) (fun j hj h9 => h9.elim (fun h8 => hin2225 j hj h8) (fun h8 => h8.elim (fun h8 => hin2224 j hj h8) (fun h8 => (fun j _ q => hNd.wg j (hGs j q)) j hj h8)))) (nodeW_lt ht2389 (fun j h9 => (ht2390 j ((hiV_ob _ _).symm.trans h9)).2) (fun j h9 => (ht2391 j ((hiV_ob _ _).symm.trans h9)).2) (fun j h9 => h9.elim (fun h8 => (ht2394 j h8).2) (fun h8 => h8.elim (fun h8 => (ht2393 j h8).2) (fun h8 => (ht2392 j h8).2))))⟩
 · -- 55F
  refine op_fn (vs := [(ptr (P.getD ((way (K.map Prod.snd) k)) default) 0), (Value.agg #[yv, (Value.string (bs x))])]) ok40 ⟨(ev_hit hN rfl), ⟨(ev_hit hN rfl), trivial⟩⟩ (IH hkid hcO (by have := (hz c (List.mem_of_getElem? hc)).2; omega) hk hkr) ?_
  rintro _ w2397 ⟨E2398, u2396, m2396, rfl, ho2396⟩
  have bd2399 := hx.lt
  have bd2400 := ok.lt
  have bd2401 := oc.lt
  have bd2402 := hk.lt
  have bd2403 := hrest.lt
  have bd2404 := hB2187.lt
  obtain ⟨hr2396, rfl, rfl, W1_2396, hT2396, hN1_2396⟩ := outR_none k55 ho2396
  have hkid_old := hkid
  have z_w2397 := E2398.size
  have hx := hx.keepG E2398 djpf
  have ok := ok.keepG E2398 djkf
  have oc := oc.keepG E2398 djcf
  have ks : ∀ x9 ∈ K, Own w2397 0 5 1 x9.1 x9.2.length (x9.2.map u8v) := fun x9 hx9 => (ks x9 hx9).keepG E2398 (hkid_old.notOwn (ks x9 hx9) (by decide) (by decide) (by decide) (by decide))
  have hk := hk.keepG E2398 (hkid_old.notOwn hk (by decide) (by decide) (by decide) (by decide))
  have hrest := hrest.keepG E2398 hfG.symm (hkid_old.noK kS_fine)
  have hB2187 := hB2187.keepG E2398 dj2188
  have hb := hb.stepF E2398 (fun k _ h => hNd.wg k (hfs k h))
  have dj2405 : ¬ W1_2396 p := ne_stepF hN1_2396 bd2399 djpf
  have dj2406 : Dj (Bl kv) W1_2396 := Dj.stepF hN1_2396 (fun k hk => (bd2400 k hk).2) djkf
  have dj2407 : Dj (Bl cv) W1_2396 := Dj.stepF hN1_2396 (fun k hk => (bd2401 k hk).2) djcf
  have dj2409 : Dj G0 W1_2396 := Dj.stepF hN1_2396 (fun k hk => (bd2403 k hk).2) hfG.symm
  have dj2410 : ¬ W1_2396 b2185 := ne_stepF hN1_2396 bd2404 dj2188
  have hin2411 := in_newF (hN1_2396.mono (t := w.heap.size) (by omega)) (fun k hk => hNd.wg k (hfs k hk))
  refine from_next ?_
  refine from_still (m := 16) 7 (hd := [_, _, _, _, _, _, _]) (by kernel_rfl) rfl rfl ?_
  refine st_step rfl (fun _ h9 => op_move (ev_hit hN rfl) h9) ?_
  refine st_step rfl (fun _ h9 => op_extract (ev_hit hN rfl) rfl h9) ?_
  refine st_step rfl (fun _ h9 => op_extract (ev_hit hN rfl) rfl h9) ?_
  refine st_step rfl (fun _ h9 => op_extract (ev_hit hN rfl) rfl h9) ?_
  refine st_step rfl (fun _ h9 => op_assign (ev_hit hN rfl) h9) ?_
  refine st_step rfl (fun _ h9 => op_assign (ev_hit hN rfl) h9) ?_
  refine st_step rfl (fun _ h9 => op_assign (ev_hit hN rfl) h9) ?_
  refine st_nil ?_
  refine from_end ?_ rfl
  refine hK2197 _ _ ?_
  refine seq_any fun K2412 hK2412 => ?_
  refine one_reg ?_
  refine op_move (ev_hit hN rfl) ?_
  refine op_pne_none ptrt86 (ev_hit hN rfl) rfl ?_
  refine reg_nil ?_
  refine hK2412 _ _ ?_
  refine wp_cond_false (ev_hit hN rfl) ?_
  refine wp_skip ?_
  refine hK2190 _ _ ?_
  refine seq_any fun K2413 hK2413 => ?_
  refine one_reg ?_
  skip
  refine op_move (ev_base hN rfl s0) ?_
  rcases Bool.eq_false_or_eq_true (decide (K.length ≤ 6)) with k86 | k86
  · -- 86T
   refine op_fn (vs := [(ptr p 0)]) ok69 ⟨(ev_hit hN rfl), trivial⟩ (Ret.flip (halvesNsS hx ok oc (by first | omega | (simp only [List.length_insertIdx, List.length_set, List.length_drop, List.length_take]; omega) | (simp; omega)) (of_decide_eq_true k86))) ?_
   rintro _ _ ⟨rfl, rfl⟩
   refine op_move (ev_hit hN rfl) ?_
   refine op_extract (ev_hit hN rfl) rfl ?_
   refine op_extract (ev_hit hN rfl) rfl ?_
   refine op_assign (ev_hit hN rfl) ?_
   refine op_assign (ev_hit hN rfl) ?_
   refine reg_nil ?_
   refine hK2413 _ _ ?_
   refine seq_any fun K2414 hK2414 => ?_
   refine one_reg ?_
   refine op_move (ev_hit hN rfl) ?_
   refine op_move (ev_hit hN rfl) ?_
   refine op_move (ev_hit hN rfl) ?_
   refine op_assign (ev_hit hN rfl) ?_
   refine op_assign (ev_hit hN rfl) ?_
   refine op_assign (ev_hit hN rfl) ?_
   refine reg_nil ?_
   refine hK2414 _ _ ?_
   refine wp_ret ?_
   refine retN (rs := [.tmp 4, .tmp 5, .tmp 6]) (vs := [(Value.bool (putT h k x c).1), (Value.slice none 0 0), (Value.pointer none)]) rfl hd ⟨(ev_hit hN rfl), ⟨(ev_hit hN rfl), ⟨(ev_hit hN rfl), trivial⟩⟩⟩ rfl ⟨_, rfl, ?_⟩
   -- path 55F 86T
   exact ⟨hb, _, _, by rw [(put_none hc hr2396)]; rfl, out_node_small (K := K) (ts := (cs.set (way (K.map Prod.snd) k) (putT h k x c).2.1)) ((congrArg Prod.snd (put_none hc hr2396)).trans (halves_nsmall (by simpa using of_decide_eq_true k86))) hx ok oc ks hNd.kr (Kids.back1 (i := (way (K.map Prod.snd) k)) (A := TreeR kS R w2397 h) hrest hPc hic hT2396 dj2409.symm) (fun h9 => h9.elim (fun h8 => dj2405 h8) (fun h8 => djpG h8)) (fun j hj h9 => h9.elim (fun h8 => dj2406 j hj h8) (fun h8 => djkG j hj h8)) (fun j hj h9 => h9.elim (fun h8 => dj2407 j hj h8) (fun h8 => djcG j hj h8)) (nodeW_in (fun _ => hNd.wp) (fun k _ h => hNd.wk k h) (fun k _ h => hNd.wc k h) (fun j hj h9 => h9.elim (fun h8 => hin2411 j hj h8) (fun h8 => (fun j _ q => hNd.wg j (hGs j q)) j hj h8)))⟩
  · -- 86F
   refine op_fn (vs := [(ptr p 0)]) ok69 ⟨(ev_hit hN rfl), trivial⟩ (halvesNbS hx ok oc ks (by first | omega | (simp only [List.length_insertIdx, List.length_set, List.length_drop, List.length_take]; omega) | (simp; omega)) (by have := of_decide_eq_false k86; omega) (by first | omega | (simp only [List.length_insertIdx, List.length_set, List.length_drop, List.length_take]; omega) | (simp; omega))) ?_
   rintro _ w2416 ⟨E2417, q2415, qk2415, qc2415, rfl, hx2415, oa2415, ob2415, lo2415, hB2415, oc2415, od2415⟩
   have ht2418 := hx.lt
   have ht2419 := ok.lt
   have ht2420 := oc.lt
   have ht2421 := hrest.lt
   have ht2422 := hT2396.lt
   have E2417 := E2417.grown (row := some p) (fun k _ h => by rw [h])
   have hx_old := hx
   have z_w2416 := E2417.size
   have ks : ∀ x9 ∈ K, Own w2416 0 5 1 x9.1 x9.2.length (x9.2.map u8v) := fun x9 hx9 => (ks x9 hx9).keepX hx_old E2417 (by decide)
   have hk := hk.keepX hx_old E2417 (by decide)
   have hrest := hrest.keepG (Gr.of E2417) (Dj.one djpG) (NoK.ofBx hx_old (by decide))
   have hB2187 := hB2187.keep E2417 (fun hh => hB2187.ne hx_old (by decide) (Option.some.inj hh))
   have hT2396 := hT2396.keepG (Gr.of E2417) (Dj.one dj2405) (NoK.ofBx hx_old (by decide))
   have hb := hb.stepB E2417 hNd.wp
   refine op_move (ev_hit hN rfl) ?_
   refine op_extract (ev_hit hN rfl) rfl ?_
   refine op_extract (ev_hit hN rfl) rfl ?_
   refine op_assign (ev_hit hN rfl) ?_
   refine op_assign (ev_hit hN rfl) ?_
   refine reg_nil ?_
   refine hK2413 _ _ ?_
   refine seq_any fun K2423 hK2423 => ?_
   refine one_reg ?_
   refine op_move (ev_hit hN rfl) ?_
   refine op_move (ev_hit hN rfl) ?_
   refine op_move (ev_hit hN rfl) ?_
   refine op_assign (ev_hit hN rfl) ?_
   refine op_assign (ev_hit hN rfl) ?_
   refine op_assign (ev_hit hN rfl) ?_
   refine reg_nil ?_
   refine hK2423 _ _ ?_
   refine wp_ret ?_
   refine retN (rs := [.tmp 4, .tmp 5, .tmp 6]) (vs := [(Value.bool (putT h k x c).1), (K.getD (K.length / 2) default).1, (ptr q2415 0)]) rfl hd ⟨(ev_hit hN rfl), ⟨(ev_hit hN rfl), ⟨(ev_hit hN rfl), trivial⟩⟩⟩ rfl ⟨_, rfl, ?_⟩
   -- path 55F 86F
   exact ⟨hb, _, _, by rw [(put_none hc hr2396)]; rfl, out_node_big (K := K) (ts := (cs.set (way (K.map Prod.snd) k) (putT h k x c).2.1)) ((congrArg Prod.snd (put_none hc hr2396)).trans (halves_nbig (by have := of_decide_eq_false k86; omega))) (by have := of_decide_eq_false k86; omega) hx2415 oa2415 ob2415 hB2415 oc2415 od2415 lo2415 (by omega) ks hNd.kr (Kids.back1 (i := (way (K.map Prod.snd) k)) (A := TreeR kS R w2416 h) hrest hPc hic hT2396 dj2409.symm) (fun h9 => h9.elim (fun h8 => dj2405 h8) (fun h8 => djpG h8)) (fun j hj h9 => h9.elim (fun h8 => dj2406 j ((hiV_ob _ _).symm.trans hj) h8) (fun h8 => djkG j ((hiV_ob _ _).symm.trans hj) h8)) (fun j hj h9 => h9.elim (fun h8 => dj2407 j ((hiV_ob _ _).symm.trans hj) h8) (fun h8 => djcG j ((hiV_ob _ _).symm.trans hj) h8)) (nodeW_in (fun _ => hNd.wp) (inF_step (n := w.heap.size) (.inl (hiV_ob _ _)) (Nat.le_refl _) (fun k _ h => hNd.wk k h)) (inF_step (n := w.heap.size) (.inl (hiV_ob _ _)) (Nat.le_refl _) (fun k _ h => hNd.wc k h)) (fun j hj h9 => h9.elim (fun h8 => hin2411 j hj h8) (fun h8 => (fun j _ q => hNd.wg j (hGs j q)) j hj h8))) (nodeW_lt ht2418 (fun j h9 => (ht2419 j ((hiV_ob _ _).symm.trans h9)).2) (fun j h9 => (ht2420 j ((hiV_ob _ _).symm.trans h9)).2) (fun j h9 => h9.elim (fun h8 => (ht2422 j h8).2) (fun h8 => (ht2421 j h8).2)))⟩

end Go.Proofs.Ytcpfdfejojghbaa

/- Walks, written by a program: what each function of the translation hands back. -/
namespace Go.Proofs.Ytcpfdfejojghbaa
open Go.Gx Go.RowKit
attribute [local irreducible] wpList wpStill Code.wp Calls
open Go.Bt
end Go.Proofs.Ytcpfdfejojghbaa

/- Walks, written by a program: what each function of the translation hands back. -/
namespace Go.Proofs.Ytcpfdfejojghbaa
open Go.Gx Go.RowKit
attribute [local irreducible] wpList wpStill Code.wp Calls
open Go.Bt
theorem putAllI : ∀ h, PutI h
  | 0 => by
    intro k yv x R W p t w T hO h6 hk hkr
    obtain ⟨pv, D, hL, e⟩ := T
    have e' : (D.map Prod.snd : List (Ky × (Int))) = t := e
    subst e'
    exact putLI hL (show Sorted ((D.map Prod.snd).map Prod.fst) from hO) (by have h9 : (D.map Prod.snd).length ≤ 6 := h6; simpa using h9) hk hkr
  | h + 1 => by
    intro k yv x R W p t w T hO h6 hk hkr
    obtain ⟨kv, cv, K, P, G, hN, hKs, e⟩ := T
    obtain ⟨kl, cs⟩ := t
    have e' : K.map Prod.snd = kl := e
    subst e'
    obtain ⟨h1, h2⟩ := ok_node.1 hO
    exact putNI (putAllI h) hN hKs h1 h2 (by have h9 : (K.map Prod.snd).length ≤ 6 := h6; simpa using h9) hk hkr
theorem putAllS : ∀ h, PutS h
  | 0 => by
    intro k yv x R W p t w T hO h6 hk hkr
    obtain ⟨pv, D, hL, e⟩ := T
    have e' : (D.map Prod.snd : List (Ky × (List UInt8))) = t := e
    subst e'
    exact putLS hL (show Sorted ((D.map Prod.snd).map Prod.fst) from hO) (by have h9 : (D.map Prod.snd).length ≤ 6 := h6; simpa using h9) hk hkr
  | h + 1 => by
    intro k yv x R W p t w T hO h6 hk hkr
    obtain ⟨kv, cv, K, P, G, hN, hKs, e⟩ := T
    obtain ⟨kl, cs⟩ := t
    have e' : K.map Prod.snd = kl := e
    subst e'
    obtain ⟨h1, h2⟩ := ok_node.1 hO
    exact putNS (putAllS h) hN hKs h1 h2 (by have h9 : (K.map Prod.snd).length ≤ 6 := h6; simpa using h9) hk hkr
end Go.Proofs.Ytcpfdfejojghbaa

/- Whole trees, plainly: the root may be missing. -/
namespace Go.Bt
abbrev TO (V : Type) := Option ((h : Nat) × Tr V h)
section
variable {V : Type} {h : Nat} {k : Ky} {x : V} {o : TO V} {t : Tr V h}
def grown (h : Nat) (t : Tr V h) : Option (Ky × Tr V h) → TO V
  | none => some ⟨h, t⟩
  | some (u, m) => some ⟨h + 1, (([u], [t, m]) : List Ky × List (Tr V h))⟩
def putO (k : Ky) (x : V) : TO V → Bool × TO V
  | none => (false, some ⟨0, ([(k, x)] : List (Ky × V))⟩)
  | some ⟨h, t⟩ => ((putT h k x t).1, grown h (putT h k x t).2.1 (putT h k x t).2.2)
def toLO : TO V → List (Ky × V)
  | none => []
  | some ⟨h, t⟩ => toL h t
def OkO : TO V → Prop
  | none => True
  | some ⟨h, t⟩ => Ok h t ∧ 1 ≤ szT h t ∧ szT h t ≤ 6
theorem toL_sorted : ∀ {h : Nat} {t : Tr V h}, Ok h t → Sorted ((toL h t).map Prod.fst)
  | 0, t, H => H
  | h + 1, (ks, cs), H => by
    obtain ⟨N, hs⟩ := ok_node.1 H
    show Sorted ((cs.flatMap (toL h)).map Prod.fst)
    rw [List.map_flatMap, Sorted, List.pairwise_flatMap]
    refine ⟨fun c hc => ?_, ?_⟩
    · obtain ⟨i, hi, rfl⟩ := List.getElem_of_mem hc
      exact toL_sorted (N.2.2 i _ (List.getElem?_eq_getElem hi)).1
    · rw [List.pairwise_iff_getElem]
      intro i j hi hj hij a ha b hb
      obtain ⟨p, hp, rfl⟩ := List.mem_map.1 ha
      obtain ⟨q, hq, rfl⟩ := List.mem_map.1 hb
      have h1 := (N.2.2 i _ (List.getElem?_eq_getElem hi)).2 _ (dom_of_toL hp)
      have h2 := (N.2.2 j _ (List.getElem?_eq_getElem hj)).2 _ (dom_of_toL hq)
      exact lt_of_way (ks := ks) (by omega)
theorem toLO_sorted (H : OkO o) : Sorted ((toLO o).map Prod.fst) := by
  match o, H with
  | none, _ => exact List.Pairwise.nil
  | some ⟨h, t⟩, H => exact toL_sorted H.1
theorem putO_ok (H : OkO o) : OkO (putO k x o).2 ∧ ((putO k x o).1 = true ↔ ∃ p ∈ toLO o, p.1 = k) ∧ ∀ p, p ∈ toLO (putO k x o).2 ↔ PutM (fun p => p ∈ toLO o) k x p := by
  match o, H with
  | none, _ =>
    refine ⟨⟨show Sorted [k] from List.pairwise_singleton _ _, Nat.le_refl _, show 1 ≤ 6 from by decide⟩, ⟨fun h => (by cases h), fun ⟨p, hp, _⟩ => (by cases hp)⟩, fun p => ?_⟩
    show p ∈ [(k, x)] ↔ p = (k, x) ∨ (p.1 ≠ k ∧ p ∈ [])
    simp
  | some ⟨h, t⟩, ⟨H, h1, h6⟩ =>
    obtain ⟨a, b⟩ := put_ok (k := k) (v := x) (D := fun _ => True) H h6 (fun _ _ => trivial) trivial
    refine ⟨?_, a, ?_⟩
    · show OkO (grown h (putT h k x t).2.1 (putT h k x t).2.2)
      revert b
      generalize (putT h k x t).2.1 = t1
      cases (putT h k x t).2.2 with
      | none => exact fun b => ⟨b.1, by have := b.2.1; omega, b.2.2.1⟩
      | some q =>
        obtain ⟨u, m⟩ := q
        intro b
        obtain ⟨b1, b2, b3, b4, b5, b6, b7, b8⟩ := b
        refine ⟨ok_node.2 ⟨⟨rfl, List.pairwise_singleton _ _, fun i c hc => ?_⟩, fun c hc => ?_⟩, Nat.le_refl _, show 1 ≤ 6 from by decide⟩
        · match i, hc with
          | 0, hc =>
            have e : t1 = c := by simpa using hc
            subst e
            exact ⟨b1, fun y hy => way_none fun z hz => by rw [List.mem_singleton.1 hz]; exact (b5 y hy).2⟩
          | 1, hc =>
            have e : m = c := by simpa using hc
            subst e
            exact ⟨b2, fun y hy => by rw [way_all fun z hz => by rw [List.mem_singleton.1 hz]; exact (b6 y hy).2]; rfl⟩
          | i + 2, hc => simp at hc
        · rcases List.mem_cons.1 hc with rfl | hc
          · exact b3
          · rw [List.mem_singleton.1 hc]; exact b4
    · show ∀ p, p ∈ toLO (grown h (putT h k x t).2.1 (putT h k x t).2.2) ↔ _
      revert b
      generalize (putT h k x t).2.1 = t1
      cases (putT h k x t).2.2 with
      | none => exact fun b => b.2.2.2.2
      | some q =>
        obtain ⟨u, m⟩ := q
        intro b p
        refine Iff.trans ?_ (b.2.2.2.2.2.2.2 p)
        show p ∈ [t1, m].flatMap (toL h) ↔ _
        simp
/-- Lists in order of the same members are the same. -/
theorem sorted_ext : ∀ {a b : List (Ky × V)}, Sorted (a.map Prod.fst) → Sorted (b.map Prod.fst) → (∀ p, p ∈ a ↔ p ∈ b) → a = b
  | [], [], _, _, _ => rfl
  | [], q :: b, _, _, h => by have := (h q).2 (List.mem_cons_self ..); cases this
  | p :: a, [], _, _, h => by have := (h p).1 (List.mem_cons_self ..); cases this
  | p :: a, q :: b, ha, hb, h => by
    have ha' := List.pairwise_cons.1 (show Sorted (p.1 :: a.map Prod.fst) from ha)
    have hb' := List.pairwise_cons.1 (show Sorted (q.1 :: b.map Prod.fst) from hb)
    have e : p = q := by
      have h1 := (h p).1 (List.mem_cons_self ..)
      have h2 := (h q).2 (List.mem_cons_self ..)
      rcases List.mem_cons.1 h1 with e | h1
      · exact e
      · rcases List.mem_cons.1 h2 with e | h2
        · exact e.symm
        · have q1 := hb'.1 _ (List.mem_map.2 ⟨p, h1, rfl⟩)
          have q2 := ha'.1 _ (List.mem_map.2 ⟨q, h2, rfl⟩)
          grind
    subst e
    have hp : ∀ r ∈ a, r ≠ p := fun r hr e => by
      have := ha'.1 _ (List.mem_map.2 ⟨r, hr, rfl⟩)
      rw [e] at this; grind
    have hq : ∀ r ∈ b, r ≠ p := fun r hr e => by
      have := hb'.1 _ (List.mem_map.2 ⟨r, hr, rfl⟩)
      rw [e] at this; grind
    rw [sorted_ext ha'.2 hb'.2 fun r => ⟨fun hr => by
      rcases List.mem_cons.1 ((h r).1 (List.mem_cons_of_mem _ hr)) with e | h3
      · exact absurd e (hp r hr)
      · exact h3, fun hr => by
      rcases List.mem_cons.1 ((h r).2 (List.mem_cons_of_mem _ hr)) with e | h3
      · exact absurd e (hq r hr)
      · exact h3⟩]
/-! levels -/
def lvl : (h : Nat) → List (Tr V h) → List (List Nat)
  | 0, now => [now.map (szT 0)]
  | h + 1, now => now.map (szT (h + 1)) :: lvl h (now.flatMap fun t => t.2)
def levels : TO V → List (List Nat)
  | none => []
  | some ⟨h, t⟩ => lvl h [t]
theorem lvl_len : ∀ {h : Nat} {now : List (Tr V h)}, (lvl h now).length = h + 1
  | 0, now => rfl
  | h + 1, now => by show (lvl h _).length + 1 = _; rw [lvl_len]
theorem lvl_last : ∀ {h : Nat} {now : List (Tr V h)}, ((lvl h now).getLast?.map List.sum).getD 0 = (now.flatMap (toL h)).length
  | 0, now => by
    show (now.map (szT 0)).sum = _
    rw [List.length_flatMap]; rfl
  | h + 1, now => by
    have ih := lvl_last (h := h) (now := now.flatMap fun t => t.2)
    have e : (lvl (h + 1) now).getLast? = (lvl h (now.flatMap fun t => t.2)).getLast? := by
      show (_ :: lvl h _).getLast? = _
      have : (lvl h (now.flatMap fun t => t.2)) ≠ [] := fun e => by have := lvl_len (h := h) (now := now.flatMap fun t => t.2); rw [e] at this; simp at this
      exact List.getLast?_cons_of_ne_nil this
    rw [e, ih, List.flatMap_assoc]; rfl
end
end Go.Bt

/- Whole trees as objects. -/
namespace Go.Gx
open Go.Bt Go.RowKit
section
variable {V : Type} {κ : Kd V} {w w' : World} {F G H W R R' : Nat → Prop} {base b t h p q n tT : Nat} {v root : Value} {k : Ky} {x : V} {o : TO V} {tr : Tr V h}
theorem TreeR.monoR : ∀ {h : Nat} {p : Nat} {tr : Tr V h} {W : Nat → Prop}, TreeR κ R w h p tr W → (∀ k, R k → R' k) → TreeR κ R' w h p tr W
  | 0, _, _, _, ⟨pv, D, L, e⟩, hs => ⟨pv, D, { L with kr := fun x hx k hk => hs k (L.kr x hx k hk) }, e⟩
  | _ + 1, _, _, _, ⟨kv, cv, K, P, G, N, Ks, e⟩, hs => ⟨kv, cv, K, P, G, { N with kr := fun x hx k hk => hs k (N.kr x hx k hk) }, Ks.imp fun _ _ _ q _ => TreeR.monoR q hs, e⟩
theorem TreeR.ltR : ∀ {h : Nat} {p : Nat} {tr : Tr V h} {W : Nat → Prop}, TreeR κ R w h p tr W → TreeR κ (fun j => R j ∧ j < w.heap.size) w h p tr W
  | 0, _, _, _, ⟨pv, D, L, e⟩ => ⟨pv, D, { L with kr := fun x hx k hk => ⟨L.kr x hx k hk, ((L.ks x hx).lt k hk).2⟩ }, e⟩
  | _ + 1, _, _, _, ⟨kv, cv, K, P, G, N, Ks, e⟩ => ⟨kv, cv, K, P, G, { N with kr := fun x hx k hk => ⟨N.kr x hx k hk, ((N.ks x hx).lt k hk).2⟩ }, Ks.imp fun _ _ _ q _ => TreeR.ltR q, e⟩
/-- A tree that has a root. -/
def TreeO (κ : Kd V) (R : Nat → Prop) (w : World) (o : TO V) (q : Nat) (W : Nat → Prop) : Prop := match o with | none => False | some ⟨h, t⟩ => TreeR κ R w h q t W
theorem TreeO.lt (T : TreeO κ R w o q W) : ∀ k, W k → 0 ≤ k ∧ k < w.heap.size := by
  match o, T with
  | some ⟨h, t⟩, T => exact (show TreeR κ R w h q t W from T).lt
theorem TreeO.keepG (T : TreeO κ R w o q W) (E : Gr w w' H) (hd : Dj W H) (hn : NoK w H) : TreeO κ R w' o q W := by
  match o, T with
  | some ⟨h, t⟩, T => exact TreeR.keepG (show TreeR κ R w h q t W from T) E hd hn
theorem TreeO.monoR (T : TreeO κ R w o q W) (hs : ∀ k, R k → R' k) : TreeO κ R' w o q W := by
  match o, T with
  | some ⟨h, t⟩, T => exact TreeR.monoR (show TreeR κ R w h q t W from T) hs
def TopR (κ : Kd V) (tT base : Nat) (w : World) (p : Nat) (o : TO V) (F : Nat → Prop) : Prop :=
  F p ∧ (∀ k, F k → base ≤ k ∧ k < w.heap.size) ∧ OkO o ∧ ∃ root, Bx w p tT [root] ∧ (o = none ∧ root = .pointer none ∨ ∃ q R W, root = ptr q 0 ∧ TreeO κ R w o q W ∧ (∀ k, W k → F k) ∧ ∀ k, R k → F k)
theorem TopR.lt (T : TopR κ tT base w p o F) : ∀ k, F k → base ≤ k ∧ k < w.heap.size := T.2.1
theorem TopR.keepG (T : TopR κ tT base w p o F) (E : Gr w w' H) (hd : Dj F H) : TopR κ tT base w' p o F := by
  obtain ⟨h1, h2, h3, root, hB, hr⟩ := T
  refine ⟨h1, fun k hk => ⟨(h2 k hk).1, Nat.lt_of_lt_of_le (h2 k hk).2 E.size⟩, h3, root, hB.keepG E (hd p h1), ?_⟩
  rcases hr with hr | ⟨q, R, W, e, hT, hW, hR⟩
  · exact .inl hr
  · refine .inr ⟨q, R, W, e, ?_, hW, hR⟩
    match o, hT with
    | some ⟨h, t⟩, hT => exact TreeR.keepR hT E (fun k hk => hd k (hW k hk)) (fun k hk => hd k (hR k hk))
/-- The tree behind a put: all that is new is its own. -/
theorem TopR.after {o2 : TO V} (T : TopR κ tT base w p o F) (hb : base ≤ w.heap.size) (E : w.heap.size ≤ w'.heap.size) (hO : OkO o2) (hB : Bx w' p tT [ptr q 0]) (hT : TreeO κ (fun j => F j ∨ w.heap.size ≤ j) w' o2 q W) (hW : ∀ j, W j → F j ∨ w.heap.size ≤ j) : ∃ F', TopR κ tT base w' p o2 F' ∧ NewF w.heap.size F F' := by
  refine ⟨fun j => F j ∨ (w.heap.size ≤ j ∧ j < w'.heap.size), ⟨.inl T.1, fun j hj => ?_, hO, _, hB, .inr ?_⟩, fun j hj => hj.imp id And.left⟩
  · rcases hj with hj | hj
    · have := T.2.1 j hj; omega
    · omega
  · match o2, hT with
    | some ⟨h, t⟩, hT =>
      have hT : TreeR κ (fun j => F j ∨ w.heap.size ≤ j) w' h q t W := hT
      refine ⟨q, _, W, rfl, hT.ltR, fun j hj => ?_, fun j hj => ?_⟩
      · exact (hW j hj).imp id fun h => ⟨h, hT.ty.lt j hj⟩
      · exact hj.1.imp id fun h => ⟨h, hj.2⟩
end
end Go.Gx
